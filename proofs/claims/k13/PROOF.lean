import PyProof.Rows.All
import Wide.All
import OpenK.AllK
import Wide.FinOn
import HandS.ForMost
import HandS.ForExc
import HandS.Wide
import HandS.EndBits
import HandS.IsInst
import HandS.Conv
import HandS.TupAny
import PyProof.Rows.StrIntSpec
import PyProof.FString3
import HandS.FStr
import HandS.Replace
import HandS.Style
import KE.KRevSl
import PyProof.SliceStr2
import HandS.ExcOwn
import HandS.TryOnly
import HandS.TryMany
import HandS.WordsExc
import PyProof.ExcBaseAll.ValueError
import PyProof.StrOps2
import HandS.More
import PyProof.StrLaws
import PyProof.Rows.StrMeet
import PyProof.Rows.SortShellAny
import HandS.TupMul
import HandS.ExcIs
import HandS.Dict
import HandS.ExcCtx
import HandS.RaiseFrom
import HandS.SuiteRaise
import HandS.TupLen
import HandS.WordsDict
import HandS.ExcInit
import HandS.ExcField
import HandS.DictComp
import HandS.Deep
import KE.IntTextLaws
import KE.KIntText
import KE.IntTextText
import PySem.Challenge.RW_sealchart_k13_what_an_office_refuses
set_option Elab.async false
set_option linter.all false
set_option maxRecDepth 100000
set_option maxHeartbeats 4000000
namespace HM
open PySem L2

/-! ### values, objects, results of the mirrors -/
inductive D where
  | non | bl (b : Bool) | int (i : Int) | str (s : List Nat) | tup (xs : List D) | ref (i : Nat) | scr (ns : List Int) | exn (a : Addr) | exr (a dx : Addr) (d : D)
  deriving Inhabited
inductive LO where
  | lst (xs : List D)
  | ins (c : String) (fs : List (String × D))
  | dK (kvs : List (Sum Int (List Nat) × D))
  | dT (kvs : List (List (Sum Int (List Nat)) × D))
  deriving Inhabited
abbrev LH := List LO
abbrev EN := List (Option D)
structure XO where
  cls : String
  flds : List (String × D)
inductive Res (α : Type) where
  | ok (a : α) (h : LH)
  | exc (e : XO) (h : LH)
  | bad
def Res.bind {α β : Type} (x : Res α) (f : α → LH → Res β) : Res β := match x with
  | .ok a h => f a h
  | .exc e h => .exc e h
  | .bad => .bad
abbrev M (α : Type) := EN → LH → Res α
abbrev MF := List D → LH → Res D
inductive RSt where
  | next (e : EN) (h : LH)
  | ret (d : D) (h : LH)
  | brk (e : EN) (h : LH)
  | cnt (e : EN) (h : LH)
  | exc (x : XO) (e : EN) (h : LH)
  | bad
abbrev MS := EN → LH → RSt

/-! ### the relations -/
mutual
inductive RD (K : PySem.W.Frag) (φ : Nat → Addr) (n : Nat) (H : Hp) : D → V → Prop
  | non : RD K φ n H .non .non
  | bl (b : Bool) : RD K φ n H (.bl b) (.bl b)
  | int (i : Int) : RD K φ n H (.int i) (.int i)
  | str (s : List Nat) : RD K φ n H (.str s) (.str ⟨s.toArray⟩)
  | tup {xs : List D} {vs : List V} {a : Addr} : SqT K H a vs → RDs K φ n H xs vs → RD K φ n H (.tup xs) (.ref a)
  | ref {i : Nat} : i < n → RD K φ n H (.ref i) (.ref (φ i))
  | scr {ns : List Int} {a : Addr} : ((∃ o, H a = some (.frz o (.lst (ns.map V.int)))) ∨ (∃ (o : Obj) (its : Array Value) (m : Nat), K.lookup a = some o ∧ o.cls = .type "list" ∧ o.dict = none ∧ o.data = .seq its m ∧ its.size ≤ sizeLine ∧ Vals (ns.map V.int) its.toList)) → RD K φ n H (.scr ns) (.ref a)
  | exn (a : Addr) : RD K φ n H (.exn a) (.ref a)
  | exr {d : D} {v : V} (a dx : Addr) : H dx = some (.xd [(Str.ofString "reason", v)]) → RD K φ n H d v → RD K φ n H (.exr a dx d) (.ref a)
inductive RDs (K : PySem.W.Frag) (φ : Nat → Addr) (n : Nat) (H : Hp) : List D → List V → Prop
  | nil : RDs K φ n H [] []
  | cons {d : D} {v : V} {ds : List D} {vs : List V} : RD K φ n H d v → RDs K φ n H ds vs → RDs K φ n H (d :: ds) (v :: vs)
end
def kc : Sum Int (List Nat) → Key
  | .inl i => .inl i
  | .inr s => .inr ⟨s.toArray⟩
inductive RF (K : PySem.W.Frag) (φ : Nat → Addr) (n : Nat) (H : Hp) : List (String × D) → List (Str × V) → Prop
  | nil : RF K φ n H [] []
  | cons {f : String} {d : D} {v : V} {ds : List (String × D)} {vs : List (Str × V)} : RD K φ n H d v → RF K φ n H ds vs → RF K φ n H ((f, d) :: ds) ((Str.ofString f, v) :: vs)
inductive RKs (K : PySem.W.Frag) (φ : Nat → Addr) (n : Nat) (H : Hp) : List (Sum Int (List Nat) × D) → List (Key × V) → Prop
  | nil : RKs K φ n H [] []
  | cons {k : Sum Int (List Nat)} {d : D} {v : V} {ds : List (Sum Int (List Nat) × D)} {vs : List (Key × V)} : RD K φ n H d v → RKs K φ n H ds vs → RKs K φ n H ((k, d) :: ds) ((kc k, v) :: vs)
inductive RTs (K : PySem.W.Frag) (φ : Nat → Addr) (n : Nat) (H : Hp) : List (List (Sum Int (List Nat)) × D) → List (List Key × V) → Prop
  | nil : RTs K φ n H [] []
  | cons {k : List (Sum Int (List Nat))} {d : D} {v : V} {ds : List (List (Sum Int (List Nat)) × D)} {vs : List (List Key × V)} : RD K φ n H d v → RTs K φ n H ds vs → RTs K φ n H ((k, d) :: ds) ((k.map kc, v) :: vs)
/-- an object of the logical heap stands at a -/
def OA (K : PySem.W.Frag) (mg : Str → Option Value) (φ : Nat → Addr) (n : Nat) (H : Hp) (a : Addr) : LO → Prop
  | .lst ds => ∃ vs, H a = some (.lst vs) ∧ RDs K φ n H ds vs
  | .ins c fs => ∃ C dx vs, mg (Str.ofString c) = some (.ref C) ∧ H a = some (.ins C dx vs) ∧ RF K φ n H fs vs
  | .dK kvs => ∃ vs, H a = some (.dK vs) ∧ RKs K φ n H kvs vs
  | .dT kvs => ∃ vs, H a = some (.dT vs) ∧ RTs K φ n H kvs vs
structure HR (K : PySem.W.Frag) (mg : Str → Option Value) (φ : Nat → Addr) (lh : LH) (H : Hp) : Prop where
  inj : ∀ i j, i < lh.length → j < lh.length → φ i = φ j → i = j
  obj : ∀ i o, lh[i]? = some o → OA K mg φ lh.length H (φ i) o
structure Ext (H H' : Hp) : Prop where
  tup : ∀ a xs, H a = some (.tup xs) → H' a = some (.tup xs)
  frz : ∀ a o u, H a = some (.frz o u) → H' a = some (.frz o u)
  xd : ∀ a vs, H a = some (.xd vs) → H' a = some (.xd vs)
theorem Ext.refl (H : Hp) : Ext H H := ⟨fun _ _ h => h, fun _ _ _ h => h, fun _ _ h => h⟩
theorem Ext.trans {H H1 H2 : Hp} (a : Ext H H1) (b : Ext H1 H2) : Ext H H2 := ⟨fun x xs h => b.tup x xs (a.tup x xs h), fun x o u h => b.frz x o u (a.frz x o u h), fun x vs h => b.xd x vs (a.xd x vs h)⟩
/-- a state behind another -/
structure Po (K : PySem.W.Frag) (mg : Str → Option Value) (φ : Nat → Addr) (lh : LH) (H : Hp) (φ' : Nat → Addr) (lh' : LH) (H' : Hp) : Prop where
  le : lh.length ≤ lh'.length
  ag : ∀ i, i < lh.length → φ' i = φ i
  ext : Ext H H'
  hr : HR K mg φ' lh' H'
section
variable {K : PySem.W.Frag} {mg : Str → Option Value} {φ φ' φ1 φ2 : Nat → Addr} {lh lh' lh1 lh2 : LH} {H H' H1 H2 : Hp} {n n' : Nat}
theorem Po.refl (h : HR K mg φ lh H) : Po K mg φ lh H φ lh H := ⟨Nat.le_refl _, fun _ _ => rfl, Ext.refl H, h⟩
theorem Po.trans (a : Po K mg φ lh H φ1 lh1 H1) (b : Po K mg φ1 lh1 H1 φ2 lh2 H2) : Po K mg φ lh H φ2 lh2 H2 :=
  ⟨Nat.le_trans a.le b.le, fun i hi => (b.ag i (Nat.lt_of_lt_of_le hi a.le)).trans (a.ag i hi), a.ext.trans b.ext, b.hr⟩
theorem sqT_ext {a : Addr} {vs : List V} (e : Ext H H') (h : SqT K H a vs) : SqT K H' a vs := by
  rcases h with (h | ⟨o, h⟩) | h
  · exact .inl (.inl (e.tup _ _ h))
  · exact .inl (.inr ⟨o, e.frz _ _ _ h⟩)
  · exact .inr h
mutual
theorem RD.mono (hn : n ≤ n') (ag : ∀ i, i < n → φ' i = φ i) (e : Ext H H') : ∀ {d : D} {v : V}, RD K φ n H d v → RD K φ' n' H' d v
  | _, _, .non => .non
  | _, _, .bl b => .bl b
  | _, _, .int i => .int i
  | _, _, .str s => .str s
  | _, _, .tup h r => .tup (sqT_ext e h) (RDs.mono hn ag e r)
  | _, _, .ref (i := i) h => by
    have q := ag i h
    rw [← q]
    exact .ref (Nat.lt_of_lt_of_le h hn)
  | _, _, .scr h => .scr (h.imp (fun ⟨o, h⟩ => ⟨o, e.frz _ _ _ h⟩) id)
  | _, _, .exn a => .exn a
  | _, _, .exr a dx h r => .exr a dx (e.xd _ _ h) (RD.mono hn ag e r)
theorem RDs.mono (hn : n ≤ n') (ag : ∀ i, i < n → φ' i = φ i) (e : Ext H H') : ∀ {d : List D} {v : List V}, RDs K φ n H d v → RDs K φ' n' H' d v
  | _, _, .nil => .nil
  | _, _, .cons h r => .cons (RD.mono hn ag e h) (RDs.mono hn ag e r)
end
theorem RF.mono (hn : n ≤ n') (ag : ∀ i, i < n → φ' i = φ i) (e : Ext H H') {d v} (r : RF K φ n H d v) : RF K φ' n' H' d v := by
  induction r with
  | nil => exact .nil
  | cons h _ ih => exact .cons (h.mono hn ag e) ih
theorem RKs.mono (hn : n ≤ n') (ag : ∀ i, i < n → φ' i = φ i) (e : Ext H H') {d v} (r : RKs K φ n H d v) : RKs K φ' n' H' d v := by
  induction r with
  | nil => exact .nil
  | cons h _ ih => exact .cons (h.mono hn ag e) ih
theorem RTs.mono (hn : n ≤ n') (ag : ∀ i, i < n → φ' i = φ i) (e : Ext H H') {d v} (r : RTs K φ n H d v) : RTs K φ' n' H' d v := by
  induction r with
  | nil => exact .nil
  | cons h _ ih => exact .cons (h.mono hn ag e) ih
theorem RD.up (p : Po K mg φ lh H φ' lh' H') {d : D} {v : V} (r : RD K φ lh.length H d v) : RD K φ' lh'.length H' d v := r.mono p.le p.ag p.ext
theorem RDs.up (p : Po K mg φ lh H φ' lh' H') {d : List D} {v : List V} (r : RDs K φ lh.length H d v) : RDs K φ' lh'.length H' d v := r.mono p.le p.ag p.ext
theorem RDs.len {d : List D} {v : List V} (r : RDs K φ n H d v) : d.length = v.length := by
  induction d generalizing v with
  | nil => cases r; rfl
  | cons a l ih =>
    cases r with
    | cons h q => rw [List.length_cons, List.length_cons, ih q]
theorem RDs.get {d : List D} {v : List V} (r : RDs K φ n H d v) {i : Nat} {x : D} (h : d[i]? = some x) : ∃ y, v[i]? = some y ∧ RD K φ n H x y := by
  induction d generalizing v i with
  | nil => simp at h
  | cons a l ih =>
    cases r with
    | cons ha q =>
      cases i with
      | zero =>
        simp only [List.getElem?_cons_zero, Option.some.injEq] at h ⊢
        subst h
        exact ⟨_, rfl, ha⟩
      | succ i =>
        simp only [List.getElem?_cons_succ] at h ⊢
        exact ih q h
theorem RDs.get' {d : List D} {v : List V} (r : RDs K φ n H d v) {i : Nat} {y : V} (h : v[i]? = some y) : ∃ x, d[i]? = some x ∧ RD K φ n H x y := by
  have hl := r.len
  have hi := (List.getElem?_eq_some_iff.mp h).1
  obtain ⟨y', e, q⟩ := r.get (i := i) (x := d[i]'(by omega)) (by simp)
  rw [h] at e
  cases e
  exact ⟨_, by simp, q⟩
theorem RDs.app {d e : List D} {v w : List V} (r : RDs K φ n H d v) (q : RDs K φ n H e w) : RDs K φ n H (d ++ e) (v ++ w) := by
  induction d generalizing v with
  | nil => cases r; exact q
  | cons a l ih =>
    cases r with
    | cons h t => exact .cons h (ih t)
theorem RDs.take {d : List D} {v : List V} (r : RDs K φ n H d v) (i : Nat) : RDs K φ n H (d.take i) (v.take i) := by
  induction d generalizing v i with
  | nil => cases r; simp; exact .nil
  | cons a l ih =>
    cases r with
    | cons h t =>
      cases i with
      | zero => exact .nil
      | succ i => exact .cons h (ih t i)
theorem RDs.drop {d : List D} {v : List V} (r : RDs K φ n H d v) (i : Nat) : RDs K φ n H (d.drop i) (v.drop i) := by
  induction d generalizing v i with
  | nil => cases r; simp; exact .nil
  | cons a l ih =>
    cases r with
    | cons h t =>
      cases i with
      | zero => exact .cons h t
      | succ i => exact ih t i
theorem RDs.set {d : List D} {v : List V} (r : RDs K φ n H d v) {x : D} {y : V} (q : RD K φ n H x y) (i : Nat) : RDs K φ n H (d.set i x) (v.set i y) := by
  induction d generalizing v i with
  | nil => cases r; exact .nil
  | cons a l ih =>
    cases r with
    | cons h t =>
      cases i with
      | zero => exact .cons q t
      | succ i => exact .cons h (ih t i)
theorem OA.mono (hn : n ≤ n') (ag : ∀ i, i < n → φ' i = φ i) (e : Ext H H') {a : Addr} (ha : H' a = H a) : ∀ {o : LO}, OA K mg φ n H a o → OA K mg φ' n' H' a o
  | .lst _, ⟨vs, h, r⟩ => ⟨vs, ha.trans h, r.mono hn ag e⟩
  | .ins _ _, ⟨C, dx, vs, m, h, r⟩ => ⟨C, dx, vs, m, ha.trans h, r.mono hn ag e⟩
  | .dK _, ⟨vs, h, r⟩ => ⟨vs, ha.trans h, r.mono hn ag e⟩
  | .dT _, ⟨vs, h, r⟩ => ⟨vs, ha.trans h, r.mono hn ag e⟩
theorem OA.some {a : Addr} : ∀ {o : LO}, OA K mg φ n H a o → ∃ u, H a = some u ∧ (∀ xs, u ≠ .tup xs) ∧ ((∀ ob w, u ≠ .frz ob w) ∧ ∀ vs, u ≠ .xd vs)
  | .lst _, ⟨vs, h, r⟩ => ⟨_, h, fun _ z => by (cases z), fun _ _ z => by (cases z), fun _ z => by (cases z)⟩
  | .ins _ _, ⟨C, dx, vs, m, h, r⟩ => ⟨_, h, fun _ z => by (cases z), fun _ _ z => by (cases z), fun _ z => by (cases z)⟩
  | .dK _, ⟨vs, h, r⟩ => ⟨_, h, fun _ z => by (cases z), fun _ _ z => by (cases z), fun _ z => by (cases z)⟩
  | .dT _, ⟨vs, h, r⟩ => ⟨_, h, fun _ z => by (cases z), fun _ _ z => by (cases z), fun _ z => by (cases z)⟩
theorem HR.lt_some (h : HR K mg φ lh H) {i : Nat} (hi : i < lh.length) : ∃ u, H (φ i) = Option.some u ∧ (∀ xs, u ≠ .tup xs) ∧ ((∀ ob w, u ≠ .frz ob w) ∧ ∀ vs, u ≠ .xd vs) :=
  (h.obj i lh[i] (by simp [hi])).some
theorem Ext.new {p : Addr} {o : HO} (hp : H p = none) : Ext H (upd H p o) :=
  ⟨fun a xs h => by rw [upd_ne (ne_of_none h hp)]; exact h, fun a ob u h => by rw [upd_ne (ne_of_none h hp)]; exact h, fun a vs h => by rw [upd_ne (ne_of_none h hp)]; exact h⟩
theorem Ext.put {p : Addr} {o u : HO} (hp : H p = some u) (h1 : ∀ xs, u ≠ .tup xs) (h2 : (∀ ob w, u ≠ .frz ob w) ∧ ∀ vs, u ≠ .xd vs) : Ext H (upd H p o) := by
  refine ⟨fun a xs h => ?_, fun a ob w h => ?_, fun a vs h => ?_⟩
  · rw [upd_ne]
    · exact h
    · rintro rfl
      rw [hp] at h
      exact h1 _ (Option.some.inj h)
  · rw [upd_ne]
    · exact h
    · rintro rfl
      rw [hp] at h
      exact h2.1 _ _ (Option.some.inj h)
  · rw [upd_ne]
    · exact h
    · rintro rfl
      rw [hp] at h
      exact h2.2 _ (Option.some.inj h)
/-- a new object that is not of the logical heap (a tuple) -/
theorem Po.side {p : Addr} {o : HO} (h : HR K mg φ lh H) (hp : H p = none) : Po K mg φ lh H φ lh (upd H p o) := by
  have e : Ext H (upd H p o) := Ext.new hp
  refine ⟨Nat.le_refl _, fun _ _ => rfl, e, h.inj, fun i u hi => (h.obj i u hi).mono (Nat.le_refl _) (fun _ _ => rfl) e ?_⟩
  obtain ⟨w, hw, _⟩ := (h.obj i u hi).some
  exact upd_ne (ne_of_none hw hp)
def ext1 (φ : Nat → Addr) (n : Nat) (p : Addr) : Nat → Addr := fun i => if i = n then p else φ i
theorem ext1_lt {p : Addr} {i : Nat} (h : i < n) : ext1 φ n p i = φ i := by
  unfold ext1; rw [if_neg (Nat.ne_of_lt h)]
theorem ext1_at {p : Addr} : ext1 φ n p n = p := by
  unfold ext1; rw [if_pos rfl]
/-- a new object of the logical heap -/
theorem Po.new {p : Addr} {o : HO} {u : LO} (h : HR K mg φ lh H) (hp : H p = none)
    (ho : OA K mg (ext1 φ lh.length p) (lh.length + 1) (upd H p o) p u) : Po K mg φ lh H (ext1 φ lh.length p) (lh ++ [u]) (upd H p o) := by
  have e : Ext H (upd H p o) := Ext.new hp
  have hl : (lh ++ [u]).length = lh.length + 1 := by simp
  have hne : ∀ i, i < lh.length → φ i ≠ p := fun i hi z => by
    obtain ⟨w, hw, _⟩ := h.lt_some hi
    rw [z, hp] at hw
    cases hw
  refine ⟨by omega, fun i hi => ext1_lt hi, e, fun i j hi hj z => ?_, fun i w hi => ?_⟩
  · rw [hl] at hi hj
    by_cases c : i = lh.length
    · by_cases d : j = lh.length
      · omega
      · subst c
        rw [ext1_at, ext1_lt (by omega)] at z
        exact absurd z.symm (hne j (by omega))
    · by_cases d : j = lh.length
      · subst d
        rw [ext1_at, ext1_lt (by omega)] at z
        exact absurd z (hne i (by omega))
      · rw [ext1_lt (by omega), ext1_lt (by omega)] at z
        exact h.inj i j (by omega) (by omega) z
  · rw [hl]
    by_cases c : i = lh.length
    · subst c
      rw [List.getElem?_append_right (Nat.le_refl _), Nat.sub_self] at hi
      simp only [List.getElem?_cons_zero, Option.some.injEq] at hi
      subst hi
      rw [ext1_at]
      exact ho
    · have hi2 : i < lh.length := by
        have := (List.getElem?_eq_some_iff.mp hi).1
        rw [hl] at this
        omega
      rw [List.getElem?_append_left hi2] at hi
      rw [ext1_lt hi2]
      exact (h.obj i w hi).mono (by omega) (fun j hj => ext1_lt hj) e (upd_ne (hne i hi2))
/-- an object of the logical heap is changed -/
theorem Po.put {i : Nat} {o : HO} {u : LO} (h : HR K mg φ lh H) (hi : i < lh.length) (ho : OA K mg φ lh.length (upd H (φ i) o) (φ i) u) : Po K mg φ lh H φ (lh.set i u) (upd H (φ i) o) := by
  obtain ⟨w, hw, h1, h2⟩ := h.lt_some hi
  have e : Ext H (upd H (φ i) o) := Ext.put hw h1 h2
  refine ⟨by simp, fun _ _ => rfl, e, by simpa using h.inj, fun j x hj => ?_⟩
  rw [List.length_set]
  by_cases c : j = i
  · subst c
    rw [List.getElem?_set_self hi] at hj
    cases hj
    exact ho
  · rw [List.getElem?_set_ne (Ne.symm c)] at hj
    have hj2 := (List.getElem?_eq_some_iff.mp hj).1
    exact (h.obj j x hj).mono (Nat.le_refl _) (fun _ _ => rfl) e (upd_ne fun z => c (h.inj j i hj2 hi z))
end

/-! ### the slots -/
structure RS (K : PySem.W.Frag) (φ : Nat → Addr) (n : Nat) (H : Hp) (env : EN) (σ : L2.St) : Prop where
  len : env.length = σ.length
  at' : ∀ (i : Nat) (d : D), env[i]? = some (some d) → ∃ v, σ[i]? = some (some v) ∧ RD K φ n H d v
section
variable {K : PySem.W.Frag} {mg : Str → Option Value} {φ φ' : Nat → Addr} {lh lh' : LH} {H H' : Hp} {n : Nat} {env : EN} {σ : L2.St}
theorem RS.up (p : Po K mg φ lh H φ' lh' H') (r : RS K φ lh.length H env σ) : RS K φ' lh'.length H' env σ := ⟨r.len, fun i d h => by
  obtain ⟨v, e, q⟩ := r.at' i d h
  exact ⟨v, e, q.up p⟩⟩
theorem RS.set (r : RS K φ n H env σ) {d : D} {v : V} (q : RD K φ n H d v) (i : Nat) : RS K φ n H (env.set i (some d)) (σ.set i (some v)) := by
  refine ⟨by simpa using r.len, fun j x h => ?_⟩
  by_cases c : i = j
  · subst c
    have hi := (List.getElem?_eq_some_iff.mp h).1
    rw [List.length_set] at hi
    rw [List.getElem?_set_self hi] at h
    cases h
    exact ⟨v, by rw [List.getElem?_set_self (by rw [← r.len]; exact hi)], q⟩
  · rw [List.getElem?_set_ne c] at h
    obtain ⟨w, e, q⟩ := r.at' j x h
    exact ⟨w, by rw [List.getElem?_set_ne c]; exact e, q⟩
theorem RS.clear (r : RS K φ n H env σ) (i : Nat) : RS K φ n H (env.set i none) (σ.set i none) := by
  refine ⟨by simpa using r.len, fun j x h => ?_⟩
  by_cases c : i = j
  · subst c
    have hi := (List.getElem?_eq_some_iff.mp h).1
    rw [List.length_set] at hi
    rw [List.getElem?_set_self hi] at h
    cases h
  · rw [List.getElem?_set_ne c] at h
    obtain ⟨w, e, q⟩ := r.at' j x h
    exact ⟨w, by rw [List.getElem?_set_ne c]; exact e, q⟩
end

/-! ### readings from mirrors -/
/-- an exception as it flies -/
def ER (K : PySem.W.Frag) (mg : Str → Option Value) (φ : Nat → Addr) (n : Nat) (H : Hp) (e : XO) (cls : Value) (dd : Option Addr) : Prop :=
  ∃ C, mg (Str.ofString e.cls) = some (.ref C) ∧ cls = .ref C ∧ (e.flds = [] → dd = none) ∧ (e.flds ≠ [] → ∃ a vs, dd = some a ∧ H a = some (.xd vs) ∧ RF K φ n H e.flds vs)
section
variable (K : PySem.W.Frag) (mg : Str → Option Value) (W : WX) (σ : L2.St)
def wp {α β : Type} (R : (Nat → Addr) → Nat → Hp → α → β → Prop) (x : Res α) (φ : Nat → Addr) (lh : LH) (H : Hp) (Q : β → Hp → Prop) : Prop :=
  match x with
  | .ok d lh' => ∀ φ' v H', Po K mg φ lh H φ' lh' H' → R φ' lh'.length H' d v → Q v H'
  | .exc e lh' => ∀ φ' cls dd H', Po K mg φ lh H φ' lh' H' → ER K mg φ' lh'.length H' e cls dd → W cls dd σ H'
  | .bad => False
end
abbrev REq {α : Type} : (Nat → Addr) → Nat → Hp → α → α → Prop := fun _ _ _ a b => a = b
section
variable (K : PySem.W.Frag) (mg : Str → Option Value) (W : WX)
def rd {α β : Type} (R : (Nat → Addr) → Nat → Hp → α → β → Prop) (m : M α) : L2.St → Hp → (β → Hp → Prop) → Prop := fun σ H Q =>
  ∃ φ env lh, HR K mg φ lh H ∧ RS K φ lh.length H env σ ∧ wp K mg W σ R (m env lh) φ lh H Q
abbrev rdE (m : M D) : TE := rd K mg W (RD K) m
abbrev rdT (m : M Bool) : TT := rd K mg W REq m
abbrev rdA (m : M (List D)) : TA := rd K mg W (RDs K) m
def rdS (m : MS) : TS := fun D σ H => ∃ φ env lh, HR K mg φ lh H ∧ RS K φ lh.length H env σ ∧ match m env lh with
  | .next env' lh' => ∀ φ' σ' H', Po K mg φ lh H φ' lh' H' → RS K φ' lh'.length H' env' σ' → D.nx σ' H'
  | .ret d lh' => ∀ φ' v H', Po K mg φ lh H φ' lh' H' → RD K φ' lh'.length H' d v → D.rt v H'
  | .brk env' lh' => ∀ φ' σ' H', Po K mg φ lh H φ' lh' H' → RS K φ' lh'.length H' env' σ' → D.bk σ' H'
  | .cnt env' lh' => ∀ φ' σ' H', Po K mg φ lh H φ' lh' H' → RS K φ' lh'.length H' env' σ' → D.ct σ' H'
  | .exc e env' lh' => ∀ φ' cls dd σ' H', Po K mg φ lh H φ' lh' H' → ER K mg φ' lh'.length H' e cls dd → RS K φ' lh'.length H' env' σ' → W cls dd σ' H'
  | .bad => False
end
section
variable {K : PySem.W.Frag} {mg : Str → Option Value} {W : WX} {σ : L2.St} {φ φ' : Nat → Addr} {lh lh' : LH} {H H' : Hp}
theorem wp_ok {α β : Type} {R : (Nat → Addr) → Nat → Hp → α → β → Prop} {d : α} {v : β} {Q : β → Hp → Prop} (h : wp K mg W σ R (.ok d lh') φ lh H Q) (p : Po K mg φ lh H φ' lh' H') (r : R φ' lh'.length H' d v) : Q v H' := h φ' v H' p r
/-- one step, then the rest -/
theorem wp_step {α β γ δ : Type} {R : (Nat → Addr) → Nat → Hp → α → β → Prop} {R' : (Nat → Addr) → Nat → Hp → γ → δ → Prop} {x : Res α} {f : α → LH → Res γ} {Q : δ → Hp → Prop} {G : β → Hp → Prop}
    (h : wp K mg W σ R' (x.bind f) φ lh H Q) (hg : ∀ d lh1 φ1 v H1, Po K mg φ lh H φ1 lh1 H1 → R φ1 lh1.length H1 d v → wp K mg W σ R' (f d lh1) φ1 lh1 H1 Q → G v H1) : wp K mg W σ R x φ lh H G := by
  cases x with
  | ok d lh1 =>
    intro φ1 v H1 p r
    refine hg d lh1 φ1 v H1 p r ?_
    have h' : wp K mg W σ R' (f d lh1) φ lh H Q := h
    revert h'
    cases f d lh1 with
    | ok e lh2 => exact fun h' φ2 w H2 p2 r2 => h' φ2 w H2 (p.trans p2) r2
    | exc e lh2 => exact fun h' φ2 c dd H2 p2 r2 => h' φ2 c dd H2 (p.trans p2) r2
    | bad => exact fun h' => h'
  | exc e lh1 => exact h
  | bad => exact h
theorem rd_of {α β : Type} {R : (Nat → Addr) → Nat → Hp → α → β → Prop} {m : M α} {Q : β → Hp → Prop} {env : EN} (h1 : HR K mg φ lh H) (h2 : RS K φ lh.length H env σ) (h : wp K mg W σ R (m env lh) φ lh H Q) : rd K mg W R m σ H Q := ⟨φ, env, lh, h1, h2, h⟩
end
theorem peI {X : Cx} {e : Expr} {t t' : TE} (h : PE X e t) (i : ∀ σ H Q, t' σ H Q → t σ H Q) : PE X e t' := ⟨fun pins s σ H Q I q => h.run pins s σ H Q I (i σ H Q q)⟩
theorem ptI {X : Cx} {e : Expr} {t t' : TT} (h : PT X e t) (i : ∀ σ H Q, t' σ H Q → t σ H Q) : PT X e t' := ⟨fun pins s σ H Q I q => h.run pins s σ H Q I (i σ H Q q)⟩
theorem pwI {X : Cx} {e : Expr} {t t' : TT} (h : PW X e t) (i : ∀ σ H Q, t' σ H Q → t σ H Q) : PW X e t' := ⟨fun wh pins s σ H Q I q => h.run wh pins s σ H Q I (i σ H Q q)⟩
theorem paI {X : Cx} {e : List Expr} {t t' : TA} (h : PA X e t) (i : ∀ σ H Q, t' σ H Q → t σ H Q) : PA X e t' := ⟨fun pos pins s σ H Q I q => h.run pos pins s σ H Q I (i σ H Q q)⟩
theorem psI {X : Cx} {e : Stmt} {t t' : TS} (h : PS X e t) (i : ∀ D σ H, t' D σ H → t D σ H) : PS X e t' := ⟨fun pins s σ H D I q => h.run pins s σ H D I (i D σ H q)⟩
theorem pssI {X : Cx} {e : List Stmt} {t t' : TS} (h : PSs X e t) (i : ∀ D σ H, t' D σ H → t D σ H) : PSs X e t' := ⟨fun pins s σ H D I q => h.run pins s σ H D I (i D σ H q)⟩
/-! ### the judgements of this layer -/
abbrev QE (X : Cx) (W : WX) (e : Expr) (m : M D) : Prop := PE X e (rdE X.K X.mg W m)
abbrev QT (X : Cx) (W : WX) (e : Expr) (m : M Bool) : Prop := PT X e (rdT X.K X.mg W m)
abbrev QW (X : Cx) (W : WX) (e : Expr) (m : M Bool) : Prop := PW X e (rdT X.K X.mg W m)
abbrev QA (X : Cx) (W : WX) (e : List Expr) (m : M (List D)) : Prop := PA X e (rdA X.K X.mg W m)
abbrev QS (X : Cx) (W : WX) (e : Stmt) (m : MS) : Prop := PS X e (rdS X.K X.mg W m)
abbrev QSs (X : Cx) (W : WX) (e : List Stmt) (m : MS) : Prop := PSs X e (rdS X.K X.mg W m)
end HM
set_option Elab.async false
set_option linter.all false
set_option maxRecDepth 100000
set_option maxHeartbeats 4000000
namespace HM
open PySem L2
section
variable {K : PySem.W.Frag} {mg : Str → Option Value} {W : WX} {σ : L2.St} {φ φ' : Nat → Addr} {lh lh' : LH} {H H' : Hp} {n : Nat}
/-! ### what values are -/
theorem RD.int_inv {i : Int} {v : V} (r : RD K φ n H (.int i) v) : v = .int i := by cases r; rfl
theorem RD.str_inv {s : List Nat} {v : V} (r : RD K φ n H (.str s) v) : v = .str ⟨s.toArray⟩ := by cases r; rfl
theorem RD.bl_inv {b : Bool} {v : V} (r : RD K φ n H (.bl b) v) : v = .bl b := by cases r; rfl
theorem RD.non_inv {v : V} (r : RD K φ n H .non v) : v = .non := by cases r; rfl
theorem RD.tup_inv {xs : List D} {v : V} (r : RD K φ n H (.tup xs) v) : ∃ a vs, v = .ref a ∧ SqT K H a vs ∧ RDs K φ n H xs vs := by
  cases r with
  | tup h q => exact ⟨_, _, rfl, h, q⟩
theorem RD.ref_inv {i : Nat} {v : V} (r : RD K φ n H (.ref i) v) : v = .ref (φ i) ∧ i < n := by
  cases r with
  | ref h => exact ⟨rfl, h⟩
theorem RD.scr_inv {ns : List Int} {v : V} (r : RD K φ n H (.scr ns) v) : ∃ a, v = .ref a ∧ SqL K H a (ns.map V.int) := by
  cases r with
  | scr h =>
    rcases h with ⟨o, h⟩ | h
    · exact ⟨_, rfl, .inl (.inr ⟨o, h⟩)⟩
    · exact ⟨_, rfl, .inr h⟩
theorem HR.lst (h : HR K mg φ lh H) {i : Nat} {xs : List D} (e : lh[i]? = some (.lst xs)) : ∃ vs, H (φ i) = some (.lst vs) ∧ RDs K φ lh.length H xs vs := h.obj i _ e
theorem lt_of_get {α : Type} {l : List α} {i : Nat} {x : α} (h : l[i]? = some x) : i < l.length := (List.getElem?_eq_some_iff.mp h).1
/-! ### mirrors -/
end
def mVar (i : Nat) : M D := fun e h => match e[i]? with
  | some (some d) => .ok d h
  | _ => .bad
def mC (d : D) : M D := fun _ h => .ok d h
def mOp (f : D → D → LH → Res D) (a b : M D) : M D := fun e h => (a e h).bind fun x h1 => (b e h1).bind fun y h2 => f x y h2
def mUn (f : D → LH → Res D) (a : M D) : M D := fun e h => (a e h).bind fun x h1 => f x h1
def mNil : M (List D) := fun _ h => .ok [] h
def mCons (a : M D) (r : M (List D)) : M (List D) := fun e h => (a e h).bind fun x h1 => (r e h1).bind fun xs h2 => .ok (x :: xs) h2
def mApp (f : MF) (a : M (List D)) : M D := fun e h => (a e h).bind fun xs h1 => f xs h1
/-- as a test -/
def mTst (a : M D) : M Bool := fun e h => (a e h).bind fun x h1 => match x with
  | .bl b => .ok b h1
  | _ => .bad
def mTAnd (a b : M Bool) : M Bool := fun e h => (a e h).bind fun x h1 => if x then b e h1 else .ok false h1
def mTOr (a b : M Bool) : M Bool := fun e h => (a e h).bind fun x h1 => if x then .ok true h1 else b e h1
def mTNot (a : M Bool) : M Bool := fun e h => (a e h).bind fun x h1 => .ok (!x) h1
/-- and, or, not as values: of bools (the last of any kind) -/
def mAnd (a b : M D) : M D := fun e h => (a e h).bind fun x h1 => match x with
  | .bl true => b e h1
  | .bl false => .ok (.bl false) h1
  | _ => .bad
def mOr (a b : M D) : M D := fun e h => (a e h).bind fun x h1 => match x with
  | .bl true => .ok (.bl true) h1
  | .bl false => b e h1
  | _ => .bad
def mNot (a : M D) : M D := fun e h => (a e h).bind fun x h1 => match x with
  | .bl b => .ok (.bl (!b)) h1
  | _ => .bad
def mIfE (c : M Bool) (a b : M D) : M D := fun e h => (c e h).bind fun x h1 => if x then a e h1 else b e h1
/-! statements -/
def sNil : MS := fun e h => .next e h
def sSeq (a b : MS) : MS := fun e h => match a e h with
  | .next e1 h1 => b e1 h1
  | .ret d h1 => .ret d h1
  | .brk e1 h1 => .brk e1 h1
  | .cnt e1 h1 => .cnt e1 h1
  | .exc x e1 h1 => .exc x e1 h1
  | .bad => .bad
def rsBind {α : Type} (r : Res α) (e : EN) (f : α → LH → RSt) : RSt := match r with
  | .ok a h => f a h
  | .exc x h => .exc x e h
  | .bad => .bad
def sIf (c : M Bool) (a b : MS) : MS := fun e h => rsBind (c e h) e fun x h1 => if x then a e h1 else b e h1
def sSet (i : Nat) (a : M D) : MS := fun e h => rsBind (a e h) e fun x h1 => .next (e.set i (some x)) h1
def sRet (a : M D) : MS := fun e h => rsBind (a e h) e fun x h1 => .ret x h1
def sRetN : MS := fun _ h => .ret .non h
def sExpr (a : M D) : MS := fun e h => rsBind (a e h) e fun _ h1 => .next e h1
def sBrk : MS := fun e h => .brk e h
def sCnt : MS := fun e h => .cnt e h

section
variable {X : Cx} {W : WX} {e a b c : Expr} {es : List Expr} {pos : Pos} {ma mb : M D} {mc ta tb : M Bool} {mas : M (List D)}
theorem rd_ok {K : PySem.W.Frag} {mg : Str → Option Value} {α β : Type} {R : (Nat → Addr) → Nat → Hp → α → β → Prop} {m : M α} {σ : L2.St} {H : Hp} {Q : β → Hp → Prop} (h : rd K mg W R m σ H Q) :
    ∃ φ env lh, HR K mg φ lh H ∧ RS K φ lh.length H env σ ∧ wp K mg W σ R (m env lh) φ lh H Q := h
/-! ### expressions -/
theorem qe_var (i : Nat) {x : Str} {pos : Pos} (hN : X.N[i]? = some x := by rfl) (hv : Vis X.env.scope x := by first | exact Or.inl rfl | exact Or.inr (Or.inl rfl) | exact Or.inr (Or.inr rfl)) (hd : (x == ("__debug__" : Str)) = false := by decide)
    (hcd : (x == ("__classdict__" : Str)) = false := by decide) : QE X W (.Name x pos) (mVar i) := by
  refine peI (pe_var hN hv hd hcd) fun σ H Q ⟨φ, env, lh, h1, h2, h⟩ => ?_
  unfold mVar at h
  split at h
  · rename_i d e
    obtain ⟨v, ev, r⟩ := h2.at' i d e
    exact ⟨v, ev, wp_ok h (.refl h1) r⟩
  · exact h.elim
theorem qe_of {t : TE} {m : M D} (h : PE X e t) (i : ∀ σ φ env lh H Q, HR X.K X.mg φ lh H → RS X.K φ lh.length H env σ → wp X.K X.mg W σ (RD X.K) (m env lh) φ lh H Q → t σ H Q) : QE X W e m :=
  peI h fun σ H Q ⟨φ, env, lh, h1, h2, q⟩ => i σ φ env lh H Q h1 h2 q
theorem qe_int {i : Int} {j pos} : QE X W (.Constant (.int i) j pos) (mC (.int i)) := qe_of pe_int fun σ φ env lh H Q h1 h2 q => wp_ok q (.refl h1) (.int i)
theorem qe_bl {b : Bool} {j pos} : QE X W (.Constant (.bool b) j pos) (mC (.bl b)) := qe_of pe_bl fun σ φ env lh H Q h1 h2 q => wp_ok q (.refl h1) (.bl b)
theorem qe_non {j pos} : QE X W (.Constant .none j pos) (mC .non) := qe_of pe_non fun σ φ env lh H Q h1 h2 q => wp_ok q (.refl h1) .non
theorem str_eta (x : Str) : (⟨x.cps.toList.toArray⟩ : Str) = x := by cases x; simp
/-- a text, written -/
def S (s : String) : D := .str (Str.ofString s).cps.toList
theorem qe_str {x : String} {j pos} : QE X W (.Constant (.str (Str.ofString x)) j pos) (mC (S x)) := qe_of pe_str fun σ φ env lh H Q h1 h2 q => by
  have r : RD X.K φ lh.length H (S x) (.str (Str.ofString x)) := by
    have := RD.str (K := X.K) (φ := φ) (n := lh.length) (H := H) (Str.ofString x).cps.toList
    rw [str_eta] at this
    exact this
  exact wp_ok q (.refl h1) r
theorem qe_glob {x : Str} {d : D} {v : V} {u : Value} {pos : Pos} (hg : Gl X x) (hm : X.mg x = some u) (r : RelV v u) (hd : ∀ φ n H, RD X.K φ n H d v) (hdb : (x == ("__debug__" : Str)) = false := by decide) : QE X W (.Name x pos) (mC d) :=
  qe_of (pe_glob hg hm r hdb) fun σ φ env lh H Q h1 h2 q => wp_ok q (.refl h1) (hd _ _ _)
/-- an operator by its values -/
def OpM (X : Cx) (g : Value → Value → Sem Value) (f : D → D → LH → Res D) : Prop :=
  ∃ r : R2, OpR X g r ∧ ∀ W σ φ lh H x y v w Q, HR X.K X.mg φ lh H → RD X.K φ lh.length H x v → RD X.K φ lh.length H y w → wp X.K X.mg W σ (RD X.K) (f x y lh) φ lh H Q → r v w H Q
theorem qe_bin {op : Operator} {f : D → D → LH → Res D} (ho : OpM X (binaryOp op) f) (ha : QE X W a ma) (hb : QE X W b mb) : QE X W (.BinOp a op b pos) (mOp f ma mb) := by
  obtain ⟨r, h, k⟩ := ho
  refine qe_of (pe_op h ha hb) fun σ φ env lh H Q h1 h2 q => ?_
  refine rd_of h1 h2 (wp_step q fun x lh1 φ1 v H1 p1 r1 q1 => ?_)
  refine rd_of p1.hr (h2.up p1) (wp_step q1 fun y lh2 φ2 w H2 p2 r2 q2 => ?_)
  exact k W σ φ2 lh2 H2 x y v w Q p2.hr (r1.up p2) r2 q2
theorem qe_cmp {op : CmpOp} {f : D → D → LH → Res D} (ho : OpM X (compareOp op) f) (ha : QE X W a ma) (hb : QE X W b mb) (hm : behindInMarks op b = false) : QE X W (.Compare a [op] [b] pos) (mOp f ma mb) := by
  obtain ⟨r, h, k⟩ := ho
  refine qe_of (pe_cmpR h ha hb hm) fun σ φ env lh H Q h1 h2 q => ?_
  refine rd_of h1 h2 (wp_step q fun x lh1 φ1 v H1 p1 r1 q1 => ?_)
  refine rd_of p1.hr (h2.up p1) (wp_step q1 fun y lh2 φ2 w H2 p2 r2 q2 => ?_)
  exact k W σ φ2 lh2 H2 x y v w Q p2.hr (r1.up p2) r2 q2
/-- a < b < c -/
def mChain (f g : D → D → LH → Res D) (a b c : M D) : M D := fun e h => (a e h).bind fun x h1 => (b e h1).bind fun y h2 => (f x y h2).bind fun z h3 => match z with
  | .bl true => (c e h3).bind fun w h4 => g y w h4
  | .bl false => .ok (.bl false) h3
  | _ => .bad
def UnM (X : Cx) (g : Value → Sem Value) (f : D → LH → Res D) : Prop :=
  ∃ r : V → Hp → VK → Prop, UnR X g r ∧ ∀ W σ φ lh H x v Q, HR X.K X.mg φ lh H → RD X.K φ lh.length H x v → wp X.K X.mg W σ (RD X.K) (f x lh) φ lh H Q → r v H Q
theorem qe_un {op : UnaryOp} {f : D → LH → Res D} (ho : UnM X (unaryOp op) f) (ha : QE X W a ma) : QE X W (.UnaryOp op a pos) (mUn f ma) := by
  obtain ⟨r, h, k⟩ := ho
  refine qe_of (pe_un h ha) fun σ φ env lh H Q h1 h2 q => ?_
  refine rd_of h1 h2 (wp_step q fun x lh1 φ1 v H1 p1 r1 q1 => ?_)
  exact k W σ φ1 lh1 H1 x v Q p1.hr r1 q1
theorem qa_nil : QA X W [] mNil := paI pa_nil fun σ H Q ⟨φ, env, lh, h1, h2, q⟩ => wp_ok q (.refl h1) .nil
theorem qa_cons (ha : QE X W e ma) (hr : QA X W es mas) (hs : starEach (e :: es) X.env = (false, eval e X.env) :: starEach es X.env := by rfl) : QA X W (e :: es) (mCons ma mas) := by
  refine paI (pa_cons ha hr hs) fun σ H Q ⟨φ, env, lh, h1, h2, q⟩ => ?_
  refine rd_of h1 h2 (wp_step q fun x lh1 φ1 v H1 p1 r1 q1 => ?_)
  refine rd_of p1.hr (h2.up p1) (wp_step q1 fun xs lh2 φ2 vs H2 p2 r2 q2 => ?_)
  exact wp_ok q2 (.refl p2.hr) (.cons (r1.up p2) r2)
/-- a builtin's call by its values -/
def CallM (X : Cx) (g : Value) (f : MF) : Prop :=
  ∃ r : List V → Hp → VK → Prop, CallR X g r ∧ ∀ W σ φ lh H xs vs Q, HR X.K X.mg φ lh H → RDs X.K φ lh.length H xs vs → wp X.K X.mg W σ (RD X.K) (f xs lh) φ lh H Q → r vs H Q
theorem qe_callB {x : Str} {id : String} {f : MF} {p : Pos} (ho : CallM X (.builtin id) f) (hg : Gl X x) (hm : X.mg x = none) (hv : bootBuiltins x = some (.builtin id)) (ha : QA X W (e :: es) mas) (hn : x ≠ "__name__" := by decide) (hdb : (x == ("__debug__" : Str)) = false := by decide)
    (he : starEach (e :: es) X.env = (false, eval e X.env) :: starEach es X.env := by rfl) (hpl : (backTo pos (starEach es X.env)).any (·.1) = false := by rfl) : QE X W (.Call (.Name x p) (e :: es) [] pos) (mApp f mas) := by
  obtain ⟨r, h, k⟩ := ho
  refine qe_of (pe_callB h hg hm hv ha hn hdb he hpl) fun σ φ env lh H Q h1 h2 q => ?_
  refine rd_of h1 h2 (wp_step q fun xs lh1 φ1 vs H1 p1 r1 q1 => ?_)
  exact k W σ φ1 lh1 H1 xs vs Q p1.hr r1 q1
theorem qe_callTy {x : Str} {T : String} {f : MF} {p : Pos} (ho : CallM X (.type T) f) (hg : Gl X x) (hm : X.mg x = none) (hv : bootBuiltins x = some (.type T)) (ha : QA X W (e :: es) mas) (hn : x ≠ "__name__" := by decide) (hdb : (x == ("__debug__" : Str)) = false := by decide)
    (he : starEach (e :: es) X.env = (false, eval e X.env) :: starEach es X.env := by rfl) (hpl : (backTo pos (starEach es X.env)).any (·.1) = false := by rfl) : QE X W (.Call (.Name x p) (e :: es) [] pos) (mApp f mas) := by
  obtain ⟨r, h, k⟩ := ho
  refine qe_of (pe_callTy h hg hm hv ha hn hdb he hpl) fun σ φ env lh H Q h1 h2 q => ?_
  refine rd_of h1 h2 (wp_step q fun xs lh1 φ1 vs H1 p1 r1 q1 => ?_)
  exact k W σ φ1 lh1 H1 xs vs Q p1.hr r1 q1
/-! ### tests -/
theorem qt_of {t : TT} {m : M Bool} (h : PT X e t) (i : ∀ σ φ env lh H Q, HR X.K X.mg φ lh H → RS X.K φ lh.length H env σ → wp X.K X.mg W σ REq (m env lh) φ lh H Q → t σ H Q) : QT X W e m :=
  ptI h fun σ H Q ⟨φ, env, lh, h1, h2, q⟩ => i σ φ env lh H Q h1 h2 q
theorem tst_ok {σ : L2.St} {φ : Nat → Addr} {env : EN} {lh : LH} {H : Hp} {Q : Bool → Hp → Prop} (h1 : HR X.K X.mg φ lh H) (h2 : RS X.K φ lh.length H env σ) (q : wp X.K X.mg W σ REq (mTst ma env lh) φ lh H Q) :
    rdE X.K X.mg W ma σ H fun x H1 => ∃ k, x = .bl k ∧ Q k H1 := by
  refine rd_of h1 h2 (wp_step q fun x lh1 φ1 v H1 p1 r1 q1 => ?_)
  cases x with
  | bl b =>
    cases r1
    exact ⟨b, rfl, wp_ok q1 (.refl p1.hr) rfl⟩
  | _ => exact q1.elim
/-- an expression whose value is a bool -/
theorem qt_val (h : QE X W e ma) (he : ∀ whole, isTrue e X.env whole = (do let v ← whole; standAt e.pos; holding [v] (truthy v)) := by intro _; rfl) : QT X W e (mTst ma) :=
  qt_of (pt_val h he) fun σ φ env lh H Q h1 h2 q => tst_ok h1 h2 q
theorem qt_cmp {op : CmpOp} {f : D → D → LH → Res D} (ho : OpM X (compareOp op) f) (ha : QE X W a ma) (hb : QE X W b mb) (hm : behindInMarks op b = false) : QT X W (.Compare a [op] [b] pos) (mTst (mOp f ma mb)) := by
  obtain ⟨r, h, k⟩ := ho
  refine qt_of (pt_cmpR h ha hb hm) fun σ φ env lh H Q h1 h2 q => ?_
  have q' := tst_ok (ma := mOp f ma mb) h1 h2 q
  obtain ⟨φ0, env0, lh0, h10, h20, q0⟩ := q'
  refine rd_of h10 h20 (wp_step q0 fun x lh1 φ1 v H1 p1 r1 q1 => ?_)
  refine rd_of p1.hr (h20.up p1) (wp_step q1 fun y lh2 φ2 w H2 p2 r2 q2 => ?_)
  exact k W σ φ2 lh2 H2 x y v w _ p2.hr (r1.up p2) r2 q2
theorem qe_chain {op op' : CmpOp} {f g : D → D → LH → Res D} {md : M D} (ho : OpM X (compareOp op) f) (ho' : OpM X (compareOp op') g) (ha : QE X W a ma) (hb : QE X W b mb) (hc : QE X W c md) (hm : lastMarks [op, op'] [b, c] = false) :
    QE X W (.Compare a [op, op'] [b, c] pos) (mChain f g ma mb md) := by
  obtain ⟨r, h, k⟩ := ho
  obtain ⟨r', h', k'⟩ := ho'
  refine qe_of (pe_chain h h' ha hb hc hm) fun σ φ env lh H Q h1 h2 q => ?_
  refine rd_of h1 h2 (wp_step q fun x lh1 φ1 v H1 p1 r1 q1 => ?_)
  refine rd_of p1.hr (h2.up p1) (wp_step q1 fun y lh2 φ2 w H2 p2 r2 q2 => ?_)
  refine k W σ φ2 lh2 H2 x y v w _ p2.hr (r1.up p2) r2 (wp_step q2 fun z lh3 φ3 vz H3 p3 r3 q3 => ?_)
  cases z with
  | bl t =>
    cases r3
    cases t with
    | true =>
      refine ⟨true, rfl, ?_⟩
      simp only [if_true]
      refine rd_of p3.hr ((h2.up p1).up (p2.trans p3)) (wp_step q3 fun w' lh4 φ4 vw H4 p4 r4 q4 => ?_)
      exact k' W σ φ4 lh4 H4 y w' _ _ _ p4.hr (r2.up (p3.trans p4)) r4 q4
    | false =>
      refine ⟨false, rfl, ?_⟩
      exact wp_ok q3 (.refl p3.hr) (.bl false)
  | _ => exact q3.elim
theorem qt_chain {op op' : CmpOp} {f g : D → D → LH → Res D} {md : M D} (ho : OpM X (compareOp op) f) (ho' : OpM X (compareOp op') g) (ha : QE X W a ma) (hb : QE X W b mb) (hc : QE X W c md) (hm : lastMarks [op, op'] [b, c] = false) :
    QT X W (.Compare a [op, op'] [b, c] pos) (mTst (mChain f g ma mb md)) := by
  obtain ⟨r, h, k⟩ := ho
  obtain ⟨r', h', k'⟩ := ho'
  refine qt_of (pt_chain h h' ha hb hc hm) fun σ φ env lh H Q h1 h2 q => ?_
  have q' := tst_ok (ma := mChain f g ma mb md) h1 h2 q
  obtain ⟨φ0, env0, lh0, h10, h20, q0⟩ := q'
  refine rd_of h10 h20 (wp_step q0 fun x lh1 φ1 v H1 p1 r1 q1 => ?_)
  refine rd_of p1.hr (h20.up p1) (wp_step q1 fun y lh2 φ2 w H2 p2 r2 q2 => ?_)
  refine k W σ φ2 lh2 H2 x y v w _ p2.hr (r1.up p2) r2 (wp_step q2 fun z lh3 φ3 vz H3 p3 r3 q3 => ?_)
  cases z with
  | bl t =>
    cases r3
    cases t with
    | true =>
      refine ⟨true, rfl, ?_⟩
      simp only [if_true]
      refine rd_of p3.hr ((h20.up p1).up (p2.trans p3)) (wp_step q3 fun w' lh4 φ4 vw H4 p4 r4 q4 => ?_)
      exact k' W σ φ4 lh4 H4 y w' _ _ _ p4.hr (r2.up (p3.trans p4)) r4 q4
    | false =>
      refine ⟨false, rfl, ?_⟩
      exact wp_ok q3 (.refl p3.hr) (.bl false)
  | _ => exact q3.elim
theorem qt_not (h : QT X W e ta) : QT X W (.UnaryOp .Not e pos) (mTNot ta) := by
  refine qt_of (pt_not h) fun σ φ env lh H Q h1 h2 q => ?_
  refine rd_of h1 h2 (wp_step q fun x lh1 φ1 v H1 p1 r1 q1 => ?_)
  cases r1
  exact wp_ok q1 (.refl p1.hr) rfl
theorem qw_of {t : TT} {m : M Bool} (h : PW X e t) (i : ∀ σ φ env lh H Q, HR X.K X.mg φ lh H → RS X.K φ lh.length H env σ → wp X.K X.mg W σ REq (m env lh) φ lh H Q → t σ H Q) : QW X W e m :=
  pwI h fun σ H Q ⟨φ, env, lh, h1, h2, q⟩ => i σ φ env lh H Q h1 h2 q
variable {rest : List Expr}
theorem qw_and1 (ha : QT X W a ta) : QW X W (.BoolOp .And [a] pos) ta := pw_and1 ha
theorem qw_or1 (ha : QT X W a ta) : QW X W (.BoolOp .Or [a] pos) ta := pw_or1 ha
theorem qw_and (ha : QT X W a ta) (hb : QW X W (.BoolOp .And (b :: rest) pos) tb) : QW X W (.BoolOp .And (a :: b :: rest) pos) (mTAnd ta tb) := by
  refine qw_of (pw_and ha hb) fun σ φ env lh H Q h1 h2 q => ?_
  refine rd_of h1 h2 (wp_step q fun x lh1 φ1 v H1 p1 r1 q1 => ?_)
  cases r1
  cases x with
  | true => exact rd_of p1.hr (h2.up p1) q1
  | false => exact wp_ok q1 (.refl p1.hr) rfl
theorem qw_or (ha : QT X W a ta) (hb : QW X W (.BoolOp .Or (b :: rest) pos) tb) : QW X W (.BoolOp .Or (a :: b :: rest) pos) (mTOr ta tb) := by
  refine qw_of (pw_or ha hb) fun σ φ env lh H Q h1 h2 q => ?_
  refine rd_of h1 h2 (wp_step q fun x lh1 φ1 v H1 p1 r1 q1 => ?_)
  cases r1
  cases x with
  | true => exact wp_ok q1 (.refl p1.hr) rfl
  | false => exact rd_of p1.hr (h2.up p1) q1
theorem qt_w (h : QW X W e ta) : QT X W e ta := PW.pt h
/-! ### and, or, not as values -/
theorem qe_one {op} (h : QE X W a ma) : QE X W (.BoolOp op [a] pos) ma := pe_one h
theorem qe_and (ha : QE X W a ma) (hb : QE X W (.BoolOp .And (b :: rest) pos) mb) : QE X W (.BoolOp .And (a :: b :: rest) pos) (mAnd ma mb) := by
  refine qe_of (pe_and ha hb) fun σ φ env lh H Q h1 h2 q => ?_
  refine rd_of h1 h2 (wp_step q fun x lh1 φ1 v H1 p1 r1 q1 => ?_)
  cases x with
  | bl t =>
    cases r1
    cases t with
    | true => exact ⟨true, rfl, rd_of p1.hr (h2.up p1) q1⟩
    | false => exact ⟨false, rfl, wp_ok q1 (.refl p1.hr) (.bl false)⟩
  | _ => exact q1.elim
theorem qe_or (ha : QE X W a ma) (hb : QE X W (.BoolOp .Or (b :: rest) pos) mb) : QE X W (.BoolOp .Or (a :: b :: rest) pos) (mOr ma mb) := by
  refine qe_of (pe_or ha hb) fun σ φ env lh H Q h1 h2 q => ?_
  refine rd_of h1 h2 (wp_step q fun x lh1 φ1 v H1 p1 r1 q1 => ?_)
  cases x with
  | bl t =>
    cases r1
    cases t with
    | true => exact ⟨true, rfl, wp_ok q1 (.refl p1.hr) (.bl true)⟩
    | false => exact ⟨false, rfl, rd_of p1.hr (h2.up p1) q1⟩
  | _ => exact q1.elim
theorem qe_not (ha : QE X W a ma) : QE X W (.UnaryOp .Not a pos) (mNot ma) := by
  refine qe_of (pe_not ha) fun σ φ env lh H Q h1 h2 q => ?_
  refine rd_of h1 h2 (wp_step q fun x lh1 φ1 v H1 p1 r1 q1 => ?_)
  cases x with
  | bl t =>
    cases r1
    exact ⟨t, rfl, wp_ok q1 (.refl p1.hr) (.bl _)⟩
  | _ => exact q1.elim
theorem qe_ifE (hc : QT X W c mc) (ha : QE X W a ma) (hb : QE X W b mb) : QE X W (.IfExp c a b pos) (mIfE mc ma mb) := by
  refine qe_of (pe_ifExp hc ha hb) fun σ φ env lh H Q h1 h2 q => ?_
  refine rd_of h1 h2 (wp_step q fun x lh1 φ1 v H1 p1 r1 q1 => ?_)
  cases r1
  cases x with
  | true => exact rd_of p1.hr (h2.up p1) q1
  | false => exact rd_of p1.hr (h2.up p1) q1
/-! ### statements -/
variable {st : Stmt} {sts : List Stmt} {m m1 m2 : MS}
theorem qs_of {t : TS} (h : PS X st t) (i : ∀ D σ H, rdS X.K X.mg W m D σ H → t D σ H) : QS X W st m := psI h i
theorem rdS_of {D : Ends} {σ : L2.St} {φ : Nat → Addr} {env : EN} {lh : LH} {H : Hp} (h1 : HR X.K X.mg φ lh H) (h2 : RS X.K φ lh.length H env σ) (h : match m env lh with
  | .next env' lh' => ∀ φ' σ' H', Po X.K X.mg φ lh H φ' lh' H' → RS X.K φ' lh'.length H' env' σ' → D.nx σ' H'
  | .ret d lh' => ∀ φ' v H', Po X.K X.mg φ lh H φ' lh' H' → RD X.K φ' lh'.length H' d v → D.rt v H'
  | .brk env' lh' => ∀ φ' σ' H', Po X.K X.mg φ lh H φ' lh' H' → RS X.K φ' lh'.length H' env' σ' → D.bk σ' H'
  | .cnt env' lh' => ∀ φ' σ' H', Po X.K X.mg φ lh H φ' lh' H' → RS X.K φ' lh'.length H' env' σ' → D.ct σ' H'
  | .exc e env' lh' => ∀ φ' cls dd σ' H', Po X.K X.mg φ lh H φ' lh' H' → ER X.K X.mg φ' lh'.length H' e cls dd → RS X.K φ' lh'.length H' env' σ' → W cls dd σ' H'
  | .bad => False) : rdS X.K X.mg W m D σ H := ⟨φ, env, lh, h1, h2, h⟩
/-- what a statement's result wishes -/
def wps (K : PySem.W.Frag) (mg : Str → Option Value) (W : WX) (x : RSt) (φ : Nat → Addr) (lh : LH) (H : Hp) (D : Ends) : Prop := match x with
  | .next env' lh' => ∀ φ' σ' H', Po K mg φ lh H φ' lh' H' → RS K φ' lh'.length H' env' σ' → D.nx σ' H'
  | .ret d lh' => ∀ φ' v H', Po K mg φ lh H φ' lh' H' → RD K φ' lh'.length H' d v → D.rt v H'
  | .brk env' lh' => ∀ φ' σ' H', Po K mg φ lh H φ' lh' H' → RS K φ' lh'.length H' env' σ' → D.bk σ' H'
  | .cnt env' lh' => ∀ φ' σ' H', Po K mg φ lh H φ' lh' H' → RS K φ' lh'.length H' env' σ' → D.ct σ' H'
  | .exc e env' lh' => ∀ φ' cls dd σ' H', Po K mg φ lh H φ' lh' H' → ER K mg φ' lh'.length H' e cls dd → RS K φ' lh'.length H' env' σ' → W cls dd σ' H'
  | .bad => False
theorem wps_mono {K : PySem.W.Frag} {mg : Str → Option Value} {x : RSt} {φ φ1 : Nat → Addr} {lh lh1 : LH} {H H1 : Hp} {D : Ends} (p : Po K mg φ lh H φ1 lh1 H1) (h : wps K mg W x φ lh H D) : wps K mg W x φ1 lh1 H1 D := by
  cases x with
  | next env' lh' => exact fun φ' σ' H' p' r => h φ' σ' H' (p.trans p') r
  | ret d lh' => exact fun φ' σ' H' p' r => h φ' σ' H' (p.trans p') r
  | brk env' lh' => exact fun φ' σ' H' p' r => h φ' σ' H' (p.trans p') r
  | cnt env' lh' => exact fun φ' σ' H' p' r => h φ' σ' H' (p.trans p') r
  | exc e env' lh' => exact fun φ' cls dd σ' H' p' r => h φ' cls dd σ' H' (p.trans p') r
  | bad => exact h
theorem wps_step {α β : Type} {R : (Nat → Addr) → Nat → Hp → α → β → Prop} {x : Res α} {f : α → LH → RSt} {φ : Nat → Addr} {env : EN} {lh : LH} {H : Hp} {D : Ends} {σ : L2.St} {G : β → Hp → Prop} (h2 : RS X.K φ lh.length H env σ)
    (h : wps X.K X.mg W (rsBind x env f) φ lh H D) (hg : ∀ d lh1 φ1 v H1, Po X.K X.mg φ lh H φ1 lh1 H1 → R φ1 lh1.length H1 d v → wps X.K X.mg W (f d lh1) φ1 lh1 H1 D → G v H1) : wp X.K X.mg W σ R x φ lh H G := by
  cases x with
  | ok d lh1 => exact fun φ1 v H1 p r => hg d lh1 φ1 v H1 p r (wps_mono p h)
  | exc e lh1 => exact fun φ1 cls dd H1 p r => h φ1 cls dd σ H1 p r (h2.up p)
  | bad => exact h
theorem qss_nil : QSs X W [] sNil := pssI pss_nil fun D σ H ⟨φ, env, lh, h1, h2, q⟩ => q φ σ H (.refl h1) h2
theorem qss_cons (h : QS X W st m1) (k : QSs X W sts m2) : QSs X W (st :: sts) (sSeq m1 m2) := by
  refine pssI (pss_cons h k) fun D σ H ⟨φ, env, lh, h1, h2, q⟩ => ?_
  refine ⟨φ, env, lh, h1, h2, ?_⟩
  have q' : wps X.K X.mg W (sSeq m1 m2 env lh) φ lh H D := q
  unfold sSeq at q'
  cases e : m1 env lh with
  | next env' lh' =>
    rw [e] at q'
    exact fun φ' σ' H' p r => ⟨φ', env', lh', p.hr, r, wps_mono (x := m2 env' lh') p q'⟩
  | ret d lh' => rw [e] at q'; exact q'
  | brk d lh' => rw [e] at q'; exact q'
  | cnt d lh' => rw [e] at q'; exact q'
  | exc d _ lh' => rw [e] at q'; exact q'
  | bad => rw [e] at q'; exact q'
theorem qss_one (h : QS X W st m1) : QSs X W [st] m1 := pss_one h
theorem qs_if (hc : QT X W c mc) (ha : QSs X W sts m1) {sts2 : List Stmt} (hb : QSs X W sts2 m2) : QS X W (.If c sts sts2 pos) (sIf mc m1 m2) := by
  refine psI (ps_if hc ha hb) fun D σ H ⟨φ, env, lh, h1, h2, q⟩ => ?_
  have q' : wps X.K X.mg W (sIf mc m1 m2 env lh) φ lh H D := q
  refine rd_of h1 h2 (wps_step h2 q' fun x lh1 φ1 v H1 p1 r1 q1 => ?_)
  cases r1
  cases x with
  | true => exact ⟨φ1, env, lh1, p1.hr, h2.up p1, q1⟩
  | false => exact ⟨φ1, env, lh1, p1.hr, h2.up p1, q1⟩
theorem qs_set {i : Nat} {x : Str} {pos' : Pos} (he : QE X W e ma) (hN : X.N.Nodup) (hi : X.N[i]? = some x) (hx : Loc X.env.scope x) (hs : swapsWith e (some (.Name x pos')) pos.line X.env = pure false := by rfl) (hf : X.fn x = true ∨ X.env.scope.names.lookup x = some .local := by first | exact .inl rfl | exact .inr rfl | assumption) :
    QS X W (.Assign [.Name x pos'] e pos) (sSet i ma) := by
  refine psI (ps_set hN hi hx he hs hf) fun D σ H ⟨φ, env, lh, h1, h2, q⟩ => ?_
  have q' : wps X.K X.mg W (sSet i ma env lh) φ lh H D := q
  exact rd_of h1 h2 (wps_step h2 q' fun x lh1 φ1 v H1 p1 r1 q1 => q1 φ1 _ H1 (.refl p1.hr) ((h2.up p1).set r1 i))
theorem qs_ret (he : QE X W e ma) : QS X W (.Return (some e) pos) (sRet ma) := by
  refine psI (ps_ret he) fun D σ H ⟨φ, env, lh, h1, h2, q⟩ => ?_
  have q' : wps X.K X.mg W (sRet ma env lh) φ lh H D := q
  exact rd_of h1 h2 (wps_step h2 q' fun x lh1 φ1 v H1 p1 r1 q1 => q1 φ1 _ H1 (.refl p1.hr) r1)
theorem qs_retN : QS X W (.Return none pos) sRetN := psI ps_retN fun D σ H ⟨φ, env, lh, h1, h2, q⟩ => q φ _ H (.refl h1) .non
theorem qs_expr (he : QE X W e ma) (hs : swapsWith e none pos.line X.env = pure false := by rfl) : QS X W (.Expr e pos) (sExpr ma) := by
  refine psI (ps_expr he hs) fun D σ H ⟨φ, env, lh, h1, h2, q⟩ => ?_
  have q' : wps X.K X.mg W (sExpr ma env lh) φ lh H D := q
  exact rd_of h1 h2 (wps_step h2 q' fun x lh1 φ1 v H1 p1 r1 q1 => q1 φ1 _ H1 (.refl p1.hr) (h2.up p1))
theorem qs_pass : QS X W (.Pass pos) sNil := psI ps_pass fun D σ H ⟨φ, env, lh, h1, h2, q⟩ => q φ σ H (.refl h1) h2
theorem qs_brk : QS X W (.Break pos) sBrk := psI ps_break fun D σ H ⟨φ, env, lh, h1, h2, q⟩ => q φ σ H (.refl h1) h2
theorem qs_cnt : QS X W (.Continue pos) sCnt := psI ps_continue fun D σ H ⟨φ, env, lh, h1, h2, q⟩ => q φ σ H (.refl h1) h2
end
end HM
set_option Elab.async false
set_option linter.all false
set_option maxRecDepth 100000
set_option maxHeartbeats 4000000
namespace HM
open PySem L2 PySem.Spec PyProof.Rows
/-! ### defs and their calls -/
/-- the promise of a def whose mirror is f -/
def spM (K : PySem.W.Frag) (mg : Str → Option Value) (f : MF) : Sp := fun vs H Q E => ∃ φ lh ds, HR K mg φ lh H ∧ RDs K φ lh.length H ds vs ∧ wp K mg (fun c d _ H => E c d H) [] (RD K) (f ds lh) φ lh H Q
/-- a def's mirror from its body's -/
def mkF (np nn : Nat) (m : MS) : MF := fun ds lh => if ds.length = np then (match m (ds.map some ++ List.replicate (nn - np) none) lh with
  | .next _ h => .ok .non h
  | .ret d h => .ok d h
  | .exc x _ h => .exc x h
  | .brk _ _ => .bad
  | .cnt _ _ => .bad
  | .bad => .bad) else .bad
structure CalM (P : Program) (w : World) (K : PySem.W.Frag) (mg : Str → Option Value) (base : Heap) (k : Nat) (x : String) (f : MF) : Prop where
  ex : ∃ fa fd ps, mg (Str.ofString x) = some (.ref fa) ∧ PySem.W.keepIn K (.ref fa) = true ∧ Binds K fd ps [] ∧ FnOk P w K mg base (L2.CX P w) k fa fd ps (spM K mg f)
theorem CalM.mono {P : Program} {w : World} {K : PySem.W.Frag} {mg : Str → Option Value} {base : Heap} {k k' : Nat} {x : String} {f : MF} (c : CalM P w K mg base k x f) (h : k ≤ k') : CalM P w K mg base k' x f := by
  obtain ⟨fa, fd, ps, h1, h2, h3, h4⟩ := c.ex
  exact ⟨fa, fd, ps, h1, h2, h3, h4.mono h⟩
section
variable {X : Cx} {W : WX} {e a b c : Expr} {es : List Expr} {pos : Pos} {ma mb : M D} {mc ta tb : M Bool} {mas : M (List D)}
theorem qe_call {k : Nat} {x : String} {f : MF} {p : Pos} (C : CalM X.prog X.w X.K X.mg X.base k x f) (hr : Room k X.A) (tk : Takes X W) (hg : Gl X (Str.ofString x)) (ha : QA X W (e :: es) mas)
    (hdb : (Str.ofString x == ("__debug__" : Str)) = false := by decide) (he : starEach (e :: es) X.env = (false, eval e X.env) :: starEach es X.env := by rfl) (hpl : (backTo pos (starEach es X.env)).any (·.1) = false := by rfl) :
    QE X W (.Call (.Name (Str.ofString x) p) (e :: es) [] pos) (mApp f mas) := by
  obtain ⟨fa, fd, ps, h1, h2, h3, h4⟩ := C.ex
  refine qe_of (pe_callS h4 hr hg h1 h2 h3 (fun σ => passAt tk σ) ha hdb he hpl) fun σ φ env lh H Q g1 g2 q => ?_
  refine rd_of g1 g2 (wp_step q fun xs lh1 φ1 vs H1 p1 r1 q1 => ?_)
  exact ⟨φ1, lh1, xs, p1.hr, r1, q1⟩
/-- without arguments: such a def raises nothing -/
def mApp0 (f : MF) : M D := fun _ h => match f [] h with
  | .ok d h1 => .ok d h1
  | .exc _ _ => .bad
  | .bad => .bad
theorem qe_call0 {k : Nat} {x : String} {f : MF} {p : Pos} (C : CalM X.prog X.w X.K X.mg X.base k x f) (hr : Room k X.A) (hg : Gl X (Str.ofString x))
    (hdb : (Str.ofString x == ("__debug__" : Str)) = false := by decide) : QE X W (.Call (.Name (Str.ofString x) p) [] [] pos) (mApp0 f) := by
  obtain ⟨fa, fd, ps, h1, h2, h3, h4⟩ := C.ex
  refine qe_of (pe_call0 (E := fun _ _ _ => False) h4 hr hg h1 h2 h3 .nil passL hdb) fun σ φ env lh H Q g1 g2 q => ?_
  refine ⟨φ, lh, [], g1, .nil, ?_⟩
  unfold mApp0 at q
  cases e : f [] lh with
  | ok d h1 => rw [e] at q; exact q
  | exc d h1 => rw [e] at q; exact q.elim
  | bad => rw [e] at q; exact q.elim
end
/-- THE RULE for a def -/
theorem okM {P : Program} {w : World} {K : PySem.W.Frag} {mg : Str → Option Value} {base : Heap} {x qual : Str} {st : Stmt} {f : Addr} {fd : FuncData} {N ps : List Str} {k : Nat} {m : MS} (F : Fun K x qual st f fd) (S : FnScope N ps (defScope st))
    (hb : ∀ (cdv : Value) (A : Around) (outer : List Env) (s : Shared) (H : Hp) (E : XK), Room k (A.deeper (envOfC qual (defScope st) s.heap.objs.size f cdv)) →
      QSs (cxOf (L2.CX P w) P w K mg base N qual (defScope st) f cdv A outer s H E) (fun c d _ H => E c d H) (defBody st) m) :
    FnOk P w K mg base (L2.CX P w) (k + 1) f fd ps (spM K mg (mkF ps.length N.length m)) := by
  have key : ∀ vs H Q E, spM K mg (mkF ps.length N.length m) vs H Q E → vs.length = ps.length := by
    rintro vs H Q E ⟨φ, lh, ds, h1, h2, q⟩
    unfold mkF at q
    by_cases c : ds.length = ps.length
    · rw [← h2.len]; exact c
    · rw [if_neg c] at q
      exact q.elim
  refine F.okX S key fun cdv A outer s H vs Q E hr hsp => ⟨_, hb cdv A outer s H E hr, ?_⟩
  have hl := key _ _ _ _ hsp
  obtain ⟨φ, lh, ds, h1, h2, q⟩ := hsp
  have hd : ds.length = ps.length := by rw [h2.len]; exact hl
  have rs : RS K φ lh.length H (ds.map some ++ List.replicate (N.length - ps.length) none) (L2.start N vs) := by
    have e1 : vs.length = ds.length := h2.len.symm
    refine ⟨by unfold L2.start; simp [h2.len, hl], fun i d hi => ?_⟩
    have hlt : i < ds.length := by
      rcases Nat.lt_or_ge i ds.length with c | c
      · exact c
      · rw [List.getElem?_append_right (by simpa using c)] at hi
        rw [List.getElem?_replicate] at hi
        split at hi <;> simp at hi
    rw [List.getElem?_append_left (by simpa using hlt)] at hi
    have hi' : ds[i]? = some d := by
      rw [List.getElem?_map] at hi
      cases z : ds[i]? with
      | none => rw [z] at hi; simp at hi
      | some y => rw [z] at hi; simp at hi; rw [hi]
    obtain ⟨v, ev, r⟩ := h2.get hi'
    refine ⟨v, ?_, r⟩
    show (vs.map some ++ _)[i]? = _
    rw [List.getElem?_append_left (by simp; omega), List.getElem?_map, ev]
    rfl
  refine ⟨φ, _, lh, h1, rs, ?_⟩
  unfold mkF at q
  rw [if_pos hd] at q
  show wps K mg _ (m (ds.map some ++ List.replicate (N.length - ps.length) none) lh) φ lh H _
  revert q
  cases m (ds.map some ++ List.replicate (N.length - ps.length) none) lh with
  | next e h => exact fun q φ' σ' H' p _ => q φ' _ H' p .non
  | ret d h => exact fun q φ' v H' p r => q φ' v H' p r
  | exc x e h => exact fun q φ' cls dd σ' H' p r _ => q φ' cls dd H' p r
  | brk e h => exact fun q => q.elim
  | cnt e h => exact fun q => q.elim
  | bad => exact fun q => q.elim

/-! ### what is walked -/
abbrev IT := LH → Nat → Option (Option D)
structure ItOk (K : PySem.W.Frag) (mg : Str → Option Value) (φ : Nat → Addr) (n : Nat) (H : Hp) (g : IT × Nat) (J : It) : Prop where
  stop : ∀ φ' lh' H', n ≤ lh'.length → (∀ i, i < n → φ' i = φ i) → Ext H H' → HR K mg φ' lh' H' → ∀ j, g.1 lh' j = some none → J.stop j H'
  go : ∀ φ' lh' H', n ≤ lh'.length → (∀ i, i < n → φ' i = φ i) → Ext H H' → HR K mg φ' lh' H' → ∀ j d, g.1 lh' j = some (some d) → J.go j H' ∧ ∀ x H'', J.yld j H' x H'' → H'' = H' ∧ RD K φ' lh'.length H' d x
abbrev QI (X : Cx) (W : WX) (tg e : Expr) (m : M (IT × Nat)) : Prop := PI X tg e (rd X.K X.mg W (ItOk X.K X.mg) m)
def itL (xs : List D) : IT := fun _ j => some xs[j]?
def itO (i : Nat) : IT := fun h j => match h[i]? with
  | some (.lst xs) => some xs[j]?
  | _ => none
/-- any sequence or text -/
def iSeq (a : M D) : M (IT × Nat) := fun e h => (a e h).bind fun d h1 => match d with
  | .tup xs => .ok (itL xs, xs.length) h1
  | .scr ns => .ok (itL (ns.map D.int), ns.length) h1
  | .ref i => match h1[i]? with
    | some (.lst xs) => .ok (itO i, xs.length) h1
    | _ => .bad
  | _ => .bad
def iTupM (a : M D) : M (IT × Nat) := fun e h => (a e h).bind fun d h1 => match d with
  | .tup xs => .ok (itL xs, xs.length) h1
  | _ => .bad
def iStrM (a : M D) : M (IT × Nat) := fun e h => (a e h).bind fun d h1 => match d with
  | .str s => .ok (itL (s.map fun c => D.str [c]), s.length) h1
  | _ => .bad
def iRng1M (a : M (List D)) : M (IT × Nat) := fun e h => (a e h).bind fun d h1 => match d with
  | [.int n] => if -(2 ^ 62) ≤ n ∧ n < 2 ^ 62 then .ok (fun _ j => some (if j < n.toNat then some (.int j) else none), n.toNat) h1 else .bad
  | _ => .bad
def iRng2M (a : M (List D)) : M (IT × Nat) := fun e h => (a e h).bind fun d h1 => match d with
  | [.int m, .int n] => if -(2 ^ 62) ≤ m ∧ m < 2 ^ 62 ∧ -(2 ^ 62) ≤ n ∧ n < 2 ^ 62 then .ok (fun _ j => some (if j < (n - m).toNat then some (.int (m + j)) else none), (n - m).toNat) h1 else .bad
  | _ => .bad
section
variable {X : Cx} {W : WX} {tg e : Expr} {es : List Expr} {ma : M D} {mas : M (List D)}
theorem itok_tup {K : PySem.W.Frag} {mg : Str → Option Value} {φ : Nat → Addr} {n : Nat} {H : Hp} {a : Addr} {xs : List D} {vs : List V} (h : SqT K H a vs) (r : RDs K φ n H xs vs) : ItOk K mg φ n H (itL xs, xs.length) (Itt K a) := by
  refine ⟨fun φ' lh' H' hn ag ex hr j hj => ?_, fun φ' lh' H' hn ag ex hr j d hj => ?_⟩
  · refine ⟨vs, sqT_ext ex h, ?_⟩
    have := List.getElem?_eq_none_iff.mp (Option.some.inj hj)
    rw [← r.len]; exact this
  · have hj' : xs[j]? = some d := Option.some.inj hj
    obtain ⟨v, ev, rv⟩ := r.get hj'
    refine ⟨⟨vs, v, sqT_ext ex h, ev⟩, fun x H'' ⟨e1, y⟩ => ⟨e1, ?_⟩⟩
    have := y vs (sqT_ext ex h)
    rw [ev] at this
    cases this
    exact rv.mono hn ag ex
theorem scrL_ext {K : PySem.W.Frag} {H H' : Hp} {a : Addr} {ns : List Int} (ex : Ext H H') (h : (∃ o, H a = some (.frz o (.lst (ns.map V.int)))) ∨ (∃ (o : Obj) (its : Array Value) (m : Nat), K.lookup a = some o ∧ o.cls = .type "list" ∧ o.dict = none ∧ o.data = .seq its m ∧ its.size ≤ sizeLine ∧ Vals (ns.map V.int) its.toList)) :
    SqL K H' a (ns.map V.int) := by
  rcases h with ⟨o, h⟩ | h
  · exact .inl (.inr ⟨o, ex.frz _ _ _ h⟩)
  · exact .inr h
theorem RDs.ints {K : PySem.W.Frag} {φ : Nat → Addr} {n : Nat} {H : Hp} : ∀ ns : List Int, RDs K φ n H (ns.map D.int) (ns.map V.int)
  | [] => .nil
  | i :: ns => .cons (.int i) (RDs.ints ns)
theorem itok_scr {K : PySem.W.Frag} {mg : Str → Option Value} {φ : Nat → Addr} {n : Nat} {H : Hp} {a : Addr} {ns : List Int} (h : (∃ o, H a = some (.frz o (.lst (ns.map V.int)))) ∨ (∃ (o : Obj) (its : Array Value) (m : Nat), K.lookup a = some o ∧ o.cls = .type "list" ∧ o.dict = none ∧ o.data = .seq its m ∧ its.size ≤ sizeLine ∧ Vals (ns.map V.int) its.toList)) : ItOk K mg φ n H (itL (ns.map D.int), ns.length) (Itl K a) := by
  refine ⟨fun φ' lh' H' hn ag ex hr j hj => ?_, fun φ' lh' H' hn ag ex hr j d hj => ?_⟩
  · refine ⟨_, scrL_ext ex h, ?_⟩
    have := List.getElem?_eq_none_iff.mp (Option.some.inj hj)
    simpa using this
  · have hj' : (ns.map D.int)[j]? = some d := Option.some.inj hj
    obtain ⟨v, ev, rv⟩ := (RDs.ints (K := K) (φ := φ') (n := lh'.length) (H := H') ns).get hj'
    refine ⟨⟨_, v, scrL_ext ex h, ev⟩, fun x H'' ⟨e1, y⟩ => ⟨e1, ?_⟩⟩
    have := y _ (scrL_ext ex h)
    rw [ev] at this
    cases this
    exact rv
theorem itok_obj {K : PySem.W.Frag} {mg : Str → Option Value} {φ : Nat → Addr} {n m : Nat} {H : Hp} {i : Nat} (hi : i < n) : ItOk K mg φ n H (itO i, m) (Itl K (φ i)) := by
  refine ⟨fun φ' lh' H' hn ag ex hr j hj => ?_, fun φ' lh' H' hn ag ex hr j d hj => ?_⟩
  · unfold itO at hj
    simp only at hj
    cases el : lh'[i]? with
    | none => rw [el] at hj; cases hj
    | some o =>
      cases o with
      | lst xs =>
        rw [el] at hj
        obtain ⟨vs, hv, r⟩ := hr.lst el
        rw [ag i hi] at hv
        refine ⟨vs, SqL.of hv, ?_⟩
        have := List.getElem?_eq_none_iff.mp (Option.some.inj hj)
        rw [← r.len]; exact this
      | _ => rw [el] at hj; cases hj
  · unfold itO at hj
    simp only at hj
    cases el : lh'[i]? with
    | none => rw [el] at hj; cases hj
    | some o =>
      cases o with
      | lst xs =>
        rw [el] at hj
        obtain ⟨vs, hv, r⟩ := hr.lst el
        rw [ag i hi] at hv
        have hj' : xs[j]? = some d := Option.some.inj hj
        obtain ⟨v, ev, rv⟩ := r.get hj'
        refine ⟨⟨vs, v, SqL.of hv, ev⟩, fun x H'' ⟨e1, y⟩ => ⟨e1, ?_⟩⟩
        have := y vs (SqL.of hv)
        rw [ev] at this
        cases this
        exact rv
      | _ => rw [el] at hj; cases hj
theorem ItOk.J {K : PySem.W.Frag} {mg : Str → Option Value} {φ : Nat → Addr} {n : Nat} {H : Hp} {g : IT × Nat} {J J' : It} (h : ItOk K mg φ n H g J) (e : J = J') : ItOk K mg φ n H g J' := e ▸ h
/-- a walk over a list, the script or (by another rule) a tuple -/
theorem qi_list {l : Expr} (hl : QE X W l ma) : QI X W tg l (fun e h => (ma e h).bind fun d h1 => match d with
  | .scr ns => .ok (itL (ns.map D.int), ns.length) h1
  | .ref i => match h1[i]? with
    | some (.lst xs) => .ok (itO i, xs.length) h1
    | _ => .bad
  | _ => .bad) := by
  refine ⟨fun pins s σ H R I ⟨φ, env, lh, h1, h2, q⟩ => (pi_list hl).run pins s σ H R I ?_⟩
  refine rd_of h1 h2 (wp_step q fun d lh1 φ1 v H1 p1 r1 q1 => ?_)
  cases d with
  | scr ns =>
    cases r1 with
    | scr hs => exact ⟨_, rfl, ⟨_, scrL_ext (Ext.refl _) hs⟩, wp_ok q1 (.refl p1.hr) (itok_scr hs)⟩
  | ref i =>
    obtain ⟨e1, hi⟩ := r1.ref_inv
    cases el : lh1[i]? with
    | none => simp only [el] at q1; exact q1.elim
    | some o =>
      cases o with
      | lst xs =>
        simp only [el] at q1
        obtain ⟨vs, hv, r⟩ := p1.hr.lst el
        exact ⟨_, e1, ⟨_, SqL.of hv⟩, wp_ok q1 (.refl p1.hr) (itok_obj hi)⟩
      | _ => simp only [el] at q1; exact q1.elim
  | _ => exact q1.elim
theorem qi_tup {l : Expr} (hl : QE X W l ma) : QI X W tg l (iTupM ma) := by
  refine ⟨fun pins s σ H R I ⟨φ, env, lh, h1, h2, q⟩ => (pi_tup hl).run pins s σ H R I ?_⟩
  refine rd_of h1 h2 (wp_step q fun d lh1 φ1 v H1 p1 r1 q1 => ?_)
  cases d with
  | tup xs =>
    obtain ⟨a, vs, e1, hq, r⟩ := r1.tup_inv
    exact ⟨_, e1, ⟨_, hq⟩, wp_ok q1 (.refl p1.hr) (itok_tup hq r)⟩
  | _ => exact q1.elim
theorem RDs.chars {K : PySem.W.Frag} {φ : Nat → Addr} {n : Nat} {H : Hp} {s : List Nat} {j : Nat} {d : D} (h : (s.map fun c => D.str [c])[j]? = some d) : ∃ c, s[j]? = some c ∧ d = .str [c] := by
  rw [List.getElem?_map] at h
  cases e : s[j]? with
  | none => rw [e] at h; cases h
  | some c => rw [e] at h; exact ⟨c, rfl, (Option.some.inj h).symm⟩
theorem qi_str {l : Expr} (hl : QE X W l ma) : QI X W tg l (iStrM ma) := by
  refine ⟨fun pins s σ H R I ⟨φ, env, lh, h1, h2, q⟩ => (pi_str hl).run pins s σ H R I ?_⟩
  refine rd_of h1 h2 (wp_step q fun d lh1 φ1 v H1 p1 r1 q1 => ?_)
  cases d with
  | str s =>
    refine ⟨_, r1.str_inv, wp_ok q1 (.refl p1.hr) ?_⟩
    refine ⟨fun φ' lh' H' hn ag ex hr j hj => ?_, fun φ' lh' H' hn ag ex hr j d hj => ?_⟩
    · have := List.getElem?_eq_none_iff.mp (Option.some.inj hj)
      show s.toArray.size ≤ j
      simpa using this
    · obtain ⟨c, ec, rfl⟩ := RDs.chars (K := X.K) (φ := φ) (n := 0) (H := H) (Option.some.inj hj)
      have hlt : j < s.toArray.size := by
        have := lt_of_get ec
        simpa using this
      refine ⟨hlt, fun x H'' ⟨e1, c', e2, e3⟩ => ⟨e1, ?_⟩⟩
      have : s[j]? = some c' := by simpa using e2
      rw [ec] at this
      cases this
      subst e3
      exact .str [c]
  | _ => exact q1.elim
theorem qi_range1 {p pos : Pos} (hg : Gl X "range") (hm : X.mg "range" = none) (ha : QA X W [e] mas) (hs : starEach [e] X.env = [(false, eval e X.env)] := by rfl) : QI X W tg (.Call (.Name "range" p) [e] [] pos) (iRng1M mas) := by
  refine ⟨fun pins s σ H R I ⟨φ, env, lh, h1, h2, q⟩ => (pi_range1 hg hm ha hs).run pins s σ H R I ?_⟩
  refine rd_of h1 h2 (wp_step q fun ds lh1 φ1 vs H1 p1 r1 q1 => ?_)
  split at q1
  · rename_i n
    cases r1 with
    | cons r1 rn =>
      cases rn
      cases r1
      by_cases c : -(2 ^ 62) ≤ n ∧ n < 2 ^ 62
      · rw [if_pos c] at q1
        refine ⟨n, rfl, c.1, c.2, wp_ok q1 (.refl p1.hr) ?_⟩
        refine ⟨fun φ' lh' H' hn ag ex hr j hj => ?_, fun φ' lh' H' hn ag ex hr j d hj => ?_⟩
        · simp only [Option.some.injEq] at hj
          split at hj
          · cases hj
          · rename_i c2; exact Nat.le_of_not_lt c2
        · simp only [Option.some.injEq] at hj
          split at hj
          · rename_i c2
            cases hj
            refine ⟨c2, fun x H'' ⟨e1, e2⟩ => ⟨e1, ?_⟩⟩
            subst e2
            rw [Int.zero_add]
            exact .int _
          · cases hj
      · rw [if_neg c] at q1; exact q1.elim
  · exact q1.elim
theorem qi_range2 {e2 : Expr} {p pos : Pos} (hg : Gl X "range") (hm : X.mg "range" = none) (ha : QA X W [e, e2] mas) (hs : starEach [e, e2] X.env = [(false, eval e X.env), (false, eval e2 X.env)] := by rfl) (hs2 : starEach [e2] X.env = [(false, eval e2 X.env)] := by rfl) : QI X W tg (.Call (.Name "range" p) [e, e2] [] pos) (iRng2M mas) := by
  refine ⟨fun pins s σ H R I ⟨φ, env, lh, h1, h2, q⟩ => (pi_range2 hg hm ha hs hs2).run pins s σ H R I ?_⟩
  refine rd_of h1 h2 (wp_step q fun ds lh1 φ1 vs H1 p1 r1 q1 => ?_)
  split at q1
  · rename_i m n
    cases r1 with
    | cons r1 rn =>
      cases rn with
      | cons r2 rn =>
        cases rn
        cases r1
        cases r2
        by_cases c : -(2 ^ 62) ≤ m ∧ m < 2 ^ 62 ∧ -(2 ^ 62) ≤ n ∧ n < 2 ^ 62
        · rw [if_pos c] at q1
          refine ⟨m, n, rfl, c, wp_ok q1 (.refl p1.hr) ?_⟩
          refine ⟨fun φ' lh' H' hn ag ex hr j hj => ?_, fun φ' lh' H' hn ag ex hr j d hj => ?_⟩
          · simp only [Option.some.injEq] at hj
            split at hj
            · cases hj
            · rename_i c2; exact Nat.le_of_not_lt c2
          · simp only [Option.some.injEq] at hj
            split at hj
            · rename_i c2
              cases hj
              refine ⟨c2, fun x H'' ⟨e1, e2⟩ => ⟨e1, ?_⟩⟩
              subst e2
              exact .int _
            · cases hj
        · rw [if_neg c] at q1; exact q1.elim
  · exact q1.elim
end
/-! ### targets of names -/
inductive TN where
  | nm (i : Nat)
  | tp (is : List Nat)
def setAll : List Nat → List D → EN → Option EN
  | [], [], e => some e
  | i :: is, d :: ds, e => setAll is ds (e.set i (some d))
  | _, _, _ => none
def tnSet : TN → D → EN → Option EN
  | .nm i, d, e => some (e.set i (some d))
  | .tp is, .tup ds, e => setAll is ds e
  | _, _, _ => none
def gsN : List Nat → TGs
  | [] => gNil
  | i :: is => gCons (gName i) (gsN is)
def gN (K : PySem.W.Frag) : TN → TG
  | .nm i => gName i
  | .tp is => gTup K is.length (gsN is)
def tnIx : TN → List Nat
  | .nm i => [i]
  | .tp is => is
def setV : List Nat → List V → L2.St → L2.St
  | i :: is, v :: vs, σ => setV is vs (σ.set i (some v))
  | _, _, σ => σ
section
variable {K : PySem.W.Frag} {mg : Str → Option Value} {φ : Nat → Addr} {n : Nat} {H : Hp}
theorem gsN_ok : ∀ {is : List Nat} {ds : List D} {vs : List V} {e e' : EN} {σ : L2.St} {Q : L2.St → Hp → Prop}, setAll is ds e = some e' → RS K φ n H e σ → RDs K φ n H ds vs → (∀ σ', σ' = setV is vs σ → RS K φ n H e' σ' → Q σ' H) → gsN is vs σ H Q
  | [], [], _, e, e', σ, Q, h, r, rd, q => by
    cases rd
    cases h
    exact ⟨rfl, q _ rfl r⟩
  | i :: is, d :: ds, _, e, e', σ, Q, h, r, rd, q => by
    cases rd with
    | cons r1 rn => exact ⟨_, _, rfl, gsN_ok (is := is) h (r.set r1 i) rn q⟩
  | [], _ :: _, _, _, _, _, _, h, _, _, _ => by cases h
  | _ :: _, [], _, _, _, _, _, h, _, _, _ => by cases h
theorem setAll_len : ∀ {is : List Nat} {ds : List D} {e e' : EN}, setAll is ds e = some e' → ds.length = is.length
  | [], [], _, _, _ => rfl
  | i :: is, d :: ds, e, e', h => by rw [List.length_cons, List.length_cons, setAll_len (is := is) h]
  | [], _ :: _, _, _, h => by cases h
  | _ :: _, [], _, _, h => by cases h
theorem wipe_setV {vs : List Nat} : ∀ {is : List Nat} {ws : List V} {σ : L2.St}, (∀ i ∈ is, i ∈ vs) → wipe (setV is ws σ) vs = wipe σ vs
  | [], _, σ, _ => by cases ‹List V› <;> rfl
  | i :: is, [], σ, _ => rfl
  | i :: is, w :: ws, σ, h => by
    show wipe (setV is ws (σ.set i (some w))) vs = _
    rw [wipe_setV (is := is) fun j hj => h j (List.mem_cons_of_mem _ hj)]
    have hi := h i (List.mem_cons_self ..)
    clear h
    induction vs with
    | nil => cases hi
    | cons v vs ih =>
      show (wipe (σ.set i (some w)) vs).set v none = (wipe σ vs).set v none
      by_cases c : i ∈ vs
      · rw [ih c]
      · have e : i = v := by
          rcases List.mem_cons.mp hi with e | e
          · exact e
          · exact absurd e c
        subst e
        clear ih hi
        have out : ∀ (vs : List Nat) (σ : L2.St), i ∉ vs → wipe (σ.set i (some w)) vs = (wipe σ vs).set i (some w) := by
          intro vs
          induction vs with
          | nil => intro σ _; rfl
          | cons u us ih =>
            intro σ hu
            show (wipe (σ.set i (some w)) us).set u none = ((wipe σ us).set u none).set i (some w)
            rw [ih σ fun z => hu (List.mem_cons_of_mem _ z), List.set_comm]
            intro z
            exact hu (by rw [z]; exact List.mem_cons_self ..)
        rw [out vs σ c, List.set_set]
theorem gN_ok {t : TN} {d : D} {v : V} {e e' : EN} {σ : L2.St} {Q : L2.St → Hp → Prop} (h : tnSet t d e = some e') (r : RS K φ n H e σ) (rd : RD K φ n H d v)
    (q : ∀ σ', (∀ vs : List Nat, (∀ i ∈ tnIx t, i ∈ vs) → wipe σ' vs = wipe σ vs) → RS K φ n H e' σ' → Q σ' H) : gN K t v σ H Q := by
  cases t with
  | nm i =>
    cases h
    exact q _ (fun vs hv => wipe_setV (is := [i]) (ws := [v]) hv) (r.set rd i)
  | tp is =>
    cases d with
    | tup ds =>
      obtain ⟨a, vs, rfl, hq, rs⟩ := rd.tup_inv
      refine ⟨a, vs, rfl, hq, ?_, gsN_ok h r rs fun σ' e1 r' => q σ' (fun ws hw => by rw [e1]; exact wipe_setV hw) r'⟩
      rw [← rs.len]; exact setAll_len h
    | _ => cases h
end
/-! ### for -/
def loopF (g : IT) (t : TN) (body : MS) : Nat → Nat → EN → LH → RSt
  | n, j, e, h => match g h j with
    | none => .bad
    | some none => .next e h
    | some (some d) => match n with
      | 0 => .bad
      | n + 1 => match tnSet t d e with
        | none => .bad
        | some e1 => match body e1 h with
          | .next e2 h2 => loopF g t body n (j + 1) e2 h2
          | .cnt e2 h2 => loopF g t body n (j + 1) e2 h2
          | .brk e2 h2 => .next e2 h2
          | .ret x h2 => .ret x h2
          | .exc x e2 h2 => .exc x e2 h2
          | .bad => .bad
def sFor (it : M (IT × Nat)) (t : TN) (body : MS) : MS := fun e h => rsBind (it e h) e fun g h1 => loopF g.1 t body g.2 0 e h1
section
variable {X : Cx} {W : WX} {tg iter : Expr} {body : List Stmt} {pos : Pos} {mi : M (IT × Nat)} {t : TN} {mb : MS}
theorem qs_for (hp : PassesOwn (model X.prog X.w) X.A X.env X.xe) (hc : X.calm = true) (hi : QI X W tg iter mi) (hg : PG X tg (gN X.K t)) (hb : QSs X W body mb)
    (hs : ∀ x, foldedSetIterable iter X.env x = pure x := by intro _; rfl) : QS X W (.For tg iter body [] pos) (sFor mi t mb) := by
  refine psI (ps_for hp hc hi hg hb hs) fun D σ H ⟨φ, env, lh, h1, h2, q⟩ => ?_
  have q' : wps X.K X.mg W (sFor mi t mb env lh) φ lh H D := q
  refine rd_of h1 h2 (wps_step h2 q' fun g lh1 φ1 J H1 p1 r1 q1 => ?_)
  refine ⟨fun i m σ H => ∃ φ2 env2 lh2, Po X.K X.mg φ1 lh1 H1 φ2 lh2 H ∧ RS X.K φ2 lh2.length H env2 σ ∧ wps X.K X.mg W (loopF g.1 t mb m i env2 lh2) φ2 lh2 H D, ⟨g.2, φ1, env, lh1, .refl p1.hr, h2.up p1, q1⟩, ?_⟩
  rintro i m σ2 H2 ⟨φ2, env2, lh2, p2, r2, q2⟩
  unfold loopF at q2
  cases eg : g.1 lh2 i with
  | none => simp only [eg] at q2; exact q2.elim
  | some od =>
    cases od with
    | none =>
      simp only [eg] at q2
      exact .inl ⟨r1.stop φ2 lh2 H2 p2.le p2.ag p2.ext p2.hr i eg, q2 φ2 σ2 H2 (.refl p2.hr) r2⟩
    | some d =>
      simp only [eg] at q2
      cases m with
      | zero => exact q2.elim
      | succ m =>
        simp only at q2
        cases et : tnSet t d env2 with
        | none => simp only [et] at q2; exact q2.elim
        | some e1 =>
          simp only [et] at q2
          obtain ⟨hgo, hy⟩ := r1.go φ2 lh2 H2 p2.le p2.ag p2.ext p2.hr i d eg
          refine .inr ⟨hgo, fun σ' H' => ∃ m', m' < m + 1 ∧ ∃ φ2 env2 lh2, Po X.K X.mg φ1 lh1 H1 φ2 lh2 H' ∧ RS X.K φ2 lh2.length H' env2 σ' ∧ wps X.K X.mg W (loopF g.1 t mb m' (i + 1) env2 lh2) φ2 lh2 H' D, fun σ' H' n => n, fun x H' y => ?_⟩
          obtain ⟨e0, rx⟩ := hy x H' y
          subst e0
          refine gN_ok et r2 rx fun σ3 _ r3 => ?_
          refine ⟨φ2, e1, lh2, p2.hr, r3, ?_⟩
          cases em : mb e1 lh2 with
          | next e2 h2' =>
            simp only [em] at q2
            exact fun φ' σ' H' p r => ⟨m, Nat.lt_succ_self _, φ', e2, h2', p2.trans p, r, wps_mono p q2⟩
          | cnt e2 h2' =>
            simp only [em] at q2
            exact fun φ' σ' H' p r => ⟨m, Nat.lt_succ_self _, φ', e2, h2', p2.trans p, r, wps_mono p q2⟩
          | brk e2 h2' => simp only [em] at q2; exact q2
          | ret e2 h2' => simp only [em] at q2; exact q2
          | exc x e2 h2' => simp only [em] at q2; exact q2
          | bad => simp only [em] at q2; exact q2.elim
/-! ### while -/
def loopW (c : M Bool) (body : MS) : Nat → EN → LH → RSt
  | n, e, h => rsBind (c e h) e fun b h1 => if b then (match n with
    | 0 => .bad
    | n + 1 => match body e h1 with
      | .next e2 h2 => loopW c body n e2 h2
      | .cnt e2 h2 => loopW c body n e2 h2
      | .brk e2 h2 => .next e2 h2
      | .ret x h2 => .ret x h2
      | .exc x e2 h2 => .exc x e2 h2
      | .bad => .bad) else .next e h1
def sWhile (fuel : Nat) (c : M Bool) (body : MS) : MS := fun e h => loopW c body fuel e h
theorem qs_while {c : Expr} {mc : M Bool} (fuel : Nat) (hp : PassesOwn (model X.prog X.w) X.A X.env X.xe) (hc : QT X W c mc) (hb : QSs X W body mb) : QS X W (.While c body [] pos) (sWhile fuel mc mb) := by
  refine psI (ps_while hp hc hb) fun D σ H ⟨φ, env, lh, h1, h2, q⟩ => ?_
  have q' : wps X.K X.mg W (loopW mc mb fuel env lh) φ lh H D := q
  refine ⟨fun m σ H => ∃ φ2 env2 lh2, HR X.K X.mg φ2 lh2 H ∧ RS X.K φ2 lh2.length H env2 σ ∧ wps X.K X.mg W (loopW mc mb m env2 lh2) φ2 lh2 H D, ⟨fuel, φ, env, lh, h1, h2, q'⟩, ?_⟩
  rintro m σ2 H2 ⟨φ2, env2, lh2, p2, r2, q2⟩
  unfold loopW at q2
  refine rd_of p2 r2 (wps_step r2 q2 fun b lh3 φ3 v H3 p3 r3 q3 => ?_)
  cases r3
  cases b with
  | false => exact q3 φ3 σ2 H3 (.refl p3.hr) (r2.up p3)
  | true =>
    simp only [if_true] at q3 ⊢
    cases m with
    | zero => exact q3.elim
    | succ m =>
      simp only at q3
      refine ⟨fun σ' H' => ∃ m', m' < m + 1 ∧ ∃ φ2 env2 lh2, HR X.K X.mg φ2 lh2 H' ∧ RS X.K φ2 lh2.length H' env2 σ' ∧ wps X.K X.mg W (loopW mc mb m' env2 lh2) φ2 lh2 H' D, fun σ' H' n => n, ?_⟩
      refine ⟨φ3, env2, lh3, p3.hr, r2.up p3, ?_⟩
      cases em : mb env2 lh3 with
      | next e2 h2' =>
        simp only [em] at q3
        exact fun φ' σ' H' p r => ⟨m, Nat.lt_succ_self _, φ', e2, h2', p.hr, r, wps_mono p q3⟩
      | cnt e2 h2' =>
        simp only [em] at q3
        exact fun φ' σ' H' p r => ⟨m, Nat.lt_succ_self _, φ', e2, h2', p.hr, r, wps_mono p q3⟩
      | brk e2 h2' => simp only [em] at q3; exact q3
      | ret e2 h2' => simp only [em] at q3; exact q3
      | exc x e2 h2' => simp only [em] at q3; exact q3
      | bad => simp only [em] at q3; exact q3.elim
end
/-! ### displays -/
def mTup (a : M (List D)) : M D := fun e h => (a e h).bind fun xs h1 => if xs.length ≤ 16777216 then .ok (.tup xs) h1 else .bad
def mLst (a : M (List D)) : M D := fun e h => (a e h).bind fun xs h1 => if xs.length ≤ 16777216 then .ok (.ref h1.length) (h1 ++ [.lst xs]) else .bad
section
variable {X : Cx} {W : WX} {es : List Expr} {pos : Pos} {mas : M (List D)}
theorem sz_le {n : Nat} (h : n ≤ 16777216) : n ≤ sizeLine := by rw [sizeLine_eq]; exact h
theorem wp_new {K : PySem.W.Frag} {mg : Str → Option Value} {W : WX} {σ : L2.St} {φ : Nat → Addr} {lh : LH} {H : Hp} {Q : VK} {u : LO} {o : HO} {p : Addr} (q : wp K mg W σ (RD K) (.ok (.ref lh.length) (lh ++ [u])) φ lh H Q) (h : HR K mg φ lh H) (hp : H p = none)
    (ho : OA K mg (ext1 φ lh.length p) (lh.length + 1) (upd H p o) p u) : Q (.ref p) (upd H p o) := by
  have P := Po.new h hp ho
  have r : RD K (ext1 φ lh.length p) (lh ++ [u]).length (upd H p o) (.ref lh.length) (.ref (ext1 φ lh.length p lh.length)) := .ref (by simp)
  rw [ext1_at] at r
  exact wp_ok q P r
theorem wp_newL {K : PySem.W.Frag} {mg : Str → Option Value} {W : WX} {σ : L2.St} {φ : Nat → Addr} {lh : LH} {H : Hp} {Q : VK} {xs : List D} {vs : List V} {p : Addr} (q : wp K mg W σ (RD K) (.ok (.ref lh.length) (lh ++ [.lst xs])) φ lh H Q) (h : HR K mg φ lh H) (hp : H p = none)
    (r : RDs K φ lh.length H xs vs) : Q (.ref p) (upd H p (.lst vs)) :=
  wp_new q h hp ⟨vs, upd_same, r.mono (Nat.le_succ _) (fun i hi => ext1_lt hi) (Ext.new hp)⟩
theorem wp_newT {K : PySem.W.Frag} {mg : Str → Option Value} {W : WX} {σ : L2.St} {φ : Nat → Addr} {lh : LH} {H : Hp} {Q : VK} {xs : List D} {vs : List V} {p : Addr} (q : wp K mg W σ (RD K) (.ok (.tup xs) lh) φ lh H Q) (h : HR K mg φ lh H) (hp : H p = none)
    (r : RDs K φ lh.length H xs vs) : Q (.ref p) (upd H p (.tup vs)) := by
  have P : Po K mg φ lh H φ lh (upd H p (.tup vs)) := Po.side h hp
  exact wp_ok q P (.tup (SqT.of upd_same) (r.up P))
theorem qe_tup {x1} (h : QA X W es mas) : QE X W (.Tuple es x1 pos) (mTup mas) := by
  refine qe_of (pe_tup h) fun σ φ env lh H Q h1 h2 q => ?_
  refine rd_of h1 h2 (wp_step q fun xs lh1 φ1 vs H1 p1 r1 q1 => ?_)
  by_cases c : xs.length ≤ 16777216
  · rw [if_pos c] at q1
    exact ⟨by rw [← r1.len]; exact sz_le c, fun p hp => wp_newT q1 p1.hr hp r1⟩
  · rw [if_neg c] at q1; exact q1.elim
theorem qe_lst (h : QA X W es mas) : QE X W (.List es pos) (mLst mas) := by
  refine qe_of (pe_lst h) fun σ φ env lh H Q h1 h2 q => ?_
  refine rd_of h1 h2 (wp_step q fun xs lh1 φ1 vs H1 p1 r1 q1 => ?_)
  by_cases c : xs.length ≤ 16777216
  · rw [if_pos c] at q1
    exact ⟨by rw [← r1.len]; exact sz_le c, fun p hp => wp_newL q1 p1.hr hp r1⟩
  · rw [if_neg c] at q1; exact q1.elim
end
/-! ### comprehensions -/
def wipeM (e : EN) : List Nat → EN
  | [] => e
  | v :: vs => (wipeM e vs).set v none
def mYes : M Bool := fun _ h => .ok true h
def loopC (g : IT) (t : TN) (c : M Bool) (y : M D) (e : EN) (k : Nat) : Nat → Nat → LH → Res D
  | n, j, h => match g h j with
    | none => .bad
    | some none => .ok (.ref k) h
    | some (some d) => match n with
      | 0 => .bad
      | n + 1 => match tnSet t d e with
        | none => .bad
        | some e1 => match c e1 h with
          | .ok true h2 => (match y e1 h2 with
            | .ok x h3 => (match h3[k]? with
              | some (.lst acc) => if acc.length < 16777216 then loopC g t c y e k n (j + 1) (h3.set k (.lst (acc ++ [x]))) else .bad
              | _ => .bad)
            | _ => .bad)
          | .ok false h2 => loopC g t c y e k n (j + 1) h2
          | _ => .bad
def mLc (it : M (IT × Nat)) (t : TN) (c : M Bool) (y : M D) (vs : List Nat) : M D := fun e h => (it e h).bind fun g h1 => loopC g.1 t c y (wipeM e vs) h1.length g.2 0 (h1 ++ [.lst []])
abbrev WN : WX := fun _ _ _ _ => False
abbrev QTs (X : Cx) (W : WX) (es : List Expr) (m : M Bool) : Prop := PTs X es (rdT X.K X.mg W m)
theorem qts_nil {X : Cx} {W : WX} : QTs X W [] mYes := ⟨fun pins s σ H Q I ⟨φ, env, lh, h1, h2, q⟩ => pts_nil.run pins s σ H Q I (wp_ok q (.refl h1) rfl)⟩
theorem qts_one {X : Cx} {W : WX} {c : Expr} {m : M Bool} (h : QT X W c m) : QTs X W [c] m := pts_one h
section
variable {K : PySem.W.Frag} {φ : Nat → Addr} {n : Nat} {H : Hp}
theorem RS.wipe {e : EN} {σ : L2.St} (r : RS K φ n H e σ) : ∀ vs : List Nat, RS K φ n H (wipeM e vs) (L2.wipe σ vs)
  | [] => r
  | v :: vs => (r.wipe vs).clear v
end
theorem wp_mono {K : PySem.W.Frag} {mg : Str → Option Value} {W : WX} {σ : L2.St} {α β : Type} {R : (Nat → Addr) → Nat → Hp → α → β → Prop} {x : Res α} {φ φ1 : Nat → Addr} {lh lh1 : LH} {H H1 : Hp} {Q : β → Hp → Prop} (p : Po K mg φ lh H φ1 lh1 H1) (h : wp K mg W σ R x φ lh H Q) : wp K mg W σ R x φ1 lh1 H1 Q := by
  cases x with
  | ok d lh' => exact fun φ' v H' p' r => h φ' v H' (p.trans p') r
  | exc e lh' => exact fun φ' cls dd H' p' r => h φ' cls dd H' (p.trans p') r
  | bad => exact h
theorem wipe_set0 (σ : L2.St) (i : Nat) : ∀ vs : List Nat, wipe (σ.set i none) vs = (wipe σ vs).set i none
  | [] => rfl
  | v :: vs => by
    show (wipe (σ.set i none) vs).set v none = ((wipe σ vs).set v none).set i none
    rw [wipe_set0 σ i vs]
    by_cases c : i = v
    · subst c; rfl
    · rw [List.set_comm _ _ c]
theorem wipe_wipe (σ : L2.St) : ∀ vs : List Nat, wipe (wipe σ vs) vs = wipe σ vs
  | [] => rfl
  | v :: vs => by
    show (wipe ((wipe σ vs).set v none) vs).set v none = (wipe σ vs).set v none
    rw [wipe_set0, wipe_wipe σ vs, List.set_set]
section
variable {X : Cx} {W : WX} {elt tg iter : Expr} {ifs : List Expr} {scope : Scope} {own : List (Str × Nat)} {pos : Pos} {mi : M (IT × Nat)} {t : TN} {mc : M Bool} {my : M D}
theorem lc_ok {vs : List Nat} (ho : ∀ i ∈ tnIx t, i ∈ vs) {K : PySem.W.Frag} {mg : Str → Option Value} {σ : L2.St} {H : Hp} {Q : VK} {φ : Nat → Addr} {env : EN} {lh : LH} (h1 : HR K mg φ lh H) (h2 : RS K φ lh.length H env σ)
    (q : wp K mg W σ (RD K) (mLc mi t mc my vs env lh) φ lh H Q) : tLc (rd K mg W (ItOk K mg) mi) (gN K t) (rdT K mg WN mc) (rdE K mg WN my) vs σ H Q := by
  refine rd_of h1 h2 (wp_step q fun g lh1 φ1 J H1 p1 r1 q1 => ?_)
  intro D hD
  have P0 : Po K mg φ1 lh1 H1 (ext1 φ1 lh1.length D) (lh1 ++ [.lst []]) (upd H1 D (.lst [])) := Po.new p1.hr hD ⟨[], upd_same, .nil⟩
  have hw : RS K φ1 lh1.length H1 (wipeM env vs) (wipe σ vs) := (h2.up p1).wipe _
  have hk : lh1.length < (lh1 ++ [LO.lst []]).length := by simp
  refine ⟨fun i m H => ∃ φ2 lh2, Po K mg (ext1 φ1 lh1.length D) (lh1 ++ [.lst []]) (upd H1 D (.lst [])) φ2 lh2 H ∧ wp K mg W σ (RD K) (loopC g.1 t mc my (wipeM env vs) lh1.length m i lh2) φ2 lh2 H Q, ⟨g.2, _, _, .refl P0.hr, wp_mono P0 q1⟩, ?_⟩
  rintro i m H2 ⟨φ2, lh2, p2, q2⟩
  have pp := P0.trans p2
  have eD : φ2 lh1.length = D := (p2.ag _ hk).trans ext1_at
  have hk2 : lh1.length < lh2.length := Nat.lt_of_lt_of_le hk p2.le
  unfold loopC at q2
  cases eg : g.1 lh2 i with
  | none => simp only [eg] at q2; exact q2.elim
  | some od =>
    cases od with
    | none =>
      simp only [eg] at q2
      refine .inl ⟨r1.stop φ2 lh2 H2 pp.le pp.ag pp.ext pp.hr i eg, ?_⟩
      have := wp_ok q2 (.refl p2.hr) (.ref hk2)
      rw [eD] at this
      exact this
    | some d =>
      simp only [eg] at q2
      cases m with
      | zero => exact q2.elim
      | succ m =>
        simp only at q2
        cases et : tnSet t d (wipeM env vs) with
        | none => simp only [et] at q2; exact q2.elim
        | some e1 =>
          simp only [et] at q2
          obtain ⟨hgo, hy⟩ := r1.go φ2 lh2 H2 pp.le pp.ag pp.ext pp.hr i d eg
          refine .inr ⟨hgo, fun H' => ∃ m', m' < m + 1 ∧ ∃ φ2 lh2, Po K mg (ext1 φ1 lh1.length D) (lh1 ++ [.lst []]) (upd H1 D (.lst [])) φ2 lh2 H' ∧ wp K mg W σ (RD K) (loopC g.1 t mc my (wipeM env vs) lh1.length m' (i + 1) lh2) φ2 lh2 H' Q, fun H' n => n, fun x H' y => ?_⟩
          obtain ⟨e0, rx⟩ := hy x H' y
          subst e0
          refine gN_ok et (hw.up pp) rx fun σ3 ew r3 => ⟨(ew vs ho).trans (wipe_wipe σ vs), φ2, e1, lh2, p2.hr, r3, ?_⟩
          cases ec : mc e1 lh2 with
          | exc e h => simp only [ec] at q2; exact q2.elim
          | bad => simp only [ec] at q2; exact q2.elim
          | ok b h3 =>
            intro φ3 b' H3 p3 eb
            cases eb
            cases b with
            | false =>
              simp only [ec] at q2
              exact ⟨m, Nat.lt_succ_self _, φ3, h3, p2.trans p3, wp_mono p3 q2⟩
            | true =>
              simp only [ec] at q2
              simp only [if_true]
              refine ⟨φ3, e1, h3, p3.hr, r3.up p3, ?_⟩
              cases ey : my e1 h3 with
              | exc e h => simp only [ey] at q2; exact q2.elim
              | bad => simp only [ey] at q2; exact q2.elim
              | ok z h4 =>
                simp only [ey] at q2
                intro φ4 v H4 p4 rv
                have p24 := p2.trans (p3.trans p4)
                have eD4 : φ4 lh1.length = D := (p24.ag _ hk).trans ext1_at
                have hk4 : lh1.length < h4.length := Nat.lt_of_lt_of_le hk p24.le
                cases ek : h4[lh1.length]? with
                | none => simp only [ek] at q2; exact q2.elim
                | some o =>
                  cases o with
                  | lst acc =>
                    simp only [ek] at q2
                    by_cases ca : acc.length < 16777216
                    · rw [if_pos ca] at q2
                      obtain ⟨ws, hws, rws⟩ := p4.hr.lst ek
                      have PP : Po K mg φ4 h4 H4 φ4 (h4.set lh1.length (.lst (acc ++ [z]))) (upd H4 (φ4 lh1.length) (.lst (ws ++ [v]))) :=
                        Po.put p4.hr hk4 ⟨_, upd_same, (rws.app (.cons rv .nil)).mono (Nat.le_refl _) (fun _ _ => rfl) (by
                          obtain ⟨u, hu, u1, u2⟩ := p4.hr.lt_some hk4
                          exact Ext.put hu u1 u2)⟩
                      rw [eD4] at hws PP
                      refine ⟨ws, hws, by rw [← rws.len, sizeLine_eq]; exact ca, m, Nat.lt_succ_self _, φ4, _, p24.trans PP, ?_⟩
                      exact wp_mono ((p3.trans p4).trans PP) q2
                    · rw [if_neg ca] at q2; exact q2.elim
                  | _ => simp only [ek] at q2; exact q2.elim
theorem qe_lc (ho : ∀ i ∈ tnIx t, i ∈ own.map (·.2)) (hc : X.calm = true) (hN : X.N.Nodup) (hi : QI X W tg iter mi) (ok : BlkOk X.N X.env.scope scope own)
    (hg : ∀ (s : Shared) (H : Hp) (C : Addr) (cl : List (Str × Addr)) (fp : List Addr), PG (X.blk s H scope (compEnvC scope cl C X.env) fp) tg (gN X.K t)) (ht : ∀ (s : Shared) (H : Hp) (C : Addr) (cl : List (Str × Addr)) (fp : List Addr), QTs (X.blk s H scope (compEnvC scope cl C X.env) fp) WN ifs mc)
    (he : ∀ (s : Shared) (H : Hp) (C : Addr) (cl : List (Str × Addr)) (fp : List Addr), QE (X.blk s H scope (compEnvC scope cl C X.env) fp) WN elt my) (hs : ∀ x, foldedSetIterable iter X.env x = pure x := by intro _; rfl) :
    QE X W (.ListComp elt [⟨tg, iter, ifs, 0⟩] scope pos) (mLc mi t mc my (own.map (·.2))) :=
  qe_of (pe_lc hc hN hi ok hg ht he hs) fun σ φ env lh H Q h1 h2 q => lc_ok ho h1 h2 q
theorem qs_setLc {i : Nat} {y : Str} {py spos : Pos} (ho : ∀ i ∈ tnIx t, i ∈ own.map (·.2)) (hc : X.calm = true) (hN : X.N.Nodup) (hy : X.N[i]? = some y) (hyl : X.env.scope.names.lookup y = some .local)
    (hsw : swapsWith (.ListComp elt [⟨tg, iter, ifs, 0⟩] scope pos) (some (.Name y py)) spos.line X.env = pure true) (hi : QI X W tg iter mi) (ok : BlkOk X.N X.env.scope scope own)
    (hg : ∀ (s : Shared) (H : Hp) (C : Addr) (cl : List (Str × Addr)) (fp : List Addr), PG (X.blk s H scope (compEnvC scope cl C X.env) fp) tg (gN X.K t)) (ht : ∀ (s : Shared) (H : Hp) (C : Addr) (cl : List (Str × Addr)) (fp : List Addr), QTs (X.blk s H scope (compEnvC scope cl C X.env) fp) WN ifs mc)
    (he : ∀ (s : Shared) (H : Hp) (C : Addr) (cl : List (Str × Addr)) (fp : List Addr), QE (X.blk s H scope (compEnvC scope cl C X.env) fp) WN elt my) (hs : ∀ x, foldedSetIterable iter X.env x = pure x := by intro _; rfl) :
    QS X W (.Assign [.Name y py] (.ListComp elt [⟨tg, iter, ifs, 0⟩] scope pos) spos) (sSet i (mLc mi t mc my (own.map (·.2)))) := by
  refine psI (ps_setLc (tt := rdT X.K X.mg WN mc) (te := rdE X.K X.mg WN my) hc hN hy hyl hsw hi ok hg ht he hs) fun D σ H ⟨φ, env, lh, h1, h2, q⟩ => ?_
  have q' : wps X.K X.mg W (sSet i (mLc mi t mc my (own.map (·.2))) env lh) φ lh H D := q
  exact lc_ok (W := W) ho h1 h2 (wps_step h2 q' fun x lh1 φ1 v H1 p1 r1 q1 => q1 φ1 _ H1 (.refl p1.hr) ((h2.up p1).set r1 i))
end
end HM
set_option Elab.async false
set_option linter.all false
set_option maxRecDepth 100000
set_option maxHeartbeats 4000000
namespace HM
open PySem L2 PySem.Spec PyProof.Rows
/-! ### operators by values -/
def dAdd : D → D → LH → Res D
  | .int a, .int b, h => .ok (.int (a + b)) h
  | .str a, .str b, h => if a.length + b.length ≤ 16777216 then .ok (.str (a ++ b)) h else .bad
  | .tup a, .tup b, h => if a.length + b.length ≤ 16777216 then .ok (.tup (a ++ b)) h else .bad
  | .ref i, .ref j, h => match h[i]?, h[j]? with
    | some (.lst a), some (.lst b) => if a.length + b.length ≤ 16777216 then .ok (.ref h.length) (h ++ [.lst (a ++ b)]) else .bad
    | _, _ => .bad
  | _, _, _ => .bad
def dSub : D → D → LH → Res D
  | .int a, .int b, h => .ok (.int (a - b)) h
  | _, _, _ => .bad
/-- one factor small, or both together below a million bits -/
def mulOk (a b : Int) : Bool := decide (b.natAbs < 2 ^ 63) || decide (a.natAbs.log2 + b.natAbs.log2 < 1000000)
def dMul : D → D → LH → Res D
  | .int a, .int b, h => if mulOk a b then .ok (.int (a * b)) h else .bad
  | _, _, _ => .bad
def dDiv : D → D → LH → Res D
  | .int a, .int b, h => if 0 < b ∧ b.natAbs.log2 < 9000 then .ok (.int (a / b)) h else .bad
  | _, _, _ => .bad
def dMod : D → D → LH → Res D
  | .int a, .int b, h => if 0 < b then .ok (.int (a % b)) h else .bad
  | _, _, _ => .bad
def dPow : D → D → LH → Res D
  | .int a, .int b, h => if 0 ≤ b ∧ b ≤ 1000000 ∧ a.natAbs < 2 ^ 64 then .ok (.int (a ^ b.toNat)) h else .bad
  | _, _, _ => .bad
def dNeg : D → LH → Res D
  | .int a, h => .ok (.int (-a)) h
  | _, _ => .bad
def dLt : D → D → LH → Res D
  | .int a, .int b, h => .ok (.bl (decide (a < b))) h
  | .str a, .str b, h => .ok (.bl (decide (a < b))) h
  | _, _, _ => .bad
def dLe : D → D → LH → Res D
  | .int a, .int b, h => .ok (.bl (decide (a ≤ b))) h
  | .str a, .str b, h => .ok (.bl (!decide (b < a))) h
  | _, _, _ => .bad
def dGt : D → D → LH → Res D
  | .int a, .int b, h => .ok (.bl (decide (b < a))) h
  | .str a, .str b, h => .ok (.bl (decide (b < a))) h
  | _, _, _ => .bad
def dGe : D → D → LH → Res D
  | .int a, .int b, h => .ok (.bl (decide (b ≤ a))) h
  | .str a, .str b, h => .ok (.bl (!decide (a < b))) h
  | _, _, _ => .bad
def dIsN (d : D) : Bool := match d with
  | .non => true
  | _ => false
def dIs : D → D → LH → Res D
  | a, .non, h => .ok (.bl (dIsN a)) h
  | _, _, _ => .bad
def dIsNot : D → D → LH → Res D
  | a, .non, h => .ok (.bl (!dIsN a)) h
  | _, _, _ => .bad
/-- flat values and their == -/
def flD : D → Bool
  | .non => true
  | .bl _ => true
  | .int _ => true
  | .str _ => true
  | _ => false
def eqF : D → D → Bool
  | .non, .non => true
  | .bl a, .bl b => a == b
  | .bl a, .int b => (if a then 1 else 0) == b
  | .int a, .bl b => a == (if b then 1 else 0)
  | .int a, .int b => a == b
  | .str a, .str b => a == b
  | _, _ => false
/-- the items of a list or tuple -/
def seqD (d : D) (h : LH) : Option (List D) := match d with
  | .tup xs => some xs
  | .scr ns => some (ns.map D.int)
  | .ref i => match h[i]? with
    | some (.lst xs) => some xs
    | _ => none
  | _ => none
def dIn : D → D → LH → Res D
  | .str [c], .str z, h => .ok (.bl (decide (c ∈ z))) h
  | x, d, h => match seqD d h with
    | some xs => if flD x && xs.all flD then .ok (.bl (xs.any fun y => eqF y x)) h else .bad
    | none => .bad
def dNotIn : D → D → LH → Res D
  | .str [c], .str z, h => .ok (.bl (!decide (c ∈ z))) h
  | x, d, h => match seqD d h with
    | some xs => if flD x && xs.all flD then .ok (.bl (!(xs.any fun y => eqF y x))) h else .bad
    | none => .bad
/-! data for == -/
mutual
def toP : Nat → LH → D → Option PyData
  | 0, _, _ => none
  | n + 1, h, d => match d with
    | .non => some .none
    | .bl b => some (.bool b)
    | .int i => some (.int i)
    | .str s => some (.str ⟨s.toArray⟩)
    | .tup xs => (toPs n h xs).map PyData.tuple
    | .scr ns => (toPs n h (ns.map D.int)).map PyData.list
    | .ref i => match h[i]? with
      | some (.lst xs) => (toPs n h xs).map PyData.list
      | _ => none
    | .exn _ => none
    | .exr _ _ _ => none
def toPs : Nat → LH → List D → Option (List PyData)
  | 0, _, _ => none
  | n + 1, h, xs => match xs with
    | [] => some []
    | x :: xs => match toP n h x, toPs n h xs with
      | some p, some ps => some (p :: ps)
      | _, _ => none
end
def dEqB (fu : Nat) (a b : D) (h : LH) : Option Bool := match a, b with
  | .int a, .int b => some (decide (a = b))
  | .str a, .str b => some (decide (a = b))
  | .bl a, .bl b => some (decide (a = b))
  | .non, .non => some true
  | .non, .int _ => some false
  | .int _, .non => some false
  | .non, .bl _ => some false
  | .bl _, .non => some false
  | .non, .str _ => some false
  | .str _, .non => some false
  | .int _, .str _ => some false
  | .str _, .int _ => some false
  | .bl _, .str _ => some false
  | .str _, .bl _ => some false
  | a, b => match toP fu h a, toP fu h b with
    | some p, some q => if SeqAt.shaped p && SeqAt.shaped q then some (PyData.eqv p q) else none
    | _, _ => none
def dEq (a b : D) (h : LH) : Res D := match dEqB 10000000 a b h with
  | some r => .ok (.bl r) h
  | none => .bad
def dNe (a b : D) (h : LH) : Res D := match dEqB 10000000 a b h with
  | some r => .ok (.bl (!r)) h
  | none => .bad
section
variable {K : PySem.W.Frag} {mg : Str → Option Value} {φ : Nat → Addr} {lh : LH} {H : Hp} {n : Nat}
theorem seqD_ok (hr : HR K mg φ lh H) {d : D} {v : V} {xs : List D} (r : RD K φ lh.length H d v) (h : seqD d lh = some xs) : ∃ a vs, v = .ref a ∧ (SqL K H a vs ∨ SqT K H a vs) ∧ RDs K φ lh.length H xs vs := by
  cases d with
  | tup ys =>
    cases h
    obtain ⟨a, vs, e, hq, r⟩ := r.tup_inv
    exact ⟨a, vs, e, .inr hq, r⟩
  | scr ns =>
    cases h
    obtain ⟨a, e, hq⟩ := r.scr_inv
    exact ⟨a, _, e, .inl hq, RDs.ints ns⟩
  | ref i =>
    obtain ⟨e, hi⟩ := r.ref_inv
    unfold seqD at h
    simp only at h
    cases el : lh[i]? with
    | none => rw [el] at h; cases h
    | some o =>
      cases o with
      | lst ys =>
        rw [el] at h
        cases h
        obtain ⟨vs, hv, r⟩ := hr.lst el
        exact ⟨_, vs, e, .inl (SqL.of hv), r⟩
      | _ => rw [el] at h; cases h
  | _ => cases h
mutual
theorem toP_ok (hr : HR K mg φ lh H) : ∀ {k : Nat} {d : D} {v : V} {p : PyData}, RD K φ lh.length H d v → toP k lh d = some p → Dp K H v p
  | 0, _, _, _, _, h => by unfold toP at h; cases h
  | k + 1, d, v, p, r, h => by
    unfold toP at h
    cases d with
    | exn a => cases h
    | exr a dx d => cases h
    | non => cases h; cases r; exact .non
    | bl b => cases h; cases r; exact .bl b
    | int b => cases h; cases r; exact .int b
    | str b => cases h; cases r; exact .str _
    | tup xs =>
      obtain ⟨a, vs, rfl, hq, rs⟩ := r.tup_inv
      cases e : toPs k lh xs with
      | none => simp only [e] at h; cases h
      | some ps =>
        simp only [e] at h
        cases h
        exact .tup hq (toPs_ok hr rs e)
    | scr ns =>
      obtain ⟨a, rfl, hq⟩ := r.scr_inv
      cases e : toPs k lh (ns.map D.int) with
      | none => simp only [e] at h; cases h
      | some ps =>
        simp only [e] at h
        cases h
        exact .lst hq (toPs_ok hr (RDs.ints ns) e)
    | ref i =>
      obtain ⟨rfl, hi⟩ := r.ref_inv
      simp only at h
      cases el : lh[i]? with
      | none => rw [el] at h; cases h
      | some o =>
        cases o with
        | lst ys =>
          rw [el] at h
          obtain ⟨vs, hv, rs⟩ := hr.lst el
          cases e : toPs k lh ys with
          | none => simp only [e] at h; cases h
          | some ps =>
            simp only [e] at h
            cases h
            exact .lst (SqL.of hv) (toPs_ok hr rs e)
        | _ => rw [el] at h; cases h
theorem toPs_ok (hr : HR K mg φ lh H) : ∀ {k : Nat} {ds : List D} {vs : List V} {ps : List PyData}, RDs K φ lh.length H ds vs → toPs k lh ds = some ps → DpAll K H vs ps
  | 0, _, _, _, _, h => by unfold toPs at h; cases h
  | k + 1, [], vs, ps, r, h => by
    unfold toPs at h
    cases h
    cases r
    exact .nil
  | k + 1, d :: ds, vs, ps, r, h => by
    unfold toPs at h
    cases r with
    | cons r1 r2 =>
      cases e1 : toP k lh d with
      | none => simp only [e1] at h; cases h
      | some p =>
        cases e2 : toPs k lh ds with
        | none => simp only [e1, e2] at h; cases h
        | some ps2 =>
          simp only [e1, e2] at h
          cases h
          exact .cons (toP_ok hr r1 e1) (toPs_ok hr r2 e2)
end
end
section
variable {X : Cx}
theorem str_app (a b : List Nat) : ((⟨a.toArray⟩ : Str) ++ (⟨b.toArray⟩ : Str)) = ⟨(a ++ b).toArray⟩ := by
  show (⟨a.toArray ++ b.toArray⟩ : Str) = _
  simp
theorem str_len (a : List Nat) : (⟨a.toArray⟩ : Str).length = a.length := by
  show a.toArray.size = _
  simp
theorem opm_add : OpM X (binaryOp .Add) dAdd := by
  refine ⟨_, op_add.or (op_add_str.or (op_catA.or op_cat)), fun W σ φ lh H x y v w Q hr rx ry q => ?_⟩
  unfold dAdd at q
  split at q
  · cases rx; cases ry
    exact .inl ⟨_, _, rfl, rfl, wp_ok q (.refl hr) (.int _)⟩
  · rename_i a b
    cases rx; cases ry
    split at q
    · rename_i c
      refine .inr (.inl ⟨_, _, rfl, rfl, by rw [str_len, str_len]; exact sz_le c, ?_⟩)
      rw [str_app]
      exact wp_ok q (.refl hr) (.str _)
    · exact q.elim
  · rename_i a b
    obtain ⟨p, vs, rfl, h1, r1⟩ := rx.tup_inv
    obtain ⟨p2, vs2, rfl, h2, r2⟩ := ry.tup_inv
    split at q
    · rename_i c
      have e1 := r1.len
      have e2 := r2.len
      refine .inr (.inr (.inl ⟨p, p2, vs, vs2, rfl, rfl, h1, h2, sz_le (by omega), fun e => ?_, fun e e' => ?_, fun e e' p hp => ?_⟩))
      · have : a = [] := List.eq_nil_of_length_eq_zero (by rw [e1, e]; rfl)
        subst this
        exact wp_ok q (.refl hr) ry
      · have : b = [] := List.eq_nil_of_length_eq_zero (by rw [e2, e']; rfl)
        subst this
        rw [List.append_nil] at q
        exact wp_ok q (.refl hr) rx
      · exact wp_newT q hr hp (r1.app r2)
    · exact q.elim
  · rename_i i j
    obtain ⟨rfl, _⟩ := rx.ref_inv
    obtain ⟨rfl, _⟩ := ry.ref_inv
    split at q
    · rename_i a b ea eb
      obtain ⟨vs, hv, r1⟩ := hr.lst ea
      obtain ⟨ws, hw, r2⟩ := hr.lst eb
      split at q
      · rename_i c
        have e1 := r1.len
        have e2 := r2.len
        exact .inr (.inr (.inr ⟨_, _, vs, ws, rfl, rfl, hv, hw, sz_le (by omega), fun p hp => wp_newL q hr hp (r1.app r2)⟩))
      · exact q.elim
    · exact q.elim
  · exact q.elim
theorem opm_sub : OpM X (binaryOp .Sub) dSub := by
  refine ⟨_, op_sub, fun W σ φ lh H x y v w Q hr rx ry q => ?_⟩
  unfold dSub at q
  split at q
  · cases rx; cases ry
    exact ⟨_, _, rfl, rfl, wp_ok q (.refl hr) (.int _)⟩
  · exact q.elim
theorem opm_mul : OpM X (binaryOp .Mult) dMul := by
  refine ⟨_, op_mul.or op_mulW, fun W σ φ lh H x y v w Q hr rx ry q => ?_⟩
  unfold dMul at q
  split at q
  · rename_i a b
    cases rx; cases ry
    split at q
    · rename_i c
      unfold mulOk at c
      rw [Bool.or_eq_true, decide_eq_true_eq, decide_eq_true_eq] at c
      rcases c with c | c
      · exact .inl ⟨_, _, rfl, rfl, .inr ⟨by omega, by omega⟩, wp_ok q (.refl hr) (.int _)⟩
      · exact .inr ⟨_, _, rfl, rfl, c, wp_ok q (.refl hr) (.int _)⟩
    · exact q.elim
  · exact q.elim
theorem opm_div : OpM X (binaryOp .FloorDiv) dDiv := by
  refine ⟨_, op_fdivW, fun W σ φ lh H x y v w Q hr rx ry q => ?_⟩
  unfold dDiv at q
  split at q
  · cases rx; cases ry
    split at q
    · rename_i c
      exact ⟨_, _, rfl, rfl, c, wp_ok q (.refl hr) (.int _)⟩
    · exact q.elim
  · exact q.elim
theorem opm_mod : OpM X (binaryOp .Mod) dMod := by
  refine ⟨_, op_mod, fun W σ φ lh H x y v w Q hr rx ry q => ?_⟩
  unfold dMod at q
  split at q
  · cases rx; cases ry
    split at q
    · rename_i c
      exact ⟨_, _, rfl, rfl, c, wp_ok q (.refl hr) (.int _)⟩
    · exact q.elim
  · exact q.elim
theorem opm_pow : OpM X (binaryOp .Pow) dPow := by
  refine ⟨_, op_pow, fun W σ φ lh H x y v w Q hr rx ry q => ?_⟩
  unfold dPow at q
  split at q
  · cases rx; cases ry
    split at q
    · rename_i c
      exact ⟨_, _, rfl, rfl, c, wp_ok q (.refl hr) (.int _)⟩
    · exact q.elim
  · exact q.elim
theorem unm_neg : UnM X (unaryOp .USub) dNeg := by
  refine ⟨_, un_neg, fun W σ φ lh H x v Q hr rx q => ?_⟩
  unfold dNeg at q
  split at q
  · cases rx
    exact ⟨_, rfl, wp_ok q (.refl hr) (.int _)⟩
  · exact q.elim
theorem opm_lt : OpM X (compareOp .Lt) dLt := by
  refine ⟨_, op_lt.or op_lt_str, fun W σ φ lh H x y v w Q hr rx ry q => ?_⟩
  unfold dLt at q
  split at q
  · cases rx; cases ry
    exact .inl ⟨_, _, rfl, rfl, wp_ok q (.refl hr) (.bl _)⟩
  · cases rx; cases ry
    exact .inr ⟨_, _, rfl, rfl, wp_ok q (.refl hr) (.bl _)⟩
  · exact q.elim
theorem opm_le : OpM X (compareOp .LtE) dLe := by
  refine ⟨_, op_le.or op_le_str, fun W σ φ lh H x y v w Q hr rx ry q => ?_⟩
  unfold dLe at q
  split at q
  · cases rx; cases ry
    exact .inl ⟨_, _, rfl, rfl, wp_ok q (.refl hr) (.bl _)⟩
  · cases rx; cases ry
    exact .inr ⟨_, _, rfl, rfl, wp_ok q (.refl hr) (.bl _)⟩
  · exact q.elim
theorem opm_gt : OpM X (compareOp .Gt) dGt := by
  refine ⟨_, op_gt.or op_gt_str, fun W σ φ lh H x y v w Q hr rx ry q => ?_⟩
  unfold dGt at q
  split at q
  · cases rx; cases ry
    exact .inl ⟨_, _, rfl, rfl, wp_ok q (.refl hr) (.bl _)⟩
  · cases rx; cases ry
    exact .inr ⟨_, _, rfl, rfl, wp_ok q (.refl hr) (.bl _)⟩
  · exact q.elim
theorem opm_ge : OpM X (compareOp .GtE) dGe := by
  refine ⟨_, op_ge.or op_ge_str, fun W σ φ lh H x y v w Q hr rx ry q => ?_⟩
  unfold dGe at q
  split at q
  · cases rx; cases ry
    exact .inl ⟨_, _, rfl, rfl, wp_ok q (.refl hr) (.bl _)⟩
  · cases rx; cases ry
    exact .inr ⟨_, _, rfl, rfl, wp_ok q (.refl hr) (.bl _)⟩
  · exact q.elim
theorem isN_ok {K : PySem.W.Frag} {φ : Nat → Addr} {n : Nat} {H : Hp} {d : D} {v : V} (r : RD K φ n H d v) : decide (v = V.non) = dIsN d := by
  cases r <;> first | rfl | exact decide_eq_false (fun z => nomatch z)
theorem opm_is : OpM X (compareOp .Is) dIs := by
  refine ⟨_, op_isN, fun W σ φ lh H x y v w Q hr rx ry q => ?_⟩
  unfold dIs at q
  split at q
  · cases ry
    refine ⟨rfl, ?_⟩
    rw [isN_ok rx]
    exact wp_ok q (.refl hr) (.bl _)
  · exact q.elim
theorem opm_isNot : OpM X (compareOp .IsNot) dIsNot := by
  refine ⟨_, op_notN, fun W σ φ lh H x y v w Q hr rx ry q => ?_⟩
  unfold dIsNot at q
  split at q
  · cases ry
    refine ⟨rfl, ?_⟩
    rw [isN_ok rx]
    exact wp_ok q (.refl hr) (.bl _)
  · exact q.elim
theorem flD_ok {K : PySem.W.Frag} {φ : Nat → Addr} {n : Nat} {H : Hp} {d : D} {v : V} (r : RD K φ n H d v) : flatV v = flD d := by
  cases r <;> rfl
theorem flDs_ok {K : PySem.W.Frag} {φ : Nat → Addr} {n : Nat} {H : Hp} : ∀ {ds : List D} {vs : List V}, RDs K φ n H ds vs → vs.all flatV = ds.all flD
  | _, _, .nil => rfl
  | _, _, .cons r rs => by rw [List.all_cons, List.all_cons, flD_ok r, flDs_ok rs]
theorem str_inj {a b : List Nat} : ((⟨a.toArray⟩ : Str) = ⟨b.toArray⟩) ↔ a = b := by
  constructor
  · intro h
    have : a.toArray = b.toArray := congrArg Str.cps h
    simpa using this
  · rintro rfl; rfl
theorem eqF_ok {K : PySem.W.Frag} {φ : Nat → Addr} {n : Nat} {H : Hp} {d e : D} {v w : V} (r : RD K φ n H d v) (s : RD K φ n H e w) : eqV v w = eqF d e := by
  cases r <;> cases s <;> first
    | rfl
    | (show ((⟨_⟩ : Str) == ⟨_⟩) = (_ == _)
       rw [Bool.eq_iff_iff, beq_iff_eq, beq_iff_eq]
       exact str_inj)
theorem inV_ok {K : PySem.W.Frag} {φ : Nat → Addr} {n : Nat} {H : Hp} {d : D} {v : V} (r : RD K φ n H d v) : ∀ {ds : List D} {vs : List V}, RDs K φ n H ds vs → inV v vs = ds.any fun y => eqF y d
  | _, _, .nil => rfl
  | _, _, .cons q qs => by
    have e1 := eqF_ok q r
    have e2 := inV_ok r qs
    unfold inV at e2 ⊢
    rw [List.any_cons, List.any_cons, e1, e2]
theorem opm_in : OpM X (compareOp .In) dIn := by
  refine ⟨_, op_in_sign.or op_in_seq, fun W σ φ lh H x y v w Q hr rx ry q => ?_⟩
  unfold dIn at q
  split at q
  · cases rx; cases ry
    refine .inl ⟨_, _, rfl, rfl, ?_⟩
    exact wp_ok q (.refl hr) (by simpa using .bl _)
  · split at q
    · rename_i xs e
      obtain ⟨a, vs, rfl, hq, rs⟩ := seqD_ok hr ry e
      split at q
      · rename_i c
        rw [Bool.and_eq_true] at c
        refine .inr ⟨a, vs, rfl, hq, (flD_ok rx).trans c.1, (flDs_ok rs).trans c.2, ?_⟩
        simp only [Bool.false_eq_true, if_false]
        rw [inV_ok rx rs]
        exact wp_ok q (.refl hr) (.bl _)
      · exact q.elim
    · exact q.elim
theorem opm_notIn : OpM X (compareOp .NotIn) dNotIn := by
  refine ⟨_, op_notIn_sign.or op_notIn_seq, fun W σ φ lh H x y v w Q hr rx ry q => ?_⟩
  unfold dNotIn at q
  split at q
  · cases rx; cases ry
    refine .inl ⟨_, _, rfl, rfl, ?_⟩
    exact wp_ok q (.refl hr) (by simpa using .bl _)
  · split at q
    · rename_i xs e
      obtain ⟨a, vs, rfl, hq, rs⟩ := seqD_ok hr ry e
      split at q
      · rename_i c
        rw [Bool.and_eq_true] at c
        refine .inr ⟨a, vs, rfl, hq, (flD_ok rx).trans c.1, (flDs_ok rs).trans c.2, ?_⟩
        simp only [if_true]
        rw [inV_ok rx rs]
        exact wp_ok q (.refl hr) (.bl _)
      · exact q.elim
    · exact q.elim
theorem dEqB_ok {K : PySem.W.Frag} {mg : Str → Option Value} {φ : Nat → Addr} {lh : LH} {H : Hp} {fu : Nat} {d e : D} {v w : V} {b : Bool} (hr : HR K mg φ lh H) (r : RD K φ lh.length H d v) (s : RD K φ lh.length H e w) (h : dEqB fu d e lh = some b) :
    (scal v w = true ∧ decide (v = w) = b) ∨ ∃ p q, Dp K H v p ∧ Dp K H w q ∧ SeqAt.shaped p = true ∧ SeqAt.shaped q = true ∧ PyData.eqv p q = b := by
  unfold dEqB at h
  split at h
  all_goals first
    | (cases r; cases s; cases h; exact .inl ⟨rfl, decide_eq_false (fun z => nomatch z)⟩)
    | (cases r; cases s; cases h; exact .inl ⟨rfl, decide_eq_true rfl⟩)
    | (cases r; cases s; cases h
       refine .inl ⟨rfl, ?_⟩
       rw [decide_eq_decide]
       constructor
       · intro z
         first
           | (exact V.int.inj z)
           | (exact V.bl.inj z)
           | (exact str_inj.mp (V.str.inj z))
       · rintro rfl; rfl)
    | skip
  rename_i a b' _ _ _ _ _ _ _ _ _ _ _ _ _ _
  split at h
  · rename_i p q ep eq
    split at h
    · rename_i c
      rw [Bool.and_eq_true] at c
      cases h
      exact .inr ⟨p, q, toP_ok hr r ep, toP_ok hr s eq, c.1, c.2, rfl⟩
    · cases h
  · cases h
theorem opm_eq (hu : X.A.units + 64 < cLine) : OpM X (compareOp .Eq) dEq := by
  refine ⟨_, op_eq.or (op_eqD hu), fun W σ φ lh H x y v w Q hr rx ry q => ?_⟩
  unfold dEq at q
  split at q
  · rename_i b e
    have q' := wp_ok q (.refl hr) (.bl b)
    rcases dEqB_ok hr rx ry e with ⟨h1, h2⟩ | ⟨p, p2, h1, h2, h3, h4, h5⟩
    · exact .inl ⟨h1, by rw [h2]; exact q'⟩
    · exact .inr ⟨p, p2, h1, h2, h3, h4, by rw [h5]; exact q'⟩
  · exact q.elim
theorem opm_ne (hu : X.A.units + 64 < cLine) : OpM X (compareOp .NotEq) dNe := by
  refine ⟨_, op_ne.or (op_neD hu), fun W σ φ lh H x y v w Q hr rx ry q => ?_⟩
  unfold dNe at q
  split at q
  · rename_i b e
    have q' := wp_ok q (.refl hr) (.bl (!b))
    rcases dEqB_ok hr rx ry e with ⟨h1, h2⟩ | ⟨p, p2, h1, h2, h3, h4, h5⟩
    · exact .inl ⟨h1, by rw [h2]; exact q'⟩
    · exact .inr ⟨p, p2, h1, h2, h3, h4, by rw [h5]; exact q'⟩
  · exact q.elim
end
end HM
set_option Elab.async false
set_option linter.all false
set_option maxRecDepth 100000
set_option maxHeartbeats 4000000
namespace HM
open PySem L2 PySem.Spec PyProof.Rows
/-! ### built-ins by values -/
def dLen : MF := fun xs h => match xs with
  | [.str s] => if s.length ≤ 16777216 then .ok (.int s.length) h else .bad
  | [.ref i] => match h[i]? with
    | some (.lst ys) => .ok (.int ys.length) h
    | _ => .bad
  | [.tup ys] => .ok (.int ys.length) h
  | [.scr ys] => .ok (.int ys.length) h
  | _ => .bad
def dOrd : MF := fun xs h => match xs with
  | [.str [c]] => .ok (.int c) h
  | _ => .bad
def dInt : MF := fun xs h => match xs with
  | [.int i] => .ok (.int i) h
  | [.bl b] => .ok (.int (if b then 1 else 0)) h
  | _ => .bad
def dAbs : MF := fun xs h => match xs with
  | [.int i] => .ok (.int (if i < 0 then -i else i)) h
  | _ => .bad
def dMax2 : MF := fun xs h => match xs with
  | [.int i, .int j] => .ok (.int (if j > i then j else i)) h
  | _ => .bad
def dMin2 : MF := fun xs h => match xs with
  | [.int i, .int j] => .ok (.int (if j < i then j else i)) h
  | _ => .bad
/-- the decimal digits of an int, as codes -/
def strI (i : Int) : List Nat := (Str.ofString (toString i)).cps.toList
def dStr : MF := fun xs h => match xs with
  | [.int i] => if i.natAbs.log2 < 1920 then .ok (.str (strI i)) h else .bad
  | _ => .bad
def dList : MF := fun xs h => match xs with
  | [d] => match seqD d h with
    | some ys => .ok (.ref h.length) (h ++ [.lst ys])
    | none => .bad
  | _ => .bad
def dTuple : MF := fun xs h => match xs with
  | [d] => match seqD d h with
    | some ys => .ok (.tup ys) h
    | none => .bad
  | _ => .bad
inductive BT where
  | str | int | bool | list | tuple | dict | none
  deriving DecidableEq
def tyD (d : D) (h : LH) : Option BT := match d with
  | .non => some .none
  | .bl _ => some .bool
  | .int _ => some .int
  | .str _ => some .str
  | .tup _ => some .tuple
  | .scr _ => some .list
  | .ref i => match h[i]? with
    | some (.lst _) => some .list
    | some (.dK _) => some .dict
    | some (.dT _) => some .dict
    | _ => Option.none
  | .exn _ => Option.none
  | .exr _ _ _ => Option.none
def isB (a b : BT) : Bool := match a, b with
  | .bool, .int => true
  | a, b => decide (a = b)
def mIsI (b : BT) (a : M D) : M D := fun e h => (a e h).bind fun d h1 => match tyD d h1 with
  | some t => .ok (.bl (isB t b)) h1
  | Option.none => .bad
def btName : BT → String
  | .str => "str" | .int => "int" | .bool => "bool" | .list => "list" | .tuple => "tuple" | .dict => "dict" | .none => "NoneType"
section
variable {X : Cx} {W : WX} {e : Expr} {ma : M D}
theorem callm_of {g : Value} {f : MF} {r : List V → Hp → VK → Prop} (h : CallR X g r) (k : ∀ W σ φ lh H xs vs Q, HR X.K X.mg φ lh H → RDs X.K φ lh.length H xs vs → wp X.K X.mg W σ (RD X.K) (f xs lh) φ lh H Q → r vs H Q) : CallM X g f := ⟨r, h, k⟩
theorem RDs.one {K : PySem.W.Frag} {φ : Nat → Addr} {n : Nat} {H : Hp} {d : D} {vs : List V} (r : RDs K φ n H [d] vs) : ∃ v, vs = [v] ∧ RD K φ n H d v := by
  cases r with
  | cons r rn => cases rn; exact ⟨_, rfl, r⟩
theorem RDs.two {K : PySem.W.Frag} {φ : Nat → Addr} {n : Nat} {H : Hp} {d d2 : D} {vs : List V} (r : RDs K φ n H [d, d2] vs) : ∃ v v2, vs = [v, v2] ∧ RD K φ n H d v ∧ RD K φ n H d2 v2 := by
  cases r with
  | cons r rn =>
    obtain ⟨v2, e, r2⟩ := rn.one
    subst e
    exact ⟨_, _, rfl, r, r2⟩
theorem cm_len : CallM X (.builtin "len") dLen := by
  refine callm_of call_len fun W σ φ lh H xs vs Q hr rs q => ?_
  unfold dLen at q
  split at q
  · obtain ⟨v, rfl, r⟩ := rs.one
    cases r
    split at q
    · rename_i s c
      exact ⟨_, _, rfl, ⟨by rw [str_len]; exact sz_le c, rfl⟩, by rw [str_len]; exact wp_ok q (.refl hr) (.int _)⟩
    · exact q.elim
  · obtain ⟨v, rfl, r⟩ := rs.one
    obtain ⟨rfl, hi⟩ := r.ref_inv
    split at q
    · rename_i ys ey
      obtain ⟨ws, hw, r2⟩ := hr.lst ey
      exact ⟨_, _, rfl, .inl ⟨_, SqL.of hw, rfl⟩, by rw [← r2.len]; exact wp_ok q (.refl hr) (.int _)⟩
    · exact q.elim
  · obtain ⟨v, rfl, r⟩ := rs.one
    obtain ⟨a, ws, rfl, hq, r2⟩ := r.tup_inv
    exact ⟨_, _, rfl, .inr ⟨_, hq, rfl⟩, by rw [← r2.len]; exact wp_ok q (.refl hr) (.int _)⟩
  · obtain ⟨v, rfl, r⟩ := rs.one
    obtain ⟨a, rfl, hq⟩ := r.scr_inv
    exact ⟨_, _, rfl, .inl ⟨_, hq, rfl⟩, by rw [List.length_map]; exact wp_ok q (.refl hr) (.int _)⟩
  · exact q.elim
theorem cm_ord : CallM X (.builtin "ord") dOrd := by
  refine callm_of call_ord fun W σ φ lh H xs vs Q hr rs q => ?_
  unfold dOrd at q
  split at q
  · obtain ⟨v, rfl, r⟩ := rs.one
    cases r
    exact ⟨_, rfl, rfl, wp_ok q (.refl hr) (.int _)⟩
  · exact q.elim
theorem cm_int : CallM X (.type "int") dInt := by
  refine callm_of call_int1 fun W σ φ lh H xs vs Q hr rs q => ?_
  unfold dInt at q
  split at q
  · obtain ⟨v, rfl, r⟩ := rs.one
    cases r
    exact .inl ⟨_, rfl, wp_ok q (.refl hr) (.int _)⟩
  · obtain ⟨v, rfl, r⟩ := rs.one
    cases r
    exact .inr ⟨_, rfl, wp_ok q (.refl hr) (.int _)⟩
  · exact q.elim
theorem cm_abs : CallM X (.builtin "abs") dAbs := by
  refine callm_of call_abs fun W σ φ lh H xs vs Q hr rs q => ?_
  unfold dAbs at q
  split at q
  · obtain ⟨v, rfl, r⟩ := rs.one
    cases r
    exact ⟨_, rfl, wp_ok q (.refl hr) (.int _)⟩
  · exact q.elim
theorem cm_max2 (hc : X.calm = true) : CallM X (.builtin "max") dMax2 := by
  refine callm_of (call_max2 hc) fun W σ φ lh H xs vs Q hr rs q => ?_
  unfold dMax2 at q
  split at q
  · obtain ⟨v, v2, rfl, r, r2⟩ := rs.two
    cases r
    cases r2
    exact ⟨_, _, rfl, wp_ok q (.refl hr) (.int _)⟩
  · exact q.elim
theorem cm_min2 (hc : X.calm = true) : CallM X (.builtin "min") dMin2 := by
  refine callm_of (call_min2 hc) fun W σ φ lh H xs vs Q hr rs q => ?_
  unfold dMin2 at q
  split at q
  · obtain ⟨v, v2, rfl, r, r2⟩ := rs.two
    cases r
    cases r2
    exact ⟨_, _, rfl, wp_ok q (.refl hr) (.int _)⟩
  · exact q.elim
theorem rd_str {K : PySem.W.Frag} {φ : Nat → Addr} {n : Nat} {H : Hp} (x : Str) : RD K φ n H (.str x.cps.toList) (.str x) := by
  have r := RD.str (K := K) (φ := φ) (n := n) (H := H) x.cps.toList
  rw [str_eta] at r
  exact r
theorem cm_str : CallM X (.type "str") dStr := by
  refine callm_of call_str_int fun W σ φ lh H xs vs Q hr rs q => ?_
  unfold dStr at q
  split at q
  · obtain ⟨v, rfl, r⟩ := rs.one
    cases r
    split at q
    · rename_i c
      exact ⟨_, rfl, c, wp_ok q (.refl hr) (rd_str _)⟩
    · exact q.elim
  · exact q.elim
theorem cm_list : CallM X (.type "list") dList := by
  refine callm_of call_list_of fun W σ φ lh H xs vs Q hr rs q => ?_
  unfold dList at q
  split at q
  · obtain ⟨v, rfl, r⟩ := rs.one
    split at q
    · rename_i ys e
      obtain ⟨a, ws, rfl, hq, r2⟩ := seqD_ok hr r e
      exact ⟨a, ws, rfl, hq, fun l hl => wp_newL q hr hl r2⟩
    · exact q.elim
  · exact q.elim
theorem cm_tuple : CallM X (.type "tuple") dTuple := by
  refine callm_of call_tuple_of fun W σ φ lh H xs vs Q hr rs q => ?_
  unfold dTuple at q
  split at q
  · obtain ⟨v, rfl, r⟩ := rs.one
    split at q
    · rename_i ys e
      obtain ⟨a, ws, rfl, hq, r2⟩ := seqD_ok hr r e
      refine ⟨a, ws, rfl, ?_⟩
      rcases hq with hq | hq
      · exact .inl ⟨hq, fun l hl => wp_newT q hr hl r2⟩
      · exact .inr ⟨hq, wp_ok q (.refl hr) (.tup hq r2)⟩
    · exact q.elim
  · exact q.elim
theorem tyD_ok {K : PySem.W.Frag} {mg : Str → Option Value} {φ : Nat → Addr} {lh : LH} {H : Hp} {d : D} {v : V} {t : BT} (hr : HR K mg φ lh H) (r : RD K φ lh.length H d v) (h : tyD d lh = some t) : TyX K H v (.type (btName t)) := by
  unfold tyD at h
  split at h
  · cases h; cases r; exact .base .non
  · cases h; cases r; exact .base (.bl _)
  · cases h; cases r; exact .base (.int _)
  · cases h; cases r; exact .base (.str _)
  · cases h
    obtain ⟨a, vs, rfl, hq, _⟩ := r.tup_inv
    rcases hq with (hq | ⟨o, hq⟩) | ⟨o, its, n, hk, hc, _⟩
    · exact .base (.tup hq)
    · exact .fTuple hq
    · exact .kTuple hk hc
  · cases h
    cases r with
    | scr hs =>
      rcases hs with ⟨o, hs⟩ | ⟨o, its, m, hk, hc, _⟩
      · exact .base (.frz hs)
      · exact .kList hk hc
  · rename_i i
    obtain ⟨rfl, _⟩ := r.ref_inv
    split at h
    · rename_i xs e
      cases h
      obtain ⟨vs, hv, _⟩ := hr.lst e
      exact .base (.lst hv)
    · rename_i xs e
      cases h
      obtain ⟨vs, hv, _⟩ := hr.obj _ _ e
      exact .base (.dK hv)
    · rename_i xs e
      cases h
      obtain ⟨vs, hv, _⟩ := hr.obj _ _ e
      exact .base (.dT hv)
    · cases h
  · cases h
  · cases h
theorem kit_all (a b : BT) (hb : b ≠ .none) : kitB (btName a) (btName b) = some (isB a b) := by
  cases b <;> first
    | exact absurd rfl hb
    | (cases a <;> decide +kernel)
theorem qe_isi (b : BT) {p p2 pos : Pos} (hb : b ≠ .none) (he : QE X W e ma) (hg : Gl X "isinstance") (hm : X.mg "isinstance" = none) (hg2 : Gl X (Str.ofString (btName b))) (hm2 : X.mg (Str.ofString (btName b)) = none)
    (hv2 : bootBuiltins (Str.ofString (btName b)) = some (.type (btName b))) (hn2 : Str.ofString (btName b) ≠ "__name__" := by decide) (hdb2 : (Str.ofString (btName b) == ("__debug__" : Str)) = false := by decide)
    (hs1 : starEach [e, .Name (Str.ofString (btName b)) p2] X.env = (false, eval e X.env) :: starEach [.Name (Str.ofString (btName b)) p2] X.env := by rfl)
    (hs2 : starEach [.Name (Str.ofString (btName b)) p2] X.env = (false, eval (.Name (Str.ofString (btName b)) p2) X.env) :: starEach [] X.env := by rfl)
    (hpl : (backTo pos (starEach [.Name (Str.ofString (btName b)) p2] X.env)).any (·.1) = false := by rfl) :
    QE X W (.Call (.Name "isinstance" p) [e, .Name (Str.ofString (btName b)) p2] [] pos) (mIsI b ma) := by
  have pb : PE X (.Name (Str.ofString (btName b)) p2) (tC (.ty (btName b))) := pe_bltn hg2 hm2 hv2 rfl hn2 hdb2
  refine qe_of (pe_callB call_isi hg hm (by decide +kernel) (pa_cons he (pa_cons pb pa_nil hs2) hs1) (he := hs1) (hpl := hpl)) fun σ φ env lh H Q h1 h2 q => ?_
  refine rd_of h1 h2 (wp_step q fun d lh1 φ1 v H1 p1 r1 q1 => ?_)
  split at q1
  · rename_i t et
    exact ⟨v, .ty (btName b), _, _, isB t b, rfl, .ty _, tyD_ok p1.hr r1 et, kit_ty (kit_all t b hb), wp_ok q1 (.refl p1.hr) (.bl _)⟩
  · exact q1.elim
end
/-! ### subscripts and slices -/
def ixD (d : D) (i : Int) (h : LH) : Option D := match d with
  | .str s => (atI s i).map fun c => .str [c]
  | d => match seqD d h with
    | some xs => atI xs i
    | none => none
def dIx : D → D → LH → Res D
  | .str s, .int i, h => if s.length ≤ 16777216 then (match atI s i with
    | some c => .ok (.str [c]) h
    | none => .bad) else .bad
  | d, .int i, h => match seqD d h with
    | some xs => (match atI xs i with
      | some x => .ok x h
      | none => .bad)
    | none => .bad
  | _, _, _ => .bad
/-- a slice's part -/
def mNoP : M (Option Int) := fun _ h => .ok none h
def mPart (a : M D) : M (Option Int) := fun e h => (a e h).bind fun d h1 => match d with
  | .int i => .ok (some i) h1
  | _ => .bad
def cutD {α : Type} (xs : List α) (lo hi : Option Int) : List α := (xs.drop (HT.sIx xs.length 0 lo)).take (HT.sIx xs.length xs.length hi - HT.sIx xs.length 0 lo)
def dSl (d : D) (lo hi : Option Int) (h : LH) : Res D := match d with
  | .str s => if s.length ≤ 16777216 then .ok (.str (cutD s lo hi)) h else .bad
  | .tup xs => .ok (.tup (cutD xs lo hi)) h
  | d => match seqD d h with
    | some xs => .ok (.ref h.length) (h ++ [.lst (cutD xs lo hi)])
    | none => .bad
def mSl (a : M D) (lo hi : M (Option Int)) : M D := fun e h => (a e h).bind fun d h1 => (lo e h1).bind fun l h2 => (hi e h2).bind fun u h3 => dSl d l u h3
abbrev QO (X : Cx) (W : WX) (e : Option Expr) (m : M (Option Int)) : Prop := PO X e (rd X.K X.mg W REq m)
section
variable {X : Cx} {W : WX} {a b : Expr} {pos p2 : Pos} {ma mb : M D} {lo hi : Option Expr} {ml mh : M (Option Int)}
theorem RDs.atI {K : PySem.W.Frag} {φ : Nat → Addr} {n : Nat} {H : Hp} {ds : List D} {vs : List V} {i : Int} {d : D} (r : RDs K φ n H ds vs) (h : L2.atI ds i = some d) : ∃ v, L2.atI vs i = some v ∧ RD K φ n H d v := by
  unfold L2.atI at h ⊢
  rw [r.len] at h
  cases e : ixN vs.length i with
  | none => rw [e] at h; cases h
  | some j =>
    rw [e] at h
    exact r.get h
theorem qe_ix (ha : QE X W a ma) (hb : QE X W b mb) (hs : PlainIx b) : QE X W (.Subscript a b pos) (mOp dIx ma mb) := by
  refine qe_of (pe_ix ix_seq ha hb hs) fun σ φ env lh H Q h1 h2 q => ?_
  refine rd_of h1 h2 (wp_step q fun x lh1 φ1 v H1 p1 r1 q1 => ?_)
  refine rd_of p1.hr (h2.up p1) (wp_step q1 fun y lh2 φ2 w H2 p2 r2 q2 => ?_)
  have r1' := r1.up p2
  unfold dIx at q2
  split at q2
  · cases r1'
    cases r2
    split at q2
    · rename_i s i c
      split at q2
      · rename_i ch e
        exact .inr (.inr ⟨_, i, ch, rfl, rfl, by rw [str_len]; exact sz_le c, by simpa using e, wp_ok q2 (.refl p2.hr) (.str [ch])⟩)
      · exact q2.elim
    · exact q2.elim
  · cases r2
    split at q2
    · rename_i xs e
      obtain ⟨ad, vs, rfl, hq, rs⟩ := seqD_ok p2.hr r1' e
      split at q2
      · rename_i x e2
        obtain ⟨u, eu, ru⟩ := rs.atI e2
        rcases hq with hq | hq
        · exact .inl ⟨ad, vs, _, u, rfl, rfl, hq, eu, wp_ok q2 (.refl p2.hr) ru⟩
        · exact .inr (.inl ⟨ad, vs, _, u, rfl, rfl, hq, eu, wp_ok q2 (.refl p2.hr) ru⟩)
      · exact q2.elim
    · exact q2.elim
  · exact q2.elim
theorem qo_none : QO X W none mNoP := ⟨fun pins s σ H Q I ⟨φ, env, lh, h1, h2, q⟩ => po_none.run pins s σ H Q I (wp_ok q (.refl h1) rfl)⟩
theorem qo_some (h : QE X W a ma) : QO X W (some a) (mPart ma) := by
  refine ⟨fun pins s σ H Q I ⟨φ, env, lh, h1, h2, q⟩ => (po_some h).run pins s σ H Q I ?_⟩
  refine rd_of h1 h2 (wp_step q fun d lh1 φ1 v H1 p1 r1 q1 => ?_)
  cases d with
  | int i => cases r1; exact ⟨i, rfl, wp_ok q1 (.refl p1.hr) rfl⟩
  | _ => exact q1.elim
theorem RDs.cut {K : PySem.W.Frag} {φ : Nat → Addr} {n : Nat} {H : Hp} {ds : List D} {vs : List V} (r : RDs K φ n H ds vs) (lo hi : Option Int) : RDs K φ n H (cutD ds lo hi) (cutV vs lo hi) := by
  unfold cutD cutV
  rw [r.len]
  exact (r.drop _).take _
theorem qe_sl (ha : QE X W a ma) (hl : QO X W lo ml) (hh : QO X W hi mh) : QE X W (.Subscript a (.Slice lo hi none p2) pos) (mSl ma ml mh) := by
  refine qe_of (pe_slice (sl_list.or (sl_tupA.or sl_str)) ha hl hh) fun σ φ env lh H Q h1 h2 q => ?_
  refine rd_of h1 h2 (wp_step q fun x lh1 φ1 v H1 p1 r1 q1 => ?_)
  refine rd_of p1.hr (h2.up p1) (wp_step q1 fun l lh2 φ2 l' H2 p2 r2 q2 => ?_)
  cases r2
  refine rd_of p2.hr ((h2.up p1).up p2) (wp_step q2 fun u lh3 φ3 u' H3 p3 r3 q3 => ?_)
  cases r3
  have r := (r1.up p2).up p3
  unfold dSl at q3
  split at q3
  · cases r
    split at q3
    · rename_i s c
      refine .inr (.inr ⟨_, rfl, by rw [str_len]; exact sz_le c, ?_⟩)
      refine wp_ok q3 (.refl p3.hr) ?_
      have e : cutS ⟨s.toArray⟩ l u = ⟨(cutD s l u).toArray⟩ := by
        unfold cutS cutD
        simp [str_len]
      rw [e]
      exact .str _
    · exact q3.elim
  · rename_i xs
    obtain ⟨ad, vs, rfl, hq, rs⟩ := r.tup_inv
    refine .inr (.inl ⟨ad, vs, rfl, hq, fun c => ?_, fun c p hp => wp_newT q3 p3.hr hp (rs.cut l u)⟩)
    have e : cutD xs l u = xs := by
      unfold cutD
      rw [rs.len, c.1, c.2, List.drop_zero, Nat.sub_zero, ← rs.len, List.take_length]
    rw [e] at q3
    exact wp_ok q3 (.refl p3.hr) (.tup hq rs)
  · rename_i d _ hx
    split at q3
    · rename_i xs e
      obtain ⟨ad, vs, rfl, hq, rs⟩ := seqD_ok p3.hr r e
      rcases hq with hq | hq
      · exact .inl ⟨ad, vs, rfl, hq, fun p hp => wp_newL q3 p3.hr hp (rs.cut l u)⟩
      · cases r with
        | exn => cases e
        | exr => cases e
        | tup => exact absurd rfl (hx _)
        | ref hi =>
          unfold seqD at e
          simp only at e
          split at e
          · rename_i ys el
            cases e
            obtain ⟨ws, hw, rw'⟩ := p3.hr.lst el
            exact .inl ⟨_, ws, rfl, SqL.of hw, fun p hp => wp_newL q3 p3.hr hp (rw'.cut l u)⟩
          · cases e
        | scr hs =>
          cases e
          exact .inl ⟨ad, _, rfl, scrL_ext (Ext.refl _) hs, fun p hp => wp_newL q3 p3.hr hp ((RDs.ints _).cut l u)⟩
    · exact q3.elim
end
end HM
set_option Elab.async false
set_option linter.all false
set_option maxRecDepth 100000
set_option maxHeartbeats 4000000
namespace HM
open PySem L2 PySem.Spec PyProof.Rows
/-! ### methods of built-ins -/
abbrev MM := D → List D → LH → Res D
def isLst (d : D) (h : LH) : Bool := match seqD d h, d with
  | some _, .tup _ => false
  | some _, _ => true
  | none, _ => false
def mMet (ck : D → LH → Bool) (f : MM) (o : M D) (a : M (List D)) : M D := fun e h => (o e h).bind fun x h1 => if ck x h1 then (a e h1).bind fun xs h2 => f x xs h2 else .bad
def isStr (d : D) (_ : LH) : Bool := match d with
  | .str _ => true
  | _ => false
def dAppend : MM := fun x xs h => match x, xs with
  | .ref i, [y] => match h[i]? with
    | some (.lst ys) => if ys.length < 16777216 then .ok .non (h.set i (.lst (ys ++ [y]))) else .bad
    | _ => .bad
  | _, _ => .bad
/-- the codes of texts -/
def strsD : List D → Option (List (List Nat))
  | [] => some []
  | .str s :: r => (strsD r).map fun l => s :: l
  | _ :: _ => none
def dJoin : MM := fun x xs h => match x, xs with
  | .str a, [d] => match seqD d h with
    | some ys => match strsD ys with
      | some ss => if (ss.map (·.length)).sum + ss.length * a.length ≤ 16777216 then .ok (.str (TL.joinL a ss)) h else .bad
      | none => .bad
    | none => .bad
  | _, _ => .bad
def dSplit : MM := fun x xs h => match x, xs with
  | .str a, [.str b] => if b ≠ [] ∧ b.all (· < 256) = true ∧ a.length + 2 ≤ 16777216 then .ok (.ref h.length) (h ++ [.lst ((TL.spl b 0 [] a).map D.str)]) else .bad
  | _, _ => .bad
section
variable {X : Cx} {W : WX} {o e : Expr} {es : List Expr} {ma mo : M D} {mas : M (List D)} {apos cpos : Pos}
theorem isLst_ok {K : PySem.W.Frag} {mg : Str → Option Value} {φ : Nat → Addr} {lh : LH} {H : Hp} {d : D} {v : V} (hr : HR K mg φ lh H) (r : RD K φ lh.length H d v) (h : isLst d lh = true) : tyV K "list" v H := by
  unfold isLst at h
  cases d with
  | tup xs => simp only [seqD] at h; cases h
  | scr ns =>
    obtain ⟨a, rfl, hq⟩ := r.scr_inv
    exact .inl ⟨rfl, _, hq⟩
  | ref i =>
    obtain ⟨rfl, _⟩ := r.ref_inv
    cases e : seqD (.ref i) lh with
    | none => rw [e] at h; cases h
    | some xs =>
      unfold seqD at e
      simp only at e
      split at e
      · rename_i ys el
        obtain ⟨vs, hv, _⟩ := hr.lst el
        exact .inl ⟨rfl, _, SqL.of hv⟩
      · cases e
  | _ => simp only [seqD] at h; cases h
theorem isStr_ok {K : PySem.W.Frag} {mg : Str → Option Value} {φ : Nat → Addr} {lh : LH} {H : Hp} {d : D} {v : V} (hr : HR K mg φ lh H) (r : RD K φ lh.length H d v) (h : isStr d lh = true) : tyV K "str" v H := by
  cases d with
  | str s => cases r; rfl
  | _ => cases h
/-- a built-in's method by its values -/
def MetM (X : Cx) (id : String) (f : MM) : Prop :=
  ∃ r : V → List V → Hp → VK → Prop, MtR X id r ∧ ∀ W σ φ lh H x xs v vs Q, HR X.K X.mg φ lh H → RD X.K φ lh.length H x v → RDs X.K φ lh.length H xs vs → wp X.K X.mg W σ (RD X.K) (f x xs lh) φ lh H Q → r v vs H Q
theorem qe_bm {T id : String} {name : Str} {f : MM} {ck : D → LH → Bool} (pa : PlainAttrs T) (slot : Slot T name id) (hty : typeOf (.builtin id) = pure (.type "method_descriptor")) (hm : MetM X id f)
    (hck : ∀ φ lh H d v, HR X.K X.mg φ lh H → RD X.K φ lh.length H d v → ck d lh = true → tyV X.K T v H) (ho : QE X W o mo) (ha : QA X W (e :: es) mas)
    (hbase : attributeBase o name X.env (eval o X.env) = eval o X.env := by rfl)
    (hfew : ((backTo cpos (starEach (e :: es) X.env)).all (fun x => !x.1) && (backToKw cpos (keywordEach [] X.env)).all (fun x => x.1.isSome)
      && decide ((e :: es).length + ([] : List Keyword).length + (if ([] : List Keyword).isEmpty then 0 else 1) < 30)) = true := by rfl)
    (hline : (apos.endLine == cpos.line) = true := by rfl) (hs : starEach (e :: es) X.env = (false, eval e X.env) :: starEach es X.env := by rfl) (hplain : (backTo cpos (starEach es X.env)).any (·.1) = false := by rfl) :
    QE X W (.Call (.Attribute o name apos) (e :: es) [] cpos) (mMet ck f mo mas) := by
  obtain ⟨r, h, k⟩ := hm
  refine qe_of (pe_bm pa slot hty h ho ha hbase hfew hline hs hplain) fun σ φ env lh H Q h1 h2 q => ?_
  refine rd_of h1 h2 (wp_step q fun x lh1 φ1 v H1 p1 r1 q1 => ?_)
  split at q1
  · rename_i c
    refine ⟨hck _ _ _ _ _ p1.hr r1 c, ?_⟩
    refine rd_of p1.hr (h2.up p1) (wp_step q1 fun xs lh2 φ2 vs H2 p2 r2 q2 => ?_)
    exact k W σ φ2 lh2 H2 x xs v vs Q p2.hr (r1.up p2) r2 q2
  · exact q1.elim
theorem mm_append : MetM X "list.append" dAppend := by
  refine ⟨_, mt_append, fun W σ φ lh H x xs v vs Q hr rx rs q => ?_⟩
  unfold dAppend at q
  split at q
  · rename_i i y
    obtain ⟨rfl, hi⟩ := rx.ref_inv
    obtain ⟨u, rfl, ru⟩ := rs.one
    split at q
    · rename_i ys e
      obtain ⟨ws, hw, rw'⟩ := hr.lst e
      split at q
      · rename_i c
        refine ⟨_, ws, u, rfl, rfl, hw, by rw [← rw'.len, sizeLine_eq]; exact c, ?_⟩
        have P : Po X.K X.mg φ lh H φ (lh.set i (.lst (ys ++ [y]))) (upd H (φ i) (.lst (ws ++ [u]))) := Po.put hr hi ⟨_, upd_same, (rw'.app (.cons ru .nil)).mono (Nat.le_refl _) (fun _ _ => rfl) (by
          obtain ⟨w, hw, w1, w2⟩ := hr.lt_some hi
          exact Ext.put hw w1 w2)⟩
        exact wp_ok q P .non
      · exact q.elim
    · exact q.elim
  · exact q.elim
theorem qe_append (ho : QE X W o mo) (ha : QE X W e ma) (hbase : attributeBase o "append" X.env (eval o X.env) = eval o X.env := by rfl)
    (hfew : ((backTo cpos (starEach (e :: []) X.env)).all (fun x => !x.1) && (backToKw cpos (keywordEach [] X.env)).all (fun x => x.1.isSome)
      && decide ((e :: []).length + ([] : List Keyword).length + (if ([] : List Keyword).isEmpty then 0 else 1) < 30)) = true := by rfl)
    (hline : (apos.endLine == cpos.line) = true := by rfl) (hs : starEach (e :: []) X.env = (false, eval e X.env) :: starEach [] X.env := by rfl) (hplain : (backTo cpos (starEach [] X.env)).any (·.1) = false := by rfl) :
    QE X W (.Call (.Attribute o "append" apos) [e] [] cpos) (mMet isLst dAppend mo (mCons ma mNil)) :=
  qe_bm PySem.F.plainAttrs_list PySem.F.slot_list_append PySem.F.type_list_append mm_append (fun _ _ _ _ _ => isLst_ok) ho (qa_cons ha qa_nil hs) hbase hfew hline hs hplain
theorem strsD_ok {K : PySem.W.Frag} {φ : Nat → Addr} {n : Nat} {H : Hp} : ∀ {ds : List D} {vs : List V} {ss : List (List Nat)}, RDs K φ n H ds vs → strsD ds = some ss → vs = (ss.map fun s => (⟨s.toArray⟩ : Str)).map V.str
  | [], _, ss, r, h => by
    cases r
    cases h
    rfl
  | d :: ds, vs, ss, r, h => by
    cases r with
    | cons r1 r2 =>
      cases d with
      | str s =>
        unfold strsD at h
        cases e : strsD ds with
        | none => rw [e] at h; cases h
        | some l =>
          rw [e] at h
          cases h
          cases r1
          rw [strsD_ok r2 e]
          rfl
      | _ => cases h
theorem tl_mk (s : List Nat) : TL.tl ⟨s.toArray⟩ = s := by
  show s.toArray.toList = s
  simp
theorem sum_len (ss : List (List Nat)) : ((ss.map fun s => (⟨s.toArray⟩ : Str)).map (·.length)).sum = (ss.map (·.length)).sum := by
  rw [List.map_map]
  congr 1
theorem mm_join : MetM X "str.join" dJoin := by
  refine ⟨_, mt_join, fun W σ φ lh H x xs v vs Q hr rx rs q => ?_⟩
  unfold dJoin at q
  split at q
  · rename_i a d
    cases rx
    obtain ⟨u, rfl, ru⟩ := rs.one
    split at q
    · rename_i ys e
      obtain ⟨p, ws, rfl, hq, r2⟩ := seqD_ok hr ru e
      split at q
      · rename_i ss es
        split at q
        · rename_i c
          have ew := strsD_ok r2 es
          subst ew
          refine ⟨_, p, ss.map fun s => (⟨s.toArray⟩ : Str), rfl, rfl, hq, ?_, ?_⟩
          · rw [sum_len, List.length_map, str_len]; exact c
          · have ej : Txt.join ⟨a.toArray⟩ (ss.map fun s => (⟨s.toArray⟩ : Str)) = ⟨(TL.joinL a ss).toArray⟩ := by
              refine TL.ext_tl ?_
              rw [TL.join_eq, TL.tl_join, tl_mk, tl_mk, List.map_map]
              congr 1
              conv => rhs; rw [← List.map_id ss]
              exact List.map_congr_left fun s _ => tl_mk s
            rw [ej]
            exact wp_ok q (.refl hr) (.str _)
        · exact q.elim
      · exact q.elim
    · exact q.elim
  · exact q.elim
theorem qe_join (ho : QE X W o mo) (he : QE X W e ma) (hs : starEach [e] X.env = [(false, eval e X.env)] := by rfl) (hbase : attributeBase o "join" X.env (eval o X.env) = eval o X.env := by rfl) (hline : (apos.endLine == cpos.line) = true := by rfl) :
    QE X W (.Call (.Attribute o "join" apos) [e] [] cpos) (mMet isStr dJoin mo (mCons ma mNil)) := by
  obtain ⟨r, h, k⟩ := mm_join (X := X)
  refine qe_of (pe_m1 PySem.F.slot_str_join PySem.F.type_str_join h ho he hs hbase hline) fun σ φ env lh H Q h1 h2 q => ?_
  refine rd_of h1 h2 (wp_step q fun x lh1 φ1 v H1 p1 r1 q1 => ?_)
  split at q1
  · rename_i c
    have hst : ∃ a, v = .str a := by
      cases x with
      | str s => cases r1; exact ⟨_, rfl⟩
      | _ => cases c
    refine ⟨hst, ?_⟩
    have q1' : wp X.K X.mg W σ (RD X.K) ((ma env lh1).bind fun y h2 => dJoin x [y] h2) φ1 lh1 H1 Q := by
      revert q1
      unfold mCons
      cases ma env lh1 with
      | ok y h2 => exact fun z => z
      | exc y h2 => exact fun z => z
      | bad => exact fun z => z
    refine rd_of p1.hr (h2.up p1) (wp_step q1' fun y lh2 φ2 w H2 p2 r2 q2 => ?_)
    exact k W σ φ2 lh2 H2 x [y] v [w] Q p2.hr (r1.up p2) (.cons r2 .nil) q2
  · exact q1.elim
theorem mm_split : MetM X "str.split" dSplit := by
  refine ⟨_, L2.mt_split, fun W σ φ lh H x xs v vs Q hr rx rs q => ?_⟩
  unfold dSplit at q
  split at q
  · rename_i a b
    cases rx
    obtain ⟨u, rfl, ru⟩ := rs.one
    cases ru
    split at q
    · rename_i c
      refine ⟨_, _, rfl, rfl, ?_, by rw [str_len]; exact sz_le c.2.2, fun p hp => ?_⟩
      · rw [str_len]
        cases b with
        | nil => exact absurd rfl c.1
        | cons y ys => rfl
      · have e : (Txt.split ⟨a.toArray⟩ ⟨b.toArray⟩).map V.str = ((TL.spl b 0 [] a).map fun s => V.str ⟨s.toArray⟩) := by
          have := TL.split_spl ⟨a.toArray⟩ ⟨b.toArray⟩ (by rw [tl_mk]; exact c.1) (TL.kind_ok (by
            show b.toArray.all _ = true
            simpa using c.2.1))
          rw [tl_mk, tl_mk] at this
          rw [← this, List.map_map]
          exact List.map_congr_left fun s _ => by
            show V.str s = V.str ⟨(TL.tl s).toArray⟩
            rw [TL.mk_tl]
        rw [e]
        refine wp_newL q hr hp ?_
        generalize TL.spl b 0 [] a = l
        induction l with
        | nil => exact .nil
        | cons y ys ih => exact .cons (.str y) ih
    · exact q.elim
  · exact q.elim
theorem qe_split (ho : QE X W o mo) (he : QE X W e ma) (hs : starEach [e] X.env = [(false, eval e X.env)] := by rfl) (hbase : attributeBase o "split" X.env (eval o X.env) = eval o X.env := by rfl) (hline : (apos.endLine == cpos.line) = true := by rfl) :
    QE X W (.Call (.Attribute o "split" apos) [e] [] cpos) (mMet isStr dSplit mo (mCons ma mNil)) := by
  obtain ⟨r, h, k⟩ := mm_split (X := X)
  refine qe_of (pe_m1 PySem.F.slot_str_split PySem.F.type_str_split h ho he hs hbase hline) fun σ φ env lh H Q h1 h2 q => ?_
  refine rd_of h1 h2 (wp_step q fun x lh1 φ1 v H1 p1 r1 q1 => ?_)
  split at q1
  · rename_i c
    have hst : ∃ a, v = .str a := by
      cases x with
      | str s => cases r1; exact ⟨_, rfl⟩
      | _ => cases c
    refine ⟨hst, ?_⟩
    have q1' : wp X.K X.mg W σ (RD X.K) ((ma env lh1).bind fun y h2 => dSplit x [y] h2) φ1 lh1 H1 Q := by
      revert q1
      unfold mCons
      cases ma env lh1 with
      | ok y h2 => exact fun z => z
      | exc y h2 => exact fun z => z
      | bad => exact fun z => z
    refine rd_of p1.hr (h2.up p1) (wp_step q1' fun y lh2 φ2 w H2 p2 r2 q2 => ?_)
    exact k W σ φ2 lh2 H2 x [y] v [w] Q p2.hr (r1.up p2) (.cons r2 .nil) q2
  · exact q1.elim
end
/-! ### xs[i] = e; a, b = e -/
def setL (o i v : D) (h : LH) : Option LH := match o, i with
  | .ref r, .int k => match h[r]? with
    | some (.lst xs) => match ixN xs.length k with
      | some j => some (h.set r (.lst (xs.set j v)))
      | none => none
    | _ => none
  | _, _ => none
def sSetL (o i : M D) (a : M D) : MS := fun e h => rsBind (a e h) e fun v h1 => rsBind (o e h1) e fun x h2 => rsBind (i e h2) e fun y h3 => match setL x y v h3 with
  | some h4 => .next e h4
  | none => .bad
def sTup (is : List Nat) (a : M D) : MS := fun e h => rsBind (a e h) e fun v h1 => match tnSet (.tp is) v e with
  | some e1 => .next e1 h1
  | none => .bad
section
variable {X : Cx} {W : WX} {o i e : Expr} {es : List Expr} {mo mi ma : M D} {pos pos2 : Pos}
theorem setL_ok {K : PySem.W.Frag} {mg : Str → Option Value} {φ : Nat → Addr} {lh lh' : LH} {H : Hp} {x y z : D} {a b c : V} {Q : Hp → Prop} (hr : HR K mg φ lh H) (rx : RD K φ lh.length H x a) (ry : RD K φ lh.length H y b) (rz : RD K φ lh.length H z c)
    (h : setL x y z lh = some lh') (q : ∀ H', Po K mg φ lh H φ lh' H' → Q H') : rSetL a b c H Q := by
  unfold setL at h
  split at h
  · rename_i r k
    obtain ⟨rfl, hi⟩ := rx.ref_inv
    cases ry
    split at h
    · rename_i xs ex
      obtain ⟨ws, hw, rw'⟩ := hr.lst ex
      split at h
      · rename_i j ej
        cases h
        refine ⟨_, ws, k, j, rfl, rfl, hw, by rw [← rw'.len]; exact ej, q _ ?_⟩
        exact Po.put hr hi ⟨_, upd_same, (rw'.set rz j).mono (Nat.le_refl _) (fun _ _ => rfl) (by
          obtain ⟨w, hw, w1, w2⟩ := hr.lt_some hi
          exact Ext.put hw w1 w2)⟩
      · cases h
    · cases h
  · cases h
theorem qs_setL (he : QE X W e ma) (ho : QE X W o mo) (hi : QE X W i mi)
    (ha : ∀ v, assign (.Subscript o i pos2) X.env v = (do
      let ov ← holding [v] (eval o X.env)
      let iv ← holding [v, ov] (eval i X.env)
      standAt pos2
      holding [v, ov, iv] (setItem ov iv v)
      release [v, ov, iv] []) := by intro _; rfl)
    (hs : swapsWithSole [.Subscript o i pos2] e pos.line X.env = pure false := by rfl) (hw : swappedStores [.Subscript o i pos2] e X.env = pure none := by rfl)
    (h1 : (assignEach [.Subscript o i pos2] X.env).map (·.2) = [assign (.Subscript o i pos2) X.env] := by rfl) : QS X W (.Assign [.Subscript o i pos2] e pos) (sSetL mo mi ma) := by
  refine psI (ps_asg he (pg_sub ho hi set_list ha) hs hw h1) fun D σ H ⟨φ, env, lh, g1, g2, q⟩ => ?_
  have q' : wps X.K X.mg W (sSetL mo mi ma env lh) φ lh H D := q
  refine rd_of g1 g2 (wps_step g2 q' fun v lh1 φ1 vv H1 p1 r1 q1 => ?_)
  refine rd_of p1.hr (g2.up p1) (wps_step (g2.up p1) q1 fun x lh2 φ2 vx H2 p2 r2 q2 => ?_)
  refine rd_of p2.hr ((g2.up p1).up p2) (wps_step ((g2.up p1).up p2) q2 fun y lh3 φ3 vy H3 p3 r3 q3 => ?_)
  split at q3
  · rename_i h4 e4
    exact setL_ok p3.hr (r2.up p3) r3 ((r1.up p2).up p3) e4 fun H' P => q3 φ3 σ H' P ((((g2.up p1).up p2).up p3).up P)
  · exact q3.elim
theorem qs_tup {k : Nat} {is : List Nat} (he : QE X W e ma) (hg : PG X (.Tuple es k pos2) (gN X.K (.tp is)))
    (hs : swapsWithSole [.Tuple es k pos2] e pos.line X.env = pure false := by rfl) (hw : swappedStores [.Tuple es k pos2] e X.env = pure none := by rfl)
    (h1 : (assignEach [.Tuple es k pos2] X.env).map (·.2) = [assign (.Tuple es k pos2) X.env] := by rfl) : QS X W (.Assign [.Tuple es k pos2] e pos) (sTup is ma) := by
  refine psI (ps_asg he hg hs hw h1) fun D σ H ⟨φ, env, lh, g1, g2, q⟩ => ?_
  have q' : wps X.K X.mg W (sTup is ma env lh) φ lh H D := q
  refine rd_of g1 g2 (wps_step g2 q' fun v lh1 φ1 vv H1 p1 r1 q1 => ?_)
  split at q1
  · rename_i e1 et
    exact gN_ok et (g2.up p1) r1 fun σ' _ r' => q1 φ1 σ' H1 (.refl p1.hr) r'
  · exact q1.elim
end
/-! ### truth of any value -/
def truD (d : D) (h : LH) : Option Bool := match d with
  | .non => some false
  | .bl b => some b
  | .int i => some (i != 0)
  | .str s => if s.length ≤ 16777216 then some ((s.length : Int) != 0) else none
  | .tup xs => some (!xs.isEmpty)
  | .scr xs => some (!xs.isEmpty)
  | .ref i => match h[i]? with
    | some (.lst xs) => some (!xs.isEmpty)
    | some (.dK xs) => some (!xs.isEmpty)
    | _ => none
  | .exn _ => none
  | .exr _ _ _ => none
def mTru (a : M D) : M Bool := fun e h => (a e h).bind fun d h1 => match truD d h1 with
  | some b => .ok b h1
  | none => .bad
section
variable {X : Cx} {W : WX} {e : Expr} {ma : M D}
theorem RDs.emp {K : PySem.W.Frag} {φ : Nat → Addr} {n : Nat} {H : Hp} {ds : List D} {vs : List V} (r : RDs K φ n H ds vs) : vs.isEmpty = ds.isEmpty := by
  cases r <;> rfl
theorem RKs.emp {K : PySem.W.Frag} {φ : Nat → Addr} {n : Nat} {H : Hp} {ds vs} (r : RKs K φ n H ds vs) : vs.isEmpty = ds.isEmpty := by
  cases r <;> rfl
theorem truD_ok {K : PySem.W.Frag} {mg : Str → Option Value} {φ : Nat → Addr} {lh : LH} {H : Hp} {d : D} {v : V} {b : Bool} (hr : HR K mg φ lh H) (r : RD K φ lh.length H d v) (h : truD d lh = some b) : TruV K v H b := by
  unfold truD at h
  split at h
  · cases h; cases r; rfl
  · cases h; cases r; rfl
  · cases h; cases r; rfl
  · cases r
    split at h
    · rename_i c
      cases h
      exact ⟨by rw [str_len]; exact sz_le c, by rw [str_len]⟩
    · cases h
  · cases h
    obtain ⟨a, vs, rfl, hq, rs⟩ := r.tup_inv
    exact .inr (.inl ⟨vs, hq, by rw [rs.emp]⟩)
  · cases h
    obtain ⟨a, rfl, hq⟩ := r.scr_inv
    exact .inl ⟨_, hq, by cases ‹List Int› <;> rfl⟩
  · obtain ⟨rfl, _⟩ := r.ref_inv
    split at h
    · rename_i xs e
      cases h
      obtain ⟨vs, hv, rs⟩ := hr.lst e
      exact .inl ⟨vs, SqL.of hv, by rw [rs.emp]⟩
    · rename_i xs e
      cases h
      obtain ⟨vs, hv, rs⟩ := hr.obj _ _ e
      exact .inr (.inr ⟨vs, hv, by rw [rs.emp]⟩)
    · cases h
  · cases h
  · cases h
theorem qt_tru (ha : QE X W e ma) (he : ∀ whole, isTrue e X.env whole = (do let v ← whole; standAt e.pos; holding [v] (truthy v)) := by intro _; rfl) : QT X W e (mTru ma) := by
  refine qt_of (pt_truth ha he) fun σ φ env lh H Q h1 h2 q => ?_
  refine rd_of h1 h2 (wp_step q fun x lh1 φ1 v H1 p1 r1 q1 => ?_)
  split at q1
  · rename_i b eb
    exact ⟨b, truD_ok p1.hr r1 eb, wp_ok q1 (.refl p1.hr) rfl⟩
  · exact q1.elim
end
end HM
set_option Elab.async false
set_option linter.all false
set_option maxRecDepth 100000
set_option maxHeartbeats 4000000
namespace HM
open PySem L2 PySem.Spec PyProof.Rows
/-- any sequence or text, walked -/
def iAny (a : M D) : M (IT × Nat) := fun e h => (a e h).bind fun d h1 => match d with
  | .tup xs => .ok (itL xs, xs.length) h1
  | .scr ns => .ok (itL (ns.map D.int), ns.length) h1
  | .str s => .ok (itL (s.map fun c => D.str [c]), s.length) h1
  | .ref i => match h1[i]? with
    | some (.lst xs) => .ok (itO i, xs.length) h1
    | _ => .bad
  | _ => .bad
section
variable {X : Cx} {W : WX} {tg l : Expr} {ma : M D}
theorem itok_str {K : PySem.W.Frag} {mg : Str → Option Value} {φ : Nat → Addr} {n : Nat} {H : Hp} (s : List Nat) : ItOk K mg φ n H (itL (s.map fun c => D.str [c]), s.length) (Its ⟨s.toArray⟩) := by
  refine ⟨fun φ' lh' H' hn ag ex hr j hj => ?_, fun φ' lh' H' hn ag ex hr j d hj => ?_⟩
  · have := List.getElem?_eq_none_iff.mp (Option.some.inj hj)
    show s.toArray.size ≤ j
    simpa using this
  · obtain ⟨c, ec, rfl⟩ := RDs.chars (K := K) (φ := φ) (n := 0) (H := H) (Option.some.inj hj)
    have hlt : j < s.toArray.size := by
      have := lt_of_get ec
      simpa using this
    refine ⟨hlt, fun x H'' ⟨e1, c', e2, e3⟩ => ⟨e1, ?_⟩⟩
    have : s[j]? = some c' := by simpa using e2
    rw [ec] at this
    cases this
    subst e3
    exact .str [c]
theorem qi_any (hl : QE X W l ma) : QI X W tg l (iAny ma) := by
  refine ⟨fun pins s σ H R I ⟨φ, env, lh, h1, h2, q⟩ => ?_⟩
  refine thn (hl.run pins s σ H (fun v H1 => (∃ a, v = .ref a ∧ (∃ xs, SqL X.K H1 a xs) ∧ R (Itl X.K a) H1) ∨ (∃ a, v = .ref a ∧ (∃ xs, SqT X.K H1 a xs) ∧ R (Itt X.K a) H1) ∨ (∃ x, v = .str x ∧ R (Its x) H1)) I
    (rd_of h1 h2 (wp_step q fun d lh1 φ1 v H1 p1 r1 q1 => ?_))) fun v s1 ⟨x, H1, I1, r1, q1⟩ => ?_
  · cases d with
    | scr ns =>
      cases r1 with
      | scr hs => exact .inl ⟨_, rfl, ⟨_, scrL_ext (Ext.refl _) hs⟩, wp_ok q1 (.refl p1.hr) (itok_scr hs)⟩
    | ref i =>
      obtain ⟨e1, hi⟩ := r1.ref_inv
      cases el : lh1[i]? with
      | none => simp only [el] at q1; exact q1.elim
      | some o =>
        cases o with
        | lst xs =>
          simp only [el] at q1
          obtain ⟨vs, hv, r⟩ := p1.hr.lst el
          exact .inl ⟨_, e1, ⟨_, SqL.of hv⟩, wp_ok q1 (.refl p1.hr) (itok_obj hi)⟩
        | _ => simp only [el] at q1; exact q1.elim
    | tup xs =>
      obtain ⟨a, vs, e1, hq, r⟩ := r1.tup_inv
      exact .inr (.inl ⟨_, e1, ⟨_, hq⟩, wp_ok q1 (.refl p1.hr) (itok_tup hq r)⟩)
    | str s =>
      exact .inr (.inr ⟨_, r1.str_inv, wp_ok q1 (.refl p1.hr) (itok_str s)⟩)
    | _ => exact q1.elim
  · rcases q1 with ⟨a, e, ⟨xs, hq⟩, q1⟩ | ⟨a, e, ⟨xs, hq⟩, q1⟩ | ⟨y, e, q1⟩
    · subst e
      cases r1
      obtain ⟨its, rv, p, hz⟩ := I1.list hq
      refine wpAny_pyIter_list p.isList ?_
      refine ⟨s1.heap.objs.size, [s1.heap.objs.size], _, _, H1, rfl, I1.kept (t' := s1.toks) fun b o e => Heap.get?_push_of_some _ e, turn_list a _, ⟨_, Heap.get?_push_size _ rfl, rfl, rfl⟩, fun b hb => ?_, q1⟩
      have e : b = s1.heap.objs.size := by simpa using hb
      subst e
      exact I1.fpOk (Nat.le_refl _) (I1.hok.fresh (Nat.le_refl _))
    · subst e
      cases r1
      obtain ⟨its, rv, p, hz⟩ := I1.tuple hq
      refine wpAny_pyIter_tuple (show s1.heap.IsTuple a its.toArray from p) ?_
      refine ⟨s1.heap.objs.size, [s1.heap.objs.size], _, _, H1, rfl, I1.kept (t' := s1.toks) fun b o e => Heap.get?_push_of_some _ e, turn_tuple a _, ⟨_, Heap.get?_push_size _ rfl, rfl, rfl⟩, fun b hb => ?_, q1⟩
      have e : b = s1.heap.objs.size := by simpa using hb
      subst e
      exact I1.fpOk (Nat.le_refl _) (I1.hok.fresh (Nat.le_refl _))
    · subst e
      obtain ⟨t, rfl⟩ := r1
      cases ha : y.cps.all (· < 128)
      · exact wpAny_pyIter_wide ha (pi_one (tk := s1.toks) I1 _ (turn_str _ y t "str_iterator" (.inr rfl)) ⟨_, Heap.get?_push_size _ rfl, rfl, rfl⟩ q1)
      · exact wpAny_pyIter_ascii ha (pi_one (tk := s1.toks) I1 _ (turn_str _ y t "str_ascii_iterator" (.inl rfl)) ⟨_, Heap.get?_push_size _ rfl, rfl, rfl⟩ q1)
end
/-! ### name op= e -/
def sAug (f : D → D → LH → Res D) (i : Nat) (a : M D) : MS := fun e h => match e[i]? with
  | some (some x) => rsBind (a e h) e fun y h1 => rsBind (f x y h1) e fun z h2 => .next (e.set i (some z)) h2
  | _ => .bad
section
variable {X : Cx} {W : WX} {e : Expr} {ma : M D} {pos pos' : Pos}
def IpM (X : Cx) (op : Operator) (f : D → D → LH → Res D) : Prop :=
  ∃ r : TIp, PIp X op r ∧ ∀ W σ φ lh H x y v w Q, HR X.K X.mg φ lh H → RD X.K φ lh.length H x v → RD X.K φ lh.length H y w → wp X.K X.mg W σ (RD X.K) (f x y lh) φ lh H Q → r v w H Q
def dIAdd (x y : D) (h : LH) : Res D := match x, y with
  | .int a, .int b => .ok (.int (a + b)) h
  | _, _ => .bad
theorem ipm_add : IpM X .Add dIAdd := by
  refine ⟨_, ip_add, fun W σ φ lh H x y v w Q hr rx ry q => ?_⟩
  unfold dIAdd at q
  split at q
  · cases rx; cases ry
    exact ⟨_, _, rfl, rfl, wp_ok q (.refl hr) (.int _)⟩
  · exact q.elim
theorem qs_aug {i : Nat} {x : Str} {op : Operator} {f : D → D → LH → Res D} (ho : IpM X op f) (he : QE X W e ma) (hN : X.N.Nodup) (hi : X.N[i]? = some x) (hx : Loc X.env.scope x) (hf : X.fn x = true ∨ X.env.scope.names.lookup x = some .local := by first | exact .inl rfl | exact .inr rfl | assumption) :
    QS X W (.AugAssign (.Name x pos') op e pos) (sAug f i ma) := by
  obtain ⟨r, h, k⟩ := ho
  refine psI (ps_aug hN hi hx he h hf) fun D σ H ⟨φ, env, lh, h1, h2, q⟩ => ?_
  have q' : wps X.K X.mg W (sAug f i ma env lh) φ lh H D := q
  unfold sAug at q'
  split at q'
  · rename_i d ed
    obtain ⟨v, ev, rv⟩ := h2.at' i d ed
    refine ⟨v, ev, rd_of h1 h2 (wps_step h2 q' fun y lh1 φ1 w H1 p1 r1 q1 => ?_)⟩
    refine k W σ φ1 lh1 H1 d y v w _ p1.hr (rv.up p1) r1 (wps_step (h2.up p1) q1 fun z lh2 φ2 u H2 p2 r2 q2 => ?_)
    exact q2 φ2 _ H2 (.refl p2.hr) (((h2.up p1).up p2).set r2 i)
  · exact q'.elim
end
/-! ### the end -/
/-- what a law's mirror must answer -/
def LawOk (f : MF) : Prop := ∀ ns : List Int, ns.length ≤ 63 → (∀ z ∈ ns, Builtin.Int.intBits z ≤ 1048576) → ∃ h, f [.scr ns] [] = .ok (.bl true) h
theorem law_end {K : PySem.W.Frag} {mg : Str → Option Value} {f : MF} (L : LawOk f) {H : Hp} {a : Addr} {ns : List Int} (hn : ns.length ≤ 63) (hb : ∀ z ∈ ns, Builtin.Int.intBits z ≤ 1048576) (hO : Only H) (hS : SqL K H a (ns.map V.int)) :
    spM K mg f [.ref a] H (fun v _ => v = .bl true) fun _ _ _ => False := by
  obtain ⟨h, e⟩ := L ns hn hb
  have hs : RD K (fun _ => 0) 0 H (.scr ns) (.ref a) := by
    rcases hS with (hS | ⟨o, hS⟩) | hS
    · rcases hO a with h | ⟨o, xs, h⟩
      · rw [h] at hS; cases hS
      · rw [h] at hS; cases hS
    · exact .scr (.inl ⟨o, hS⟩)
    · exact .scr (.inr hS)
  refine ⟨fun _ => 0, [], [.scr ns], ⟨fun i j hi => absurd hi (Nat.not_lt_zero _), fun i o hi => by simp at hi⟩, .cons hs .nil, ?_⟩
  rw [e]
  intro φ' v H' p r
  cases r
  rfl
end HM
set_option Elab.async false
set_option linter.all false
set_option maxRecDepth 100000
set_option maxHeartbeats 4000000
namespace HM
open PySem L2 PySem.Spec PyProof.Rows
theorem cx_false {P : Program} {w : World} {H : Hp} {s : Shared} {e : Value} {s' : Shared} (h : L2.CX P w [] H s (fun _ _ _ => False) e s') : False := by
  obtain ⟨_, _, _, _, _, _, _, _, _, _, _, _, z⟩ := h
  exact z
theorem walk_M {l : PySem.W.OpenLaw} {k : Nat} {q : Program} {loose : List Str} {XP : (Str → Option Value) → Heap → Prop} {YP : World → Heap → Prop} {d : DefRec} {K : Params → PySem.W.Frag} {f : MF} {x : Str} (L : LawOk f) (hn : l.most = some 63) (hdf : d.params.defaults = []) (hr : Room k callerA)
    (hY : ∀ (w : World) (h : Heap), YP w h → (K w.params).In h)
    (F : ∀ (w : World) (mg : Str → Option Value) (fa : Addr) (h : Heap), (K w.params).In h → h.Ns mainGlobals mg → mg d.name = some (.ref fa) →
      ∃ fd : FuncData, (∀ (s : Shared) (u : Value), BindsTo s fd ⟨[u], []⟩ [(x, u)]) ∧ ∀ base : Heap, (K w.params).In base → base.Ns mainGlobals mg → FnOk l.prog w (K w.params) mg base (L2.CX l.prog w) k fa fd [x] (spM (K w.params) mg f)) :
    PySem.W.WalkO q loose XP YP l.row.toRowW d [] (fun f vs => PySem.call f vs) := by
  refine Att.attach_callB hn hdf fun w s₀ s₁ mg mb fa o pm cd doc a vs ns G Y ho hd hcd hmg hobj hints hlen hbits hg => ?_
  have KX := hY w _ Y
  obtain ⟨fd, hb, hF⟩ := F w mg fa _ KX G.T.g hmg
  exact law_call KX G.T.g G.T.b G.T.builtins G.T.nolimit hg hobj hints (Nat.le_trans hlen (by decide)) hr hF hb (fun H hO hS => law_end L hlen hbits hO hS) fun H e s' h => cx_false h
end HM
set_option Elab.async false
set_option linter.all false
set_option maxRecDepth 100000
set_option maxHeartbeats 4000000
namespace HM
open PySem L2 PySem.Spec PyProof.Rows
open PySem.Builtin PySem.Builtin.Str PySem.Builtin.Int PySem.Builtin.Float
def fx : FormatSpec := { fill := 48, align := 61, sign := none, noNeg0 := false, alt := false, width := some 18, grouping := none, precision := none, type := some 120 }
theorem hp_x : parseFormatSpec (Str.ofString "018x").cps.toList "int" 62 = .ok fx := by rfl
/-- the text of a number by 018x -/
def hexText (a : Int) : Str := intField' fx (decide (a < 0)) [] ((Nat.toDigits 16 a.natAbs).map fun c => (if (120 : Nat) == 88 then c.toUpper else c).toNat) [] 4
theorem hexText_len {a : Int} (h : a.natAbs < 2 ^ 200) : (hexText a).length ≤ sizeLine := by
  have hd : (((Nat.toDigits 16 a.natAbs).map fun c => (if (120 : Nat) == 88 then c.toUpper else c).toNat).isEmpty) = false := by
    cases e : Nat.toDigits 16 a.natAbs with
    | nil =>
      have := tDigits_len_ge 16 a.natAbs
      rw [e] at this
      simp at this
    | cons x l => rfl
  have hl : (Nat.toDigits 16 a.natAbs).length ≤ 200 := by
    have := (Nat.length_toDigits_le_iff (n := a.natAbs) (b := 16) (k := 200) (by decide) (by decide)).mpr (Nat.lt_of_lt_of_le h (Nat.pow_le_pow_left (by decide) _))
    exact this
  unfold hexText
  rw [intField'_length_plain fx _ _ 4 rfl rfl hd, List.length_map, sizeLine_eq]
  show max 18 _ ≤ _
  split <;> omega
section
variable {prog : Program} {w : World} {A : Around} {E : Value → Shared → Prop} {s : Shared}
theorem formatField_hex {a : Int} {t : Tok} {Q : Value → Shared → Prop} (ha : a.natAbs < 2 ^ 200) (h : ∀ tk t', Q (.str (hexText a) t') { s with toks := tk }) :
    wpAny (model prog w) A (formatField (.int a t) (Str.ofString "018x")) Q E s := by
  have hlen := hexText_len ha
  have hne : ((Str.ofString "018x").length == 0) = false := by decide +kernel
  have hasc : (((Str.ofString "018x").cps.toList.drop 1).any (· ≥ 128) || ((Str.ofString "018x").cps.getD 0 0 ≥ 128 && !([60, 62, 61, 94] : List Nat).contains ((Str.ofString "018x").cps.getD 1 0))) = false := by decide +kernel
  show wpAny _ _ (holding [.int a t] (pyFormat (.int a t) (Str.ofString "018x"))) Q E s
  refine wpAny_holding ?_
  unfold pyFormat
  refine wpAny_bind (wpAny_mkStr ?_ (by decide +kernel))
  refine wpAny_bind (m := callSpecial? (.int a t) (Str.ofString "__format__") [.str (Str.ofString "018x") s.toks]) (wpAny_callSpecial?_slot (name := Str.ofString "__format__") (typeIs_int _ a t) PyProof.Rows.slot_int_format ?_)
  refine wpAny_call (codeAny_call_builtin PyProof.Rows.slot_int_format.plain PyProof.Rows.entry_int_format (PyProof.Rows.slot_int_format.check _ _ _ _ _ _ _ _ (typeIs_int _ a t) (args_int_format _ _) ?_))
  unfold Builtin.«int.__format__»
  simp only [selfAndOne, noKeywords, Int.intOfSelf, asInt?, asStr?, List.isEmpty_nil, if_true, pure_bind, bind_pure, bind_assoc, hne, hasc, Bool.false_eq_true, if_false,
    show (Value.str (Str.ofString "018x") s.toks == Value.none) = false from rfl]
  refine wpAny_bind (wpAny_typeNameOf (T := "str") (typeIs_str _ _ _) (by decide) fun _ => ?_)
  first | refine wpAny_bind (wpAny_typeNameOfCut_int ?_) | refine wpAny_bind (wpAny_typeNameOf_int ?_)
  have hty : fx.type.getD (if ((Str.ofString "018x").cps.back? == some 0) = true then 0 else 100) = 120 := rfl
  simp only [hp_x, hty]
  apply PySem.wpAny_ite
  refine PySem.W.KPc.ite_yes (by decide) ?_
  show wpAny _ _ (retStr (hexText a)) _ _ _
  unfold retStr
  refine wpAny_bind (wpAny_mkStr (wpAny_pure ?_) hlen)
  dsimp only
  exact wpAny_bind (wpAny_isInstance (typeIs_str _ _ _) isSubtype_str_str (wpAny_pure (h _ _)))
end
def dHex : D → LH → Res D := fun d h => match d with
  | .int i => if i.natAbs < 2 ^ 200 then .ok (.str (hexText i).cps.toList) h else .bad
  | _ => .bad
section
variable {X : Cx} {W : WX} {e : Expr} {ma : M D}
/-- f"{e:018x}" -/
theorem qe_hex {k : Nat} {p1 p2 p3 p4 : Pos} (he : QE X W e ma) : QE X W (.JoinedStr [.FormattedValue e (-1) (some (.JoinedStr [.Constant (.str (Str.ofString "018x")) k p1] p2)) p3] p4) (mUn dHex ma) := by
  have pf : PE X (.FormattedValue e (-1) (some (.JoinedStr [.Constant (.str (Str.ofString "018x")) k p1] p2)) p3) (fun σ H Q => rdE X.K X.mg W ma σ H fun x H1 => ∃ i : Int, x = .int i ∧ i.natAbs < 2 ^ 200 ∧ Q (.str (hexText i)) H1) := by
    refine ⟨fun pins s σ H Q I h => ?_⟩
    refine wpAny_FormattedValue_spec (thn (he.run pins s σ H _ I h) fun v s1 ⟨x, H1, I1, r1, i, hx, hi, q⟩ => ?_)
    subst hx
    obtain ⟨t, rfl⟩ := r1
    refine (pe_joined1 (pe_str (X := X))).run pins s1 σ H1 (fun x H2 => x = .str (Str.ofString "018x") ∧ H2 = H1) I1 ⟨rfl, rfl⟩ |> fun z => thn z fun r s2 ⟨y, H2, I2, r2, e1, e2⟩ => ?_
    subst e1
    subst e2
    obtain ⟨t2, rfl⟩ := r2
    exact ⟨_, t2, rfl, formatField_hex hi fun tk t' => ⟨.str (hexText i), H2, I2.tok _, ⟨_, rfl⟩, q⟩⟩
  refine qe_of (pe_joined1 pf) fun σ φ env lh H Q h1 h2 q => ?_
  refine rd_of h1 h2 (wp_step q fun x lh1 φ1 v H1 p1 r1 q1 => ?_)
  cases x with
  | int i =>
    cases r1
    unfold dHex at q1
    simp only at q1
    split at q1
    · rename_i c
      exact ⟨i, rfl, c, wp_ok q1 (.refl p1.hr) (rd_str _)⟩
    · exact q1.elim
  | _ => exact q1.elim
end
end HM
set_option Elab.async false
set_option linter.all false
set_option maxRecDepth 100000
set_option maxHeartbeats 4000000
namespace HM
open PySem L2 PySem.Spec PyProof.Rows
/-! ### s.index(c), list(range(..)), x[::-1] -/
def dSIndex : MM := fun x xs h => match x, xs with
  | .str z, [.str [c]] => if c ∈ z then .ok (.int (z.idxOf c)) h else .bad
  | _, _ => .bad
theorem RDs.append' {K : PySem.W.Frag} {φ : Nat → Addr} {n : Nat} {H : Hp} : ∀ {ds es : List D} {vs us : List V}, RDs K φ n H ds vs → RDs K φ n H es us → RDs K φ n H (ds ++ es) (vs ++ us)
  | [], _, _, _, r, r2 => by cases r; exact r2
  | _ :: _, _, _, _, r, r2 => by
    cases r with
    | cons a r => exact .cons a (r.append' r2)
theorem RDs.rev {K : PySem.W.Frag} {φ : Nat → Addr} {n : Nat} {H : Hp} : ∀ {ds : List D} {vs : List V}, RDs K φ n H ds vs → RDs K φ n H ds.reverse vs.reverse
  | [], _, r => by cases r; exact .nil
  | _ :: _, _, r => by
    cases r with
    | cons a r => rw [List.reverse_cons, List.reverse_cons]; exact r.rev.append' (.cons a .nil)
theorem idx_first {z : List Nat} {c i : Nat} (h : z[i]? = some c) (hn : ∀ k, k < i → z[k]? ≠ some c) : z.idxOf c = i := by
  induction z generalizing i with
  | nil => simp at h
  | cons a l ih =>
    cases i with
    | zero =>
      simp only [List.getElem?_cons_zero, Option.some.injEq] at h
      subst h
      simp
    | succ i =>
      have h0 : a ≠ c := by
        have := hn 0 (Nat.succ_pos _)
        simpa using this
      have e := ih (i := i) (by simpa using h) fun k hk => by
        have := hn (k + 1) (by omega)
        simpa using this
      simp [List.idxOf_cons, e, show (a == c) = false from by simpa using h0]
section
variable {X : Cx} {W : WX} {o e : Expr} {ma mo : M D} {apos cpos : Pos}
theorem mm_sindex : MetM X "str.index" dSIndex := by
  refine ⟨_, mt_sindex, fun W σ φ lh H x xs v vs Q hr rx rs q => ?_⟩
  unfold dSIndex at q
  split at q
  · rename_i z c
    cases rx
    obtain ⟨u, rfl, ru⟩ := rs.one
    cases ru
    split at q
    · rename_i hc
      have key := StrLaws.occ_head (⟨z.toArray⟩ : Str) ⟨#[c]⟩ 1 (Nat.le_refl _)
      have at1 : ∀ i, StrLaws.At (⟨z.toArray⟩ : Str) ⟨#[c]⟩ (⟨z.toArray⟩ : Str).length i ↔ z[i]? = some c := fun i => by
        have := StrLaws.subAt_one (⟨z.toArray⟩ : Str) c i
        rw [show (⟨z.toArray⟩ : Str).cps.toList = z from by simp] at this
        exact this
      rcases key with ⟨h0, hno⟩ | ⟨i, r, h0, ha, hno⟩
      · obtain ⟨i, hi⟩ := List.mem_iff_getElem?.mp hc
        exact absurd ((at1 i).mpr hi) (hno i)
      · refine ⟨_, _, i, r, rfl, rfl, h0, ?_⟩
        rw [idx_first ((at1 i).mp ha) fun k hk z => hno k hk ((at1 k).mpr z)] at q
        exact wp_ok q (.refl hr) (.int _)
    · exact q.elim
  · exact q.elim
theorem qe_m1 {id : String} {name : Str} {f : MM} (slot : Slot "str" name id) (ty : typeOf (.builtin id) = pure (.type "method_descriptor")) (hm : MetM X id f) (ho : QE X W o mo) (he : QE X W e ma) (hs : starEach [e] X.env = [(false, eval e X.env)] := by rfl)
    (hbase : attributeBase o name X.env (eval o X.env) = eval o X.env := by rfl) (hline : (apos.endLine == cpos.line) = true := by rfl) :
    QE X W (.Call (.Attribute o name apos) [e] [] cpos) (mMet isStr f mo (mCons ma mNil)) := by
  obtain ⟨r, h, k⟩ := hm
  refine qe_of (pe_m1 slot ty h ho he hs hbase hline) fun σ φ env lh H Q h1 h2 q => ?_
  refine rd_of h1 h2 (wp_step q fun x lh1 φ1 v H1 p1 r1 q1 => ?_)
  split at q1
  · rename_i c
    have hst : ∃ a, v = .str a := by
      cases x with
      | str s => cases r1; exact ⟨_, rfl⟩
      | _ => cases c
    refine ⟨hst, ?_⟩
    have q1' : wp X.K X.mg W σ (RD X.K) ((ma env lh1).bind fun y h2 => f x [y] h2) φ1 lh1 H1 Q := by
      revert q1
      unfold mCons
      cases ma env lh1 with
      | ok y h2 => exact fun z => z
      | exc y h2 => exact fun z => z
      | bad => exact fun z => z
    refine rd_of p1.hr (h2.up p1) (wp_step q1' fun y lh2 φ2 w H2 p2 r2 q2 => ?_)
    exact k W σ φ2 lh2 H2 x [y] v [w] Q p2.hr (r1.up p2) (.cons r2 .nil) q2
  · exact q1.elim
theorem qe_sindex (ho : QE X W o mo) (he : QE X W e ma) (hs : starEach [e] X.env = [(false, eval e X.env)] := by rfl) (hbase : attributeBase o "index" X.env (eval o X.env) = eval o X.env := by rfl) (hline : (apos.endLine == cpos.line) = true := by rfl) :
    QE X W (.Call (.Attribute o "index" apos) [e] [] cpos) (mMet isStr dSIndex mo (mCons ma mNil)) := qe_m1 PySem.F.slot_str_index PySem.F.type_str_index mm_sindex ho he hs hbase hline
/-- list(range(a, b)) -/
def rgD (a b : Int) : List D := (List.range (b - a).toNat).map fun i => D.int (a + (i : Nat))
def mLRg (a b : M D) : M D := fun e h => (a e h).bind fun x h1 => (b e h1).bind fun y h2 => match x, y with
  | .int i, .int j => if -(2 ^ 62) ≤ i ∧ i < 2 ^ 62 ∧ -(2 ^ 62) ≤ j ∧ j < 2 ^ 62 ∧ (j - i).toNat ≤ 2 ^ 24 then .ok (.ref h2.length) (h2 ++ [.lst (rgD i j)]) else .bad
  | _, _ => .bad
theorem rgD_rel {K : PySem.W.Frag} {φ : Nat → Addr} {n : Nat} {H : Hp} (a b : Int) : RDs K φ n H (rgD a b) (rgV a b) := by
  unfold rgD rgV
  generalize List.range (b - a).toNat = l
  induction l with
  | nil => exact .nil
  | cons x l ih => exact .cons (.int _) ih
theorem qe_listRg {a b : Expr} {mb : M D} {p p2 pos pos2 : Pos} (hc : X.calm = true) (hg : Gl X "list") (hm : X.mg "list" = none) (hg2 : Gl X "range") (hm2 : X.mg "range" = none) (ha : QE X W a ma) (hb : QE X W b mb)
    (na : starEach [.Call (.Name "range" p2) [a, b] [] pos2] X.env = (false, eval (.Call (.Name "range" p2) [a, b] [] pos2) X.env) :: starEach [] X.env := by rfl)
    (nb : starEach [a, b] X.env = (false, eval a X.env) :: starEach [b] X.env := by rfl) (nc : starEach [b] X.env = (false, eval b X.env) :: starEach [] X.env := by rfl) (hp : (backTo pos2 (starEach [b] X.env)).any (·.1) = false := by rfl) :
    QE X W (.Call (.Name "list" p) [.Call (.Name "range" p2) [a, b] [] pos2] [] pos) (mLRg ma mb) := by
  refine qe_of (pe_listRg hc hg hm (prg_2 hg2 hm2 ha hb nb nc hp) na) fun σ φ env lh H Q h1 h2 q => ?_
  refine rd_of h1 h2 (wp_step q fun x lh1 φ1 v H1 p1 r1 q1 => ?_)
  refine rd_of p1.hr (h2.up p1) (wp_step q1 fun y lh2 φ2 w H2 p2 r2 q2 => ?_)
  have r1' := r1.up p2
  split at q2
  · cases r1'
    cases r2
    split at q2
    · rename_i i j c
      exact ⟨i, j, rfl, rfl, c, fun z hz => wp_newL q2 p2.hr hz (rgD_rel i j)⟩
    · exact q2.elim
  · exact q2.elim
/-- x[::-1] of a text or a list -/
def dRev (d : D) (h : LH) : Res D := match d with
  | .str s => if s.length ≤ 16777216 then .ok (.str s.reverse) h else .bad
  | .tup _ => .bad
  | d => match seqD d h with
    | some xs => .ok (.ref h.length) (h ++ [.lst xs.reverse])
    | none => .bad
def tRev (K : PySem.W.Frag) (te : TE) : TE := fun σ H Q => te σ H fun x H1 => (∃ a xs, x = .ref a ∧ SqL K H1 a xs ∧ ∀ p, H1 p = none → Q (.ref p) (upd H1 p (.lst xs.reverse))) ∨ (∃ z : PySem.Str, x = .str z ∧ z.length ≤ sizeLine ∧ Q (.str ⟨z.cps.toList.reverse.toArray⟩) H1)
theorem rev_ids (n : Nat) : Builtin.Str.strSliceIndices none none (-1) n = (List.range n).reverse := by
  have : Builtin.Str.strSliceIndices none none (-1) n = sliceRange ((n : Int) - 1) (-1) (-1) := by
    first
    | rfl
    | simp [Builtin.Str.strSliceIndices]
  rw [this, PySem.W.krv_sliceRange, PySem.W.krv_range]
theorem rev_pick (z : PySem.Str) : ((Builtin.Str.strSliceIndices none none (-1) z.length).filterMap (z.cps[·]?)).toArray = z.cps.toList.reverse.toArray := by
  rw [rev_ids]
  show ((List.range z.cps.size).reverse.filterMap (z.cps[·]?)).toArray = _
  rw [List.filterMap_reverse, PySem.W.krv_all]
theorem pe_rev {e : Expr} {te : TE} {k : Nat} {p1 p2 p3 pos : Pos} (he : PE X e te) : PE X (.Subscript e (.Slice none none (some (.UnaryOp .USub (.Constant (.int 1) k p1) p2)) p3) pos) (tRev X.K te) := by
  refine ⟨fun pins s σ H Q I h => ?_⟩
  refine Subscript_ (thn (he.run pins s σ H _ I h) fun v s1 ⟨x, H1, I1, r1, q1⟩ => ?_)
  have hst : PO X (some (.UnaryOp .USub (.Constant (.int 1) k p1) p2)) (tPart (tUn (rU fun i => .int (-i)) (tC (.int 1)))) := po_some (pe_un un_neg pe_int)
  refine wpAny_Slice (thn (po_none.run pins s1 σ H1 (fun o H2 => o = none ∧ H2 = H1) I1 ⟨rfl, rfl⟩) fun vl s2 ⟨l, H2, I2, pl, el, e2⟩ => ?_)
  subst el e2
  refine thn (po_none.run pins s2 σ H2 (fun o H3 => o = none ∧ H3 = H2) I2 ⟨rfl, rfl⟩) fun vu s3 ⟨u, H3, I3, pu, eu, e3⟩ => ?_
  subst eu e3
  refine thn (hst.run pins s3 σ H3 (fun o H4 => o = some (-1) ∧ H4 = H3) I3 ⟨1, rfl, -1, rfl, rfl, rfl⟩) fun vs s4 ⟨o, H4, I4, ps, eo, e4⟩ => ?_
  subst eo e4
  have I5 : Inv X pins σ H4 { s4 with heap := s4.heap.push { cls := .type "slice", data := .fields #[vl, vu, vs] } } := I4.kept (t' := s4.toks) fun b ob q => Heap.get?_push_of_some _ q
  rcases q1 with ⟨a, xs, ex, hx, q⟩ | ⟨z, ex, hz, q⟩
  · subst ex
    cases r1
    obtain ⟨its, r, ht, hz⟩ := I5.list hx
    have hlen := r.length
    show wpAny (model X.prog X.w) X.A (subscriptTail e (.Slice none none (some (.UnaryOp .USub (.Constant (.int 1) k p1) p2)) p3) (.ref a) (.ref s4.heap.objs.size)) (EP X pins σ Q) X.xe { s4 with heap := s4.heap.push { cls := .type "slice", data := .fields #[vl, vu, vs] } }
    refine tail_any (ops := [.ref a, .ref s4.heap.objs.size]) ht.isList.typeIs (PySem.slot_list_getitem.lookup) ?_ (by with_unfolding_all rfl)
    refine wpAny_getItem_list_slice ht.isList (Heap.IsSliceOf.new _ vl vu vs) pl pu ps (by decide) ?_ (by rw [List.size_toArray]; omega)
    rw [PySem.W.krv_pick]
    refine ⟨.ref _, _, I5.laid (t' := s4.toks) (o := .lst xs.reverse) (fun b ob q => Heap.get?_push_of_some _ q) (Nat.le_refl _) ?_, rfl, q _ (I5.hok.fresh (Nat.le_refl _))⟩
    exact ⟨by rw [List.length_reverse]; exact hz, _, 0, r.reverse, Heap.get?_push_size _ rfl⟩
  · subst ex
    obtain ⟨t, rfl⟩ := r1
    obtain ⟨l, rfl, el⟩ := IsPart.raw pl
    obtain ⟨u, rfl, eu⟩ := IsPart.raw pu
    obtain ⟨w, rfl, ew⟩ := IsPart.raw ps
    cases l with
    | some p => cases el
    | none =>
    cases u with
    | some p => cases eu
    | none =>
    cases w with
    | none => cases ew
    | some p =>
    obtain ⟨k', uk⟩ := p
    have ek : k' = -1 := by injection ew
    subst ek
    show wpAny (model X.prog X.w) X.A (subscriptTail e (.Slice none none (some (.UnaryOp .USub (.Constant (.int 1) k p1) p2)) p3) (.str z t) (.ref s4.heap.objs.size)) (EP X pins σ Q) X.xe _
    refine tail_any (ops := [.str z t, .ref s4.heap.objs.size]) (typeIs_str _ _ _) (F.slot_str_getitem.lookup) ?_ (by with_unfolding_all rfl)
    refine wpAny_getItem_str_slice (l := none) (u := none) (st := some (-1, uk)) ⟨_, Heap.get?_push_size _ rfl, rfl, rfl⟩ rfl ?_
    have em : sliceMade z t none none (some (-1, uk)) = Made.str ⟨z.cps.toList.reverse.toArray⟩ := by
      show Made.str ⟨((Builtin.Str.strSliceIndices none none (-1) z.length).filterMap (z.cps[·]?)).toArray⟩ = _
      rw [rev_pick]
    rw [em]
    refine ⟨?_, .str _, H4, I5.tok _, ⟨_, rfl⟩, q⟩
    show (z.cps.toList.reverse.toArray).size ≤ sizeLine
    rw [List.size_toArray, List.length_reverse, Array.length_toList]
    exact hz
theorem qe_globI {x : PySem.Str} {i : Int} {pos : Pos} (hg : Gl X x) (hm : ∃ t, X.mg x = some (.int i t)) (hdb : (x == ("__debug__" : PySem.Str)) = false := by decide) : QE X W (.Name x pos) (mC (.int i)) := by
  obtain ⟨t, h⟩ := hm
  exact qe_glob hg h (v := .int i) ⟨t, rfl⟩ (fun _ _ _ => .int _) hdb
theorem qe_globS {x : PySem.Str} {z : String} {pos : Pos} (hg : Gl X x) (hm : ∃ t, X.mg x = some (.str (Str.ofString z) t)) (hdb : (x == ("__debug__" : PySem.Str)) = false := by decide) : QE X W (.Name x pos) (mC (S z)) := by
  obtain ⟨t, h⟩ := hm
  exact qe_glob hg h (v := .str (Str.ofString z)) ⟨t, rfl⟩ (fun _ _ _ => rd_str _) hdb
theorem qe_rev {k : Nat} {p1 p2 p3 pos : Pos} (he : QE X W e ma) : QE X W (.Subscript e (.Slice none none (some (.UnaryOp .USub (.Constant (.int 1) k p1) p2)) p3) pos) (mUn dRev ma) := by
  refine qe_of (pe_rev he) fun σ φ env lh H Q h1 h2 q => ?_
  refine rd_of h1 h2 (wp_step q fun x lh1 φ1 v H1 p1 r1 q1 => ?_)
  unfold dRev at q1
  split at q1
  · cases r1
    split at q1
    · rename_i s c
      refine .inr ⟨_, rfl, by rw [str_len]; exact sz_le c, wp_ok q1 (.refl p1.hr) (.str _)⟩
    · exact q1.elim
  · exact q1.elim
  · rename_i d _ hx
    split at q1
    · rename_i xs e
      obtain ⟨ad, vs, rfl, hq, rs⟩ := seqD_ok p1.hr r1 e
      rcases hq with hq | hq
      · exact .inl ⟨ad, vs, rfl, hq, fun p hp => wp_newL q1 p1.hr hp rs.rev⟩
      · cases r1 with
        | exn => cases e
        | exr => cases e
        | tup => exact absurd rfl (hx _)
        | ref hi =>
          unfold seqD at e
          simp only at e
          split at e
          · rename_i ys el
            cases e
            obtain ⟨ws, hw, rw'⟩ := p1.hr.lst el
            exact .inl ⟨_, ws, rfl, SqL.of hw, fun p hp => wp_newL q1 p1.hr hp rw'.rev⟩
          · cases e
        | scr hs =>
          cases e
          exact .inl ⟨ad, _, rfl, scrL_ext (Ext.refl _) hs, fun p hp => wp_newL q1 p1.hr hp (RDs.ints _).rev⟩
    · exact q1.elim
end
end HM
set_option Elab.async false
set_option linter.all false
set_option maxRecDepth 100000
set_option maxHeartbeats 4000000
namespace HM
open PySem L2 PySem.Spec PyProof.Rows
/-! ### exceptions: raise of an own class, try with one or several clauses -/
def veB : List Value := [.type "ValueError", .type "Exception", .type "BaseException", .type "object"]
/-- an own class over ValueError, without __init__ -/
structure XC (K : PySem.W.Frag) (mg : Str → Option Value) (x : String) (C : Addr) : Prop where
  gC : mg (Str.ofString x) = some (.ref C)
  ex : PySem.W.excIn K C veB "ValueError.__new__" = true
  kC : PySem.W.keepIn K (.ref C) = true
  bC : PySem.W.subIn K (.ref C) (.type "BaseException") = some true
  tC : PySem.W.typeIn K (.ref C) = some (.type "type")
/-- an error of the class x at a clause that names y -/
def XM (K : PySem.W.Frag) (mg : Str → Option Value) (x y : String) (b : Bool) : Prop := ∃ C D, mg (Str.ofString x) = some (.ref C) ∧ mg (Str.ofString y) = some (.ref D) ∧ PySem.W.exmOne K (.ref C) (.ref D) = some b
def sRaise (x : String) : MS := fun e h => .exc ⟨x, []⟩ e h
def W0 : WX := fun _ _ _ _ => False
section
variable {X : Cx} {W : WX}
theorem qs_raise {x : String} {C : Addr} {m : Str} {j : Nat} {p p2 pos pos' : Pos} (hc : X.calm = true) (tk : Takes X W) (T : XC X.K X.mg x C) (hg : Gl X (Str.ofString x)) (hdb : (Str.ofString x == ("__debug__" : Str)) = false := by decide +kernel) :
    QS X W (.Raise (some (.Call (.Name (Str.ofString x) p) [.Constant (.str m) j p2] [] pos)) none pos') (sRaise x) :=
  psI (ps_raise hc tk (pmk_own PySem.F.excBase_ValueError T.ex T.gC T.kC (raises_own T.bC T.tC) hg hdb)) fun D σ H ⟨φ, env, lh, h1, h2, q⟩ =>
    q φ (.ref C) none σ H (.refl h1) ⟨C, T.gC, rfl, fun _ => rfl, fun z => absurd rfl z⟩ h2
/-- the clauses of a try: (which classes it takes, its suite) -/
def sTryGo (x : XO) (e : EN) (h : LH) : List ((String → Option Bool) × MS) → RSt
  | [] => .exc x e h
  | (mt, ms) :: r => match mt x.cls with
    | some true => match ms e h with
      | .exc _ _ _ => .bad
      | z => z
    | some false => sTryGo x e h r
    | none => .bad
def sTry (b : MS) (cl : List ((String → Option Bool) × MS)) : MS := fun e h => match b e h with
  | .exc x e1 h1 => sTryGo x e1 h1 cl
  | z => z
/-- what a clause's table tells is so -/
def MtOk (K : PySem.W.Frag) (mg : Str → Option Value) (y : String) (mt : String → Option Bool) : Prop := ∀ x b, mt x = some b → XM K mg x y b
/-- the clauses' suites -/
inductive QHs (X : Cx) : List ExceptHandler → List ((String → Option Bool) × MS) → List (Value × (Addr → Value → Option Addr → TS)) → Prop
  | nil : QHs X [] [] []
  | cons {y : String} {C : Addr} {mt : String → Option Bool} {ms : MS} {b₀ : Stmt} {suite : List Stmt} {np pos' : Pos} {hds : List ExceptHandler} {cl : List ((String → Option Bool) × MS)} {l : List (Value × (Addr → Value → Option Addr → TS))}
      (gC : X.mg (Str.ofString y) = some (.ref C)) (hg : Gl X (Str.ofString y)) (hm : MtOk X.K X.mg y mt) (hsu : ∀ (a : Addr) (oe : Obj) (pn : List (Addr × Obj)), QSs (X.suite a ((a, oe) :: pn)) W0 (b₀ :: suite) ms) (r : QHs X hds cl l)
      (hdb : (Str.ofString y == ("__debug__" : Str)) = false := by decide +kernel) :
      QHs X (.ExceptHandler (some (.Name (Str.ofString y) np)) none (b₀ :: suite) pos' :: hds) ((mt, ms) :: cl) ((.ref C, fun _ _ _ => rdS X.K X.mg W0 ms) :: l)
theorem QHs.ok {hds : List ExceptHandler} {cl : List ((String → Option Bool) × MS)} {l : List (Value × (Addr → Value → Option Addr → TS))} (q : QHs X hds cl l) : HdsOk X hds l := by
  induction q with
  | nil => exact .nil
  | cons gC hg hm hsu r hdb ih => exact .cons ⟨hg, hdb, .inl gC⟩ (fun a oe cls d pn _ _ => hsu a oe pn) ih
theorem go_ok {hds : List ExceptHandler} {cl : List ((String → Option Bool) × MS)} {l : List (Value × (Addr → Value → Option Addr → TS))} (q : QHs X hds cl l) {Wout : WX} {D : Ends} {φ φ1 : Nat → Addr} {lh lh1 : LH} {H H1 : Hp} {x : XO} {e1 : EN} {cls : Value} {dd : Option Addr} {σ1 : L2.St}
    (p : Po X.K X.mg φ lh H φ1 lh1 H1) (er : ER X.K X.mg φ1 lh1.length H1 x cls dd) (rs : RS X.K φ1 lh1.length H1 e1 σ1)
    (h : match sTryGo x e1 lh1 cl with
      | .next env' lh' => ∀ φ' σ' H', Po X.K X.mg φ lh H φ' lh' H' → RS X.K φ' lh'.length H' env' σ' → D.nx σ' H'
      | .ret d lh' => ∀ φ' v H', Po X.K X.mg φ lh H φ' lh' H' → RD X.K φ' lh'.length H' d v → D.rt v H'
      | .brk env' lh' => ∀ φ' σ' H', Po X.K X.mg φ lh H φ' lh' H' → RS X.K φ' lh'.length H' env' σ' → D.bk σ' H'
      | .cnt env' lh' => ∀ φ' σ' H', Po X.K X.mg φ lh H φ' lh' H' → RS X.K φ' lh'.length H' env' σ' → D.ct σ' H'
      | .exc e env' lh' => ∀ φ' cls dd σ' H', Po X.K X.mg φ lh H φ' lh' H' → ER X.K X.mg φ' lh'.length H' e cls dd → RS X.K φ' lh'.length H' env' σ' → Wout cls dd σ' H'
      | .bad => False) : wMany X.K Wout D l cls dd σ1 H1 := by
  induction q with
  | nil => exact h φ1 cls dd σ1 H1 p er rs
  | @cons y C mt ms b₀ suite np pos' hds cl l gC hg hm hsu r hdb ih =>
    unfold sTryGo at h
    cases em : mt x.cls with
    | none => rw [em] at h; exact h.elim
    | some b =>
      rw [em] at h
      obtain ⟨C1, hC1, hc1, _⟩ := er
      obtain ⟨C2, D2, hC2, hD2, hx⟩ := hm _ _ em
      rw [hC1] at hC2
      rw [gC] at hD2
      cases hC2
      cases hD2
      subst hc1
      refine ⟨b, hx, fun hb a _ => ?_, fun hb => ?_⟩
      · subst hb
        refine ⟨φ1, e1, lh1, p.hr, rs, ?_⟩
        dsimp only at h
        revert h
        cases ms e1 lh1 with
        | next e2 h2 => exact fun h φ' σ' H' p' r' => h φ' σ' H' (p.trans p') r'
        | ret d h2 => exact fun h φ' v H' p' r' => h φ' v H' (p.trans p') r'
        | brk e2 h2 => exact fun h φ' σ' H' p' r' => h φ' σ' H' (p.trans p') r'
        | cnt e2 h2 => exact fun h φ' σ' H' p' r' => h φ' σ' H' (p.trans p') r'
        | exc z e2 h2 => exact fun h => h.elim
        | bad => exact fun h => h.elim
      · subst hb
        exact ih h
theorem qs_try {body : List Stmt} {mb : MS} {h₀ : ExceptHandler} {hds : List ExceptHandler} {cl : List ((String → Option Bool) × MS)} {l : List (Value × (Addr → Value → Option Addr → TS))} {pos : Pos} (hs : X.stack = X.env :: X.outer) (hf : X.env.frame = some X.env.locals) (tk : Takes X W)
    (hb : ∀ (W' : WX) (pn : List (Addr × Obj)) (xe : Value → Shared → Prop), Takes (X.tr pn xe) W' → PassesOwn (model X.prog X.w) X.A X.env xe → QSs (X.tr pn xe) W' body mb)
    (hh : QHs X (h₀ :: hds) cl l) : QS X W (.Try body (h₀ :: hds) [] [] pos) (sTry mb cl) := by
  refine psI (ps_try_many hs hf tk (tb := fun W' => rdS X.K X.mg W' mb) hb hh.ok) fun D σ H ⟨φ, env, lh, h1, h2, q⟩ => ?_
  refine ⟨φ, env, lh, h1, h2, ?_⟩
  unfold sTry at q
  revert q
  cases mb env lh with
  | next e2 l2 => exact fun q => q
  | ret d l2 => exact fun q => q
  | brk e2 l2 => exact fun q => q
  | cnt e2 l2 => exact fun q => q
  | exc x e1 lh1 => exact fun q φ1 cls dd σ1 H1 p er rs => go_ok hh p er rs q
  | bad => exact fun q => q
end
end HM
set_option Elab.async false
set_option linter.all false
set_option maxRecDepth 100000
set_option maxHeartbeats 4000000
namespace HM
open PySem L2 PySem.Spec PyProof.Rows
/-! ### recursion; int of a text; more operators -/
theorem okBad {P : Program} {w : World} {K : PySem.W.Frag} {mg : Str → Option Value} {base : Heap} {x qual : Str} {st : Stmt} {f : Addr} {fd : FuncData} {N ps : List Str} {k : Nat} (F : Fun K x qual st f fd) (S : FnScope N ps (defScope st)) :
    FnOk P w K mg base (L2.CX P w) (k + 1) f fd ps (spM K mg fun _ _ => .bad) :=
  F.okX S (fun vs H Q E ⟨φ, lh, ds, h1, h2, q⟩ => q.elim) fun cdv A outer s H vs Q E hr hsp => by
    obtain ⟨φ, lh, ds, h1, h2, q⟩ := hsp
    exact q.elim
/-- int(text) -/
def dIntS : MF := fun xs h => match xs with
  | [.str s] => match PySem.intText? ⟨s.toArray⟩ with
    | some n => if s.length ≤ 640 then .ok (.int n) h else .bad
    | none => .bad
  | _ => .bad
section
variable {X : Cx}
theorem cm_intS : CallM X (.type "int") dIntS := by
  refine callm_of call_int_str fun W σ φ lh H xs vs Q hr rs q => ?_
  unfold dIntS at q
  split at q
  · rename_i s
    obtain ⟨u, rfl, ru⟩ := rs.one
    cases ru
    split at q
    · rename_i n e
      split at q
      · rename_i c
        exact ⟨_, n, rfl, e, by rw [str_len]; exact c, wp_ok q (.refl hr) (.int n)⟩
      · exact q.elim
    · exact q.elim
  · exact q.elim
end
end HM
namespace HM
open PySem L2 PySem.Spec PyProof.Rows
theorem exm_of {K : PySem.W.Frag} {C D : Addr} {b : Bool} (h1 : PySem.W.subIn K (.ref D) (.type "BaseException") = some true) (h2 : PySem.W.isClsIn K D = true) (h3 : PySem.W.typeIn K (.ref D) = some (.type "type")) (h4 : PySem.W.subIn K (.ref C) (.ref D) = some b) :
    PySem.W.exmOne K (.ref C) (.ref D) = some b := by
  have e1 : (PySem.W.subIn K (.ref D) (.type "BaseException") == some true) = true := by rw [h1] <;> rfl
  have e2 : ((PySem.W.clsIn K D).isSome && PySem.W.typeIn K (.ref D) == some (.type "type")) = true := by
    have h2' : (PySem.W.clsIn K D).isSome = true := h2
    rw [h2', h3] <;> rfl
  show (if (PySem.W.subIn K (.ref D) (.type "BaseException") == some true) = true then (if ((PySem.W.clsIn K D).isSome && PySem.W.typeIn K (.ref D) == some (.type "type")) = true then PySem.W.subIn K (.ref C) (.ref D) else none) else none) = some b
  rw [if_pos e1, if_pos e2]
  exact h4
end HM
set_option Elab.async false
set_option linter.all false
set_option maxRecDepth 100000
set_option maxHeartbeats 4000000
namespace HM
open PySem L2 PySem.Spec PyProof.Rows
/-! ### a text times an int -/
def repD (k : Nat) (s : List Nat) : List Nat := (List.replicate k s).flatten
def dMulS : D → D → LH → Res D
  | .str a, .int k, h => if 0 ≤ k ∧ k < 2 ^ 62 ∧ a.length * k.toNat ≤ 16777216 then .ok (.str (repD k.toNat a)) h else .bad
  | _, _, _ => .bad
theorem fold_app : ∀ (k : Nat) (a : Array Nat) (acc : List Nat), (List.replicate k a).foldl (· ++ ·) acc.toArray = (acc ++ (List.replicate k a.toList).flatten).toArray
  | 0, a, acc => by simp
  | k + 1, a, acc => by
    rw [List.replicate_succ, List.foldl_cons, List.replicate_succ, List.flatten_cons]
    have : acc.toArray ++ a = (acc ++ a.toList).toArray := by simp
    rw [this, fold_app k a (acc ++ a.toList), List.append_assoc]
section
variable {X : Cx}
theorem op_repS : OpR X (binaryOp .Mult) (fun x y H Q => ∃ (z : Str) (k : Int), x = .str z ∧ y = .int k ∧ 0 ≤ k ∧ k < 2 ^ 62 ∧ z.length * k.toNat ≤ sizeLine ∧ Q (.str ⟨(repD k.toNat z.cps.toList).toArray⟩) H) := by
  intro pins s σ H x y v u Q I rx ry h
  obtain ⟨z, k, rfl, rfl, k0, k1, hz, q⟩ := h
  obtain ⟨t, rfl⟩ := rx
  obtain ⟨t', rfl⟩ := ry
  have hs : (repD k.toNat z.cps.toList).length = z.length * k.toNat := by
    unfold repD
    rw [List.length_flatten]
    simp [Str.length, Nat.mul_comm]
  refine PySem.P.mul_str ?_ (fun h1 h2 => ?_) (fun h1 h2 => ?_) ?_
  · have h1 : ¬ k < -(2 ^ 63 : Int) := by omega
    have h2 : ¬ k ≥ 2 ^ 63 := by omega
    rw [decide_eq_false h1, decide_eq_false h2]; rfl
  · intro hgt
    rw [sizeLine_eq] at hz
    have hk : (0 : Int) < k := by omega
    have h3 : (z.length : Int) * k ≤ 16777216 := by
      have : ((z.length * k.toNat : Nat) : Int) ≤ ((16777216 : Nat) : Int) := Int.ofNat_le.mpr hz
      rw [Int.natCast_mul, Int.toNat_of_nonneg k0] at this
      exact this
    have h4 := Int.lt_mul_of_ediv_lt hk hgt
    omega
  · show decide (z.length * k.toNat > sizeLine) = false
    exact decide_eq_false (by omega)
  · by_cases c : k < 1
    · rw [if_pos c]
      have k00 : k = 0 := by omega
      subst k00
      refine ⟨by decide, .str _, H, I.tok _, ⟨_, rfl⟩, q⟩
    · rw [if_neg c]
      by_cases c2 : (k == 1 || z.length == 0) = true
      · rw [if_pos c2]
        have e : (⟨(repD k.toNat z.cps.toList).toArray⟩ : Str) = z := by
          rw [Bool.or_eq_true, beq_iff_eq, beq_iff_eq] at c2
          rcases c2 with c2 | c2
          · subst c2
            unfold repD
            simp
          · have : z.cps = #[] := Array.eq_empty_of_size_eq_zero c2
            unfold repD
            cases z with
            | mk a =>
              have ha : a = #[] := this
              subst ha
              simp
        rw [e] at q
        exact ⟨.str z, H, I, ⟨t, rfl⟩, q⟩
      · rw [if_neg c2]
        have e := fold_app k.toNat z.cps []
        rw [List.nil_append] at e
        have e2 : (List.replicate k.toNat z.cps).foldl (· ++ ·) #[] = (repD k.toNat z.cps.toList).toArray := e
        rw [e2]
        refine ⟨by show (repD k.toNat z.cps.toList).toArray.size ≤ sizeLine; rw [List.size_toArray, hs]; exact hz, .str _, H, I.tok _, ⟨_, rfl⟩, q⟩
theorem opm_mulS : OpM X (binaryOp .Mult) dMulS := by
  refine ⟨_, op_repS, fun W σ φ lh H x y v w Q hr rx ry q => ?_⟩
  unfold dMulS at q
  split at q
  · rename_i a k
    cases rx; cases ry
    split at q
    · rename_i c
      exact ⟨_, k, rfl, rfl, c.1, c.2.1, by rw [sizeLine_eq, str_len]; exact c.2.2, wp_ok q (.refl hr) (by
        exact .str _)⟩
    · exact q.elim
  · exact q.elim
end
end HM
set_option Elab.async false
set_option linter.all false
set_option maxRecDepth 100000
set_option maxHeartbeats 4000000
namespace HM
open PySem L2 PySem.Spec PyProof.Rows
/-! ### upper, startswith, insert, sorted of texts -/
def upL (s : List Nat) : List Nat := (Txt.upper ⟨s.toArray⟩).cps.toList
theorem upL_len (s : List Nat) : (upL s).length ≤ 3 * s.length := by
  have h := PyProof.Rows.len_upper ⟨s.toArray⟩
  have e : (upL s).length = (Txt.upper ⟨s.toArray⟩).length := by
    show (Txt.upper ⟨s.toArray⟩).cps.toList.length = (Txt.upper ⟨s.toArray⟩).cps.size
    simp
  have e2 : (⟨s.toArray⟩ : Str).length = s.length := by
    show s.toArray.size = _
    simp
  rw [e2] at h
  rw [e]
  exact h
def dUpper : D → LH → Res D := fun d h => match d with
  | .str s => if s.length ≤ 5592405 then .ok (.str (upL s)) h else .bad
  | _ => .bad
def dStartswith : MM := fun x xs h => match x, xs with
  | .str a, [.str b] => .ok (.bl (decide (a.take b.length = b))) h
  | _, _ => .bad
def dInsert : MM := fun x xs h => match x, xs with
  | .ref i, [.int k, y] => match h[i]? with
    | some (.lst ys) => if ys.length < 16777216 ∧ 0 ≤ k ∧ k < 2 ^ 63 then .ok .non (h.set i (.lst (ys.take k.toNat ++ [y] ++ ys.drop k.toNat))) else .bad
    | _ => .bad
  | _, _ => .bad
section
variable {X : Cx} {W : WX} {o e e2 : Expr} {ma mo mb : M D} {apos cpos : Pos}
theorem qe_upper (ho : QE X W o mo) (hbase : attributeBase o "upper" X.env (eval o X.env) = eval o X.env := by rfl) (hline : (apos.endLine == cpos.line) = true := by rfl) :
    QE X W (.Call (.Attribute o "upper" apos) [] [] cpos) (mUn dUpper mo) := by
  refine qe_of (pe_upper ho hbase hline) fun σ φ env lh H Q h1 h2 q => ?_
  refine rd_of h1 h2 (wp_step q fun x lh1 φ1 v H1 p1 r1 q1 => ?_)
  unfold dUpper at q1
  split at q1
  · rename_i s
    cases r1
    split at q1
    · rename_i c
      refine ⟨⟨_, rfl⟩, _, rfl, rfl, by rw [str_len]; exact c, wp_ok q1 (.refl p1.hr) ?_⟩
      have := RD.str (K := X.K) (φ := φ1) (n := lh1.length) (H := H1) (upL s)
      unfold upL at this
      rw [str_eta] at this
      exact this
    · exact q1.elim
  · exact q1.elim
theorem starts_eq (a b : List Nat) : Txt.startswith ⟨a.toArray⟩ ⟨b.toArray⟩ = decide (a.take b.length = b) := by
  unfold Txt.startswith
  rw [StrLaws.subAt_eq, str_len, str_len]
  simp only [List.drop_zero, Nat.zero_add]
  by_cases c : a.take b.length = b
  · have : b.length ≤ a.length := by
      have := congrArg List.length c
      rw [List.length_take] at this
      omega
    simp [c, this]
  · simp [c]
theorem mm_startswith : MetM X "str.startswith" dStartswith := by
  refine ⟨_, L2.mt_startswith, fun W σ φ lh H x xs v vs Q hr rx rs q => ?_⟩
  unfold dStartswith at q
  split at q
  · rename_i a b
    cases rx
    obtain ⟨u, rfl, ru⟩ := rs.one
    cases ru
    refine ⟨_, _, rfl, rfl, ?_⟩
    rw [starts_eq]
    exact wp_ok q (.refl hr) (.bl _)
  · exact q.elim
theorem qe_startswith (ho : QE X W o mo) (he : QE X W e ma) (hs : starEach [e] X.env = [(false, eval e X.env)] := by rfl) (hbase : attributeBase o "startswith" X.env (eval o X.env) = eval o X.env := by rfl) (hline : (apos.endLine == cpos.line) = true := by rfl) :
    QE X W (.Call (.Attribute o "startswith" apos) [e] [] cpos) (mMet isStr dStartswith mo (mCons ma mNil)) := by
  obtain ⟨r, h, k⟩ := mm_startswith (X := X)
  refine qe_of (pe_m1 PySem.F.slot_str_startswith PySem.F.type_str_startswith h ho he hs hbase hline) fun σ φ env lh H Q h1 h2 q => ?_
  refine rd_of h1 h2 (wp_step q fun x lh1 φ1 v H1 p1 r1 q1 => ?_)
  split at q1
  · rename_i c
    have hst : ∃ a, v = .str a := by
      cases x with
      | str s => cases r1; exact ⟨_, rfl⟩
      | _ => cases c
    refine ⟨hst, ?_⟩
    have q1' : wp X.K X.mg W σ (RD X.K) ((ma env lh1).bind fun y h2 => dStartswith x [y] h2) φ1 lh1 H1 Q := by
      revert q1
      unfold mCons
      cases ma env lh1 with
      | ok y h2 => exact fun z => z
      | exc y h2 => exact fun z => z
      | bad => exact fun z => z
    refine rd_of p1.hr (h2.up p1) (wp_step q1' fun y lh2 φ2 w H2 p2 r2 q2 => ?_)
    exact k W σ φ2 lh2 H2 x [y] v [w] Q p2.hr (r1.up p2) (.cons r2 .nil) q2
  · exact q1.elim
theorem mm_insert : MetM X "list.insert" dInsert := by
  refine ⟨_, L2.mt_insert, fun W σ φ lh H x xs v vs Q hr rx rs q => ?_⟩
  unfold dInsert at q
  split at q
  · rename_i i k y
    obtain ⟨rfl, hi⟩ := rx.ref_inv
    obtain ⟨u1, u2, rfl, r1, r2⟩ := rs.two
    cases r1
    split at q
    · rename_i ys e
      obtain ⟨ws, hw, rw'⟩ := hr.lst e
      split at q
      · rename_i c
        refine ⟨_, ws, k, u2, rfl, rfl, hw, by rw [← rw'.len, sizeLine_eq]; exact c.1, c.2.1, c.2.2, ?_⟩
        have P : Po X.K X.mg φ lh H φ (lh.set i (.lst (ys.take k.toNat ++ [y] ++ ys.drop k.toNat))) (upd H (φ i) (.lst (ws.take k.toNat ++ [u2] ++ ws.drop k.toNat))) := Po.put hr hi ⟨_, upd_same, (((rw'.take k.toNat).app (.cons r2 .nil)).app (rw'.drop k.toNat)).mono (Nat.le_refl _) (fun _ _ => rfl) (by
          obtain ⟨w, hw, w1, w2⟩ := hr.lt_some hi
          exact Ext.put hw w1 w2)⟩
        exact wp_ok q P .non
      · exact q.elim
    · exact q.elim
  · exact q.elim
theorem qe_insert (ho : QE X W o mo) (ha : QA X W [e, e2] mas) (hbase : attributeBase o "insert" X.env (eval o X.env) = eval o X.env := by rfl)
    (hfew : ((backTo cpos (starEach (e :: [e2]) X.env)).all (fun x => !x.1) && (backToKw cpos (keywordEach [] X.env)).all (fun x => x.1.isSome)
      && decide ((e :: [e2]).length + ([] : List Keyword).length + (if ([] : List Keyword).isEmpty then 0 else 1) < 30)) = true := by rfl)
    (hline : (apos.endLine == cpos.line) = true := by rfl) (hs : starEach (e :: [e2]) X.env = (false, eval e X.env) :: starEach [e2] X.env := by rfl) (hplain : (backTo cpos (starEach [e2] X.env)).any (·.1) = false := by rfl) :
    QE X W (.Call (.Attribute o "insert" apos) [e, e2] [] cpos) (mMet isLst dInsert mo mas) :=
  qe_bm PySem.F.plainAttrs_list PySem.F.slot_list_insert PySem.F.type_list_insert mm_insert (fun _ _ _ _ _ => isLst_ok) ho ha hbase hfew hline hs hplain
end
/-- the order of texts -/
def leS (a b : List Nat) : Bool := !decide (b < a)
def sortS (xs : List (List Nat)) : List (List Nat) := xs.mergeSort leS
theorem leS_trans (a b c : List Nat) (h1 : leS a b = true) (h2 : leS b c = true) : leS a c = true := by
  unfold leS at *
  simp only [Bool.not_eq_true', decide_eq_false_iff_not] at *
  exact List.le_trans h1 h2
theorem leS_total (a b : List Nat) : (leS a b || leS b a) = true := by
  unfold leS
  rcases List.le_total a b with h | h
  · have : ¬ b < a := h
    simp [this]
  · have : ¬ a < b := h
    simp [this]
theorem leS_anti {a b : List Nat} (h1 : leS a b = true) (h2 : leS b a = true) : a = b := by
  unfold leS at *
  simp only [Bool.not_eq_true', decide_eq_false_iff_not] at *
  exact List.le_antisymm h1 h2
theorem sortS_perm (xs : List (List Nat)) : (sortS xs).Perm xs := List.mergeSort_perm xs leS
theorem sortS_pw (xs : List (List Nat)) : (sortS xs).Pairwise (fun a b => leS a b = true) := List.pairwise_mergeSort leS_trans leS_total xs
theorem sort_unique {xs ys : List (List Nat)} (p : ys.Perm xs) (h : ys.Pairwise (fun a b => leS a b = true)) : ys = sortS xs :=
  List.Perm.eq_of_pairwise (fun a b _ _ h1 h2 => leS_anti h1 h2) h (sortS_pw xs) (p.trans (sortS_perm xs).symm)
theorem rising_pw : ∀ (p : Str) (ys : List Str), PyProof.Rows.risingS p ys = true → (p :: ys).Pairwise (fun a b => leS a.cps.toList b.cps.toList = true)
  | p, [], _ => by simp
  | p, x :: r, h => by
    unfold PyProof.Rows.risingS at h
    rw [Bool.and_eq_true] at h
    have h1 : leS p.cps.toList x.cps.toList = true := by
      have := h.1
      rw [ltCps_eq] at this
      exact this
    have ih := rising_pw x r h.2
    refine List.pairwise_cons.mpr ⟨fun y hy => ?_, ih⟩
    rcases List.mem_cons.mp hy with rfl | hy
    · exact h1
    · exact leS_trans _ _ _ h1 (List.rel_of_pairwise_cons ih hy)
theorem sorted_pw {ys : List Str} (h : PyProof.Rows.sortedS ys = true) : (ys.map fun s => s.cps.toList).Pairwise (fun a b => leS a b = true) := by
  rw [List.pairwise_map]
  cases ys with
  | nil => exact .nil
  | cons x r => exact rising_pw x r h
theorem cr_sortedSA {X : Cx} : CallR X (.builtin "sorted") (fun vs H Q => ∃ (a : Addr) (xs : List Str), vs = [V.ref a] ∧ SqL X.K H a (xs.map V.str) ∧
    ∀ (ys : List Str) (p : Addr), ys.Perm xs → PyProof.Rows.sortedS ys = true → H p = none → Q (.ref p) (upd H p (.lst (ys.map V.str)))) := by
  intro pins s σ H vs us Q I r h
  obtain ⟨a, xs, rfl, hs, q⟩ := h
  obtain ⟨its, rv, hl, hz⟩ := I.list hs
  rw [Vals.ref1 r]
  have hlen0 := rv.length
  rw [List.length_map] at hlen0 hz
  refine PyProof.Rows.sorted_strsAny hl.isList rv.strs (by rw [← hlen0]; exact hz) fun out ys h1 h2 h3 => ?_
  obtain ⟨ep, he'⟩ := PyProof.Rows.sortedAll_at s.heap its out
  have hlen : (ys.map V.str).length ≤ sizeLine := by rw [List.length_map, h2.length_eq]; exact hz
  exact ⟨.ref _, upd H (s.heap.objs.size + 1) (.lst (ys.map V.str)), I.laid (t' := s.toks) (fun _ _ => PyProof.Rows.sortedAll_old) (Nat.le_succ _) ⟨hlen, out.toList, ep, vals_of_strs h1, he'⟩, rfl, q ys _ h2 h3 (I.hok.fresh (Nat.le_succ _))⟩
theorem RDs.strs {K : PySem.W.Frag} {φ : Nat → Addr} {n : Nat} {H : Hp} : ∀ l : List (List Nat), RDs K φ n H (l.map D.str) ((l.map fun s => (⟨s.toArray⟩ : Str)).map V.str)
  | [] => .nil
  | y :: ys => .cons (.str y) (RDs.strs ys)
/-- sorted of a list of texts -/
def dSorted : MF := fun xs h => match xs with
  | [d] => if isLst d h then (match seqD d h with
    | some ys => match strsD ys with
      | some ss => .ok (.ref h.length) (h ++ [.lst ((sortS ss).map D.str)])
      | none => .bad
    | none => .bad) else .bad
  | _ => .bad
theorem seqL_ok {K : PySem.W.Frag} {mg : Str → Option Value} {φ : Nat → Addr} {lh : LH} {H : Hp} {d : D} {v : V} {ys : List D} (hr : HR K mg φ lh H) (r : RD K φ lh.length H d v) (h : isLst d lh = true) (e : seqD d lh = some ys) :
    ∃ a ws, v = .ref a ∧ SqL K H a ws ∧ RDs K φ lh.length H ys ws := by
  unfold isLst at h
  cases d with
  | tup xs => simp only [seqD] at h; cases h
  | scr ns =>
    obtain ⟨a, rfl, hq⟩ := r.scr_inv
    simp only [seqD] at e
    cases e
    refine ⟨a, _, rfl, hq, ?_⟩
    clear hq h r
    induction ns with
    | nil => exact .nil
    | cons y ys ih => exact .cons (.int y) ih
  | ref i =>
    obtain ⟨rfl, _⟩ := r.ref_inv
    unfold seqD at e
    simp only at e
    split at e
    · rename_i zs el
      cases e
      obtain ⟨vs, hv, r2⟩ := hr.lst el
      exact ⟨_, _, rfl, SqL.of hv, r2⟩
    · cases e
  | _ => simp only [seqD] at h; cases h
theorem cm_sorted {X : Cx} : CallM X (.builtin "sorted") dSorted := by
  refine callm_of cr_sortedSA fun W σ φ lh H xs vs Q hr rs q => ?_
  unfold dSorted at q
  split at q
  · obtain ⟨v, rfl, r⟩ := rs.one
    split at q
    · rename_i d hd
      split at q
      · rename_i ys e
        split at q
        · rename_i ss es
          obtain ⟨a, ws, rfl, hq, r2⟩ := seqL_ok hr r hd e
          have ew := strsD_ok r2 es
          subst ew
          refine ⟨a, _, rfl, hq, fun ys' p hp hs hH => ?_⟩
          have e1 : (ys'.map fun s => s.cps.toList) = sortS ss := by
            refine sort_unique ?_ (sorted_pw hs)
            have := hp.map (fun s : Str => s.cps.toList)
            rw [List.map_map] at this
            have e3 : ss.map ((fun s : Str => s.cps.toList) ∘ fun s => (⟨s.toArray⟩ : Str)) = ss := by
              conv => rhs; rw [← List.map_id ss]
              exact List.map_congr_left fun s _ => by simp
            rw [e3] at this
            exact this
          have e2 : ys' = (sortS ss).map fun s => (⟨s.toArray⟩ : Str) := by
            rw [← e1, List.map_map]
            conv => lhs; rw [← List.map_id ys']
            exact List.map_congr_left fun s _ => (str_eta s).symm
          subst e2
          exact wp_newL q hr hH (RDs.strs _)
        · exact q.elim
      · exact q.elim
    · exact q.elim
  · exact q.elim
end HM
set_option Elab.async false
set_option linter.all false
set_option maxRecDepth 100000
set_option maxHeartbeats 4000000
namespace HT
open PySem PySem.Spec PyProof.Rows
section
variable {prog : Program} {w : World} {A : Around} {E : Value → Shared → Prop} {s : Shared}
theorem sliceApplied_rev {sl : Addr} {vl vu vs : Value} {n : Nat} {Q : Int × Int × Nat → Shared → Prop} (hs : s.heap.IsSliceOf sl vl vu vs) (pl : IsPart vl none) (pu : IsPart vu none) (ps : IsPart vs (some (-1)))
    (h : Q (((n : Int) - 1), -1, n) s) : wpAny (model prog w) A (Builtin.Slice.sliceApplied (.ref sl) (pure (n : Int))) Q E s := by
  obtain ⟨os, hos, hcs, hds⟩ := id hs
  unfold Builtin.Slice.sliceApplied Builtin.Slice.sliceFields
  refine wpAny_bind (wpAny_bind (wpAny_field hos hds (x := vl) rfl (wpAny_bind (wpAny_field hos hds (x := vu) rfl (wpAny_bind (wpAny_field hos hds (x := vs) rfl (wpAny_pure ?_)))))))
  refine wpAny_bind (slicePart_ ps ?_)
  show wpAny _ _ (if ((-1 : Int) == 0) = true then _ else _) _ _ s
  rw [if_neg (by decide)]
  refine wpAny_bind (slicePart_ pl (wpAny_bind (slicePart_ pu (wpAny_bind (wpAny_pure ?_)))))
  have e : Builtin.Slice.slicePlaces ((n : Int) - 1) (-1) (-1) = n := by
    unfold Builtin.Slice.slicePlaces
    have h1 : ¬ ((-1 : Int) > 0) := by decide
    simp only [h1, if_false]
    have e2 : ((n : Int) - 1 - -1 - 1) / (- -1) = (n : Int) - 1 := by
      rw [show (- -1 : Int) = 1 by decide, Int.ediv_one]
      omega
    split <;> omega
  show wpAny _ _ (pure (((n : Int) - 1), (-1 : Int), Builtin.Slice.slicePlaces ((n : Int) - 1) (-1) (-1))) _ _ s
  rw [e]
  exact wpAny_pure h
theorem fm_congr {α β : Type} {f g : α → Option β} : ∀ {l : List α}, (∀ m ∈ l, f m = g m) → l.filterMap f = l.filterMap g
  | [], _ => rfl
  | a :: l, h => by
    rw [List.filterMap_cons, List.filterMap_cons, h a (by simp), fm_congr fun m hm => h m (by simp [hm])]
theorem pick_rev (xs : Array Value) : ((List.range xs.size).filterMap fun (m : Nat) => xs[(((xs.size : Int) - 1) + (m : Int) * -1).toNat]?).toArray = xs.toList.reverse.toArray := by
  have e : (List.range xs.size).filterMap (fun (m : Nat) => xs[(((xs.size : Int) - 1) + (m : Int) * -1).toNat]?) = ((List.range xs.size).map fun k => xs.size - 1 - k).filterMap (xs[·]?) := by
    rw [List.filterMap_map]
    refine fm_congr fun m hm => ?_
    have hm2 := List.mem_range.mp hm
    have : (((xs.size : Int) - 1) + (m : Int) * -1).toNat = xs.size - 1 - m := by omega
    rw [this]
    rfl
  rw [e, PySem.W.krv_range, List.filterMap_reverse, PySem.W.krv_all]
theorem getItem_tuple_rev {t sl : Addr} {items : Array Value} {vl vu vs : Value} {Q : Value → Shared → Prop} (ht : IsTup s.heap t items) (hs : s.heap.IsSliceOf sl vl vu vs) (pl : IsPart vl none) (pu : IsPart vu none) (ps : IsPart vs (some (-1)))
    (h : Q (.ref s.heap.objs.size) { s with heap := s.heap.push { cls := .type "tuple", data := .seq items.toList.reverse.toArray } })
    (hsz : items.size ≤ sizeLine) : wpAny (model prog w) A (getItem (.ref t) (.ref sl)) Q E s := by
  have htake : sizeOk (.seq items.toList.reverse.toArray) := by
    show items.toList.reverse.toArray.size ≤ sizeLine
    rw [List.size_toArray, List.length_reverse, Array.length_toList]
    exact hsz
  obtain ⟨os, hos, hcs, hds⟩ := id hs
  have hTs : s.TypeIs (.ref sl) "slice" := ⟨os, hos, hcs⟩
  unfold getItem
  try with_reducible refine wpAny_holding ?_
  first | refine wpAny_bind (wpAny_pure ?_) | skip
  refine wpAny_bind (wpAny_sequenceKey ht.typeIs (by decide) ?_)
  refine wpAny_bind (wpAny_callSpecial?_slot (name := Str.ofString "__getitem__") ht.typeIs PyProof.Rows.slot_tuple_getitem
    (wpAny_call_entry PyProof.Rows.slot_tuple_getitem ht.typeIs entry_tuple_getitem ?_ (args_tuple_getitem _ _)))
  show wpAny _ _ (Builtin.Tuple.tupleItemsOf (.ref t) >>= _) _ _ s
  refine wpAny_bind (tupleItemsOf_ ht ?_)
  refine wpAny_bind (wpAny_typeOf hTs ?_)
  rw [if_pos (by decide)]
  refine wpAny_bind (sliceApplied_rev hs pl pu ps ?_)
  have hno : ¬ ((((items.size : Int) - 1) == 0 && (-1 : Int) == 1 && items.size == items.size) = true) := by
    intro q
    rw [Bool.and_eq_true, Bool.and_eq_true] at q
    exact absurd q.1.2 (by decide)
  show wpAny _ _ (if (((items.size : Int) - 1) == 0 && (-1 : Int) == 1 && items.size == items.size) = true then _ else _) _ _ s
  rw [if_neg hno, pick_rev]
  first
    | exact wpAny_bind (m := Builtin.Tuple.tupleExact _) (wpAny_newObj_type (wpAny_pure ⟨_, rfl, wpAny_pure h⟩) htake)
    | exact wpAny_bind (m := Builtin.Tuple.tupleExact _) (wpAny_newObj_type (wpAny_bind (wpAny_pure (wpAny_pure ⟨_, rfl, wpAny_pure h⟩))) htake)
    | exact wpAny_bind (wpAny_bind (m := Builtin.Tuple.tupleExact _) (wpAny_newObj_type (wpAny_pure (wpAny_pure ⟨_, rfl, wpAny_pure h⟩)) htake))
    | exact wpAny_bind (wpAny_bind (m := Builtin.Tuple.tupleExact _) (wpAny_newObj_type (wpAny_pure ⟨_, rfl, wpAny_pure h⟩) htake))
end
end HT
namespace HM
open PySem L2 PySem.Spec PyProof.Rows HT
section
variable {X : Cx} {W : WX} {e : Expr} {ma : M D}
/-- x[::-1] of a text, a list or a tuple -/
def dRevT (d : D) (h : LH) : Res D := match d with
  | .tup xs => .ok (.tup xs.reverse) h
  | d => dRev d h
def tRevT (K : PySem.W.Frag) (te : TE) : TE := fun σ H Q => te σ H fun x H1 => ∃ a xs, x = .ref a ∧ SqT K H1 a xs ∧ ∀ p, H1 p = none → Q (.ref p) (upd H1 p (.tup xs.reverse))
theorem pe_revT {e : Expr} {te : TE} {k : Nat} {p1 p2 p3 pos : Pos} (he : PE X e te) : PE X (.Subscript e (.Slice none none (some (.UnaryOp .USub (.Constant (.int 1) k p1) p2)) p3) pos) (tRevT X.K te) := by
  refine ⟨fun pins s σ H Q I h => ?_⟩
  refine Subscript_ (thn (he.run pins s σ H _ I h) fun v s1 ⟨x, H1, I1, r1, q1⟩ => ?_)
  have hst : PO X (some (.UnaryOp .USub (.Constant (.int 1) k p1) p2)) (tPart (tUn (rU fun i => .int (-i)) (tC (.int 1)))) := po_some (pe_un un_neg pe_int)
  refine wpAny_Slice (thn (po_none.run pins s1 σ H1 (fun o H2 => o = none ∧ H2 = H1) I1 ⟨rfl, rfl⟩) fun vl s2 ⟨l, H2, I2, pl, el, e2⟩ => ?_)
  subst el e2
  refine thn (po_none.run pins s2 σ H2 (fun o H3 => o = none ∧ H3 = H2) I2 ⟨rfl, rfl⟩) fun vu s3 ⟨u, H3, I3, pu, eu, e3⟩ => ?_
  subst eu e3
  refine thn (hst.run pins s3 σ H3 (fun o H4 => o = some (-1) ∧ H4 = H3) I3 ⟨1, rfl, -1, rfl, rfl, rfl⟩) fun vs s4 ⟨o, H4, I4, ps, eo, e4⟩ => ?_
  subst eo e4
  have I5 : Inv X pins σ H4 { s4 with heap := s4.heap.push { cls := .type "slice", data := .fields #[vl, vu, vs] } } := I4.kept (t' := s4.toks) fun b ob q => Heap.get?_push_of_some _ q
  obtain ⟨a, xs, ex, hx, q⟩ := q1
  subst ex
  cases r1
  obtain ⟨its, r, ht, hz⟩ := I5.tuple hx
  have hlen := r.length
  show wpAny (model X.prog X.w) X.A (subscriptTail e (.Slice none none (some (.UnaryOp .USub (.Constant (.int 1) k p1) p2)) p3) (.ref a) (.ref s4.heap.objs.size)) (EP X pins σ Q) X.xe { s4 with heap := s4.heap.push { cls := .type "slice", data := .fields #[vl, vu, vs] } }
  refine tail_any (ops := [.ref a, .ref s4.heap.objs.size]) ht.typeIs (PyProof.Rows.slot_tuple_getitem.lookup) ?_ (by with_unfolding_all rfl)
  refine HT.getItem_tuple_rev ht (Heap.IsSliceOf.new _ vl vu vs) pl pu ps ?_ (by rw [List.size_toArray]; omega)
  refine ⟨.ref _, _, I5.laid (t' := s4.toks) (o := .tup xs.reverse) (fun b ob q => Heap.get?_push_of_some _ q) (Nat.le_refl _) ?_, rfl, q _ (I5.hok.fresh (Nat.le_refl _))⟩
  exact ⟨by rw [List.length_reverse]; exact hz, _, r.reverse, IsTup.new _ _⟩
/-- two readings of one expression -/
theorem pe_or2 {e : Expr} {t1 t2 : TE} (h1 : PE X e t1) (h2 : PE X e t2) : PE X e (fun σ H Q => t1 σ H Q ∨ t2 σ H Q) := ⟨fun pins s σ H Q I q => q.elim (h1.run pins s σ H Q I) (h2.run pins s σ H Q I)⟩
theorem wp_tup {σ : L2.St} {φ : Nat → Addr} {lh : LH} {H : Hp} {x : D} {v : V} {xs : List D} (hx : x = .tup xs) (r : RD X.K φ lh.length H x v) : ∃ a vs, v = .ref a ∧ SqT X.K H a vs ∧ RDs X.K φ lh.length H xs vs := by
  subst hx
  exact r.tup_inv
theorem qe_revT {k : Nat} {p1 p2 p3 pos : Pos} (he : QE X W e ma) : QE X W (.Subscript e (.Slice none none (some (.UnaryOp .USub (.Constant (.int 1) k p1) p2)) p3) pos) (mUn dRevT ma) := by
  refine ⟨fun pins s σ H Q I q => ?_⟩
  obtain ⟨φ, env, lh, h1, h2, q⟩ := q
  unfold mUn at q
  cases em : ma env lh with
  | bad => rw [em] at q; exact q.elim
  | exc y h3 =>
    rw [em] at q
    refine (pe_revT he).run pins s σ H Q I ?_
    refine rd_of h1 h2 ?_
    rw [em]
    exact q
  | ok x lh1 =>
    by_cases c : ∃ xs, x = .tup xs
    · obtain ⟨xs, rfl⟩ := c
      rw [em] at q
      refine (pe_revT he).run pins s σ H Q I ?_
      refine rd_of h1 h2 ?_
      rw [em]
      intro φ1 v H1 p1 r1
      obtain ⟨a, vs, rfl, hq, rs⟩ := r1.tup_inv
      refine ⟨a, vs, rfl, hq, fun p hp => ?_⟩
      have q' : wp X.K X.mg W σ (RD X.K) (.ok (.tup xs.reverse) lh1) φ1 lh1 H1 Q := fun φ2 v2 H2 p2 r2 => q φ2 v2 H2 (p1.trans p2) r2
      exact wp_newT q' p1.hr hp rs.rev
    · refine (qe_rev he).run pins s σ H Q I ⟨φ, env, lh, h1, h2, ?_⟩
      unfold mUn
      rw [em] at q ⊢
      have e2 : dRevT x lh1 = dRev x lh1 := by
        cases x with
        | tup xs => exact absurd ⟨xs, rfl⟩ c
        | _ => rfl
      have q' : wp X.K X.mg W σ (RD X.K) (dRevT x lh1) φ lh H Q := q
      rw [e2] at q'
      exact q'
/-- int * int, text * int, tuple * int -/
def dMulX : D → D → LH → Res D
  | .tup xs, .int k, h => if xs ≠ [] ∧ 2 ≤ k ∧ k ≤ 1000 ∧ xs.length ≤ 1000 then .ok (.tup (List.replicate k.toNat xs).flatten) h else .bad
  | .str a, .int k, h => dMulS (.str a) (.int k) h
  | x, y, h => dMul x y h
theorem RDs.rep {K : PySem.W.Frag} {φ : Nat → Addr} {n : Nat} {H : Hp} {xs : List D} {vs : List V} (r : RDs K φ n H xs vs) : ∀ k : Nat, RDs K φ n H (List.replicate k xs).flatten (List.replicate k vs).flatten
  | 0 => .nil
  | k + 1 => by
    rw [List.replicate_succ, List.replicate_succ, List.flatten_cons, List.flatten_cons]
    exact r.app (RDs.rep r k)
theorem opm_mulX : OpM X (binaryOp .Mult) dMulX := by
  obtain ⟨r1, o1, k1⟩ := opm_mul (X := X)
  obtain ⟨r2, o2, k2⟩ := opm_mulS (X := X)
  refine ⟨_, (o1.or o2).or op_repT, fun W σ φ lh H x y v w Q hr rx ry q => ?_⟩
  unfold dMulX at q
  split at q
  · rename_i xs k
    split at q
    · rename_i c
      obtain ⟨a, vs, rfl, hq, rs⟩ := rx.tup_inv
      cases ry
      refine .inr ⟨a, k, vs, rfl, rfl, hq, ?_, c.2.1, c.2.2.1, by rw [← rs.len]; exact c.2.2.2, fun p hp => wp_newT q hr hp (rs.rep _)⟩
      intro z
      subst z
      have := rs.len
      simp at this
      exact c.1 this
    · exact q.elim
  · exact .inl (.inr (k2 W σ φ lh H _ _ v w Q hr rx ry q))
  · exact .inl (.inl (k1 W σ φ lh H x y v w Q hr rx ry q))
end
end HM
set_option Elab.async false
set_option linter.all false
set_option maxRecDepth 100000
set_option maxHeartbeats 4000000
namespace HM
open PySem L2 PySem.Spec PyProof.Rows
/-! ### except X as e -/
/-- isinstance(e, C) of the caught error: its answer is known from its class -/
def mExIs (a : Addr) (b : Option Bool) (m : M D) : M D := fun e h => (m e h).bind fun d h1 => match d, b with
  | .exn a', some c => if a' = a then .ok (.bl c) h1 else .bad
  | _, _ => .bad
def sTryAs (b : MS) (mt : String → Option Bool) (i : Nat) (ms : XO → Addr → MS) : MS := fun e h => match b e h with
  | .exc x e1 h1 => match mt x.cls, x.flds with
    | some true, [] => (match ms x 0 (e1.set i (some (.exn 0))) h1 with
       | .ret d h2 => .ret d h2
       | .next e2 h2 => .next (e2.set i none) h2
       | .cnt e2 h2 => .cnt (e2.set i none) h2
       | _ => .bad)
    | some false, _ => .exc x e1 h1
    | _, _ => .bad
  | z => z
/-- the error's address is not seen -/
def Un {α : Type} (i : Nat) (m : Addr → M α) : Prop := ∀ (a a' : Addr) (e : EN), m a (e.set i (some (.exn a))) = m a' (e.set i (some (.exn a')))
def UnS (i : Nat) (m : Addr → MS) : Prop := ∀ (a a' : Addr) (e : EN) (h : LH), match m a (e.set i (some (.exn a))) h with
  | .ret d h2 => m a' (e.set i (some (.exn a'))) h = .ret d h2
  | .next e2 h2 => ∃ e2', m a' (e.set i (some (.exn a'))) h = .next e2' h2 ∧ e2'.set i none = e2.set i none
  | .cnt e2 h2 => ∃ e2', m a' (e.set i (some (.exn a'))) h = .cnt e2' h2 ∧ e2'.set i none = e2.set i none
  | _ => True
section
variable {i : Nat}
theorem un_c {d : D} : Un i fun _ => mC d := fun _ _ _ => rfl
theorem un_nil : Un i fun _ => mNil := fun _ _ _ => rfl
theorem un_noP : Un i fun _ => mNoP := fun _ _ _ => rfl
theorem un_var {j : Nat} (hj : j ≠ i) : Un i fun _ => mVar j := fun a a' e => by
  show mVar j (e.set i (some (.exn a))) = mVar j (e.set i (some (.exn a')))
  unfold mVar
  try dsimp only
  rw [List.getElem?_set_ne (Ne.symm hj), List.getElem?_set_ne (Ne.symm hj)]
theorem un_isE {b : Option Bool} : Un i fun a => mExIs a b (mVar i) := fun a a' e => by
  funext h
  show mExIs a b (mVar i) (e.set i (some (.exn a))) h = mExIs a' b (mVar i) (e.set i (some (.exn a'))) h
  unfold mExIs mVar
  try dsimp only
  by_cases hi : i < e.length
  · rw [List.getElem?_set_self hi, List.getElem?_set_self hi]
    cases b <;> simp [Res.bind]
  · rw [List.getElem?_eq_none (by simp; omega), List.getElem?_eq_none (by simp; omega)]
    rfl
theorem un_op {f : D → D → LH → Res D} {x y : Addr → M D} (hx : Un i x) (hy : Un i y) : Un i fun a => mOp f (x a) (y a) := fun a a' e => by
  show (fun h => (x a (e.set i (some (.exn a))) h).bind fun u h1 => (y a (e.set i (some (.exn a))) h1).bind fun v h2 => f u v h2) = _
  rw [hx a a' e, hy a a' e]
  rfl
theorem un_un {f : D → LH → Res D} {x : Addr → M D} (hx : Un i x) : Un i fun a => mUn f (x a) := fun a a' e => by
  show (fun h => (x a (e.set i (some (.exn a))) h).bind fun u h1 => f u h1) = _
  rw [hx a a' e]
  rfl
theorem un_cons {x : Addr → M D} {y : Addr → M (List D)} (hx : Un i x) (hy : Un i y) : Un i fun a => mCons (x a) (y a) := fun a a' e => by
  show (fun h => (x a (e.set i (some (.exn a))) h).bind fun u h1 => (y a (e.set i (some (.exn a))) h1).bind fun v h2 => .ok (u :: v) h2) = _
  rw [hx a a' e, hy a a' e]
  rfl
theorem un_app {f : MF} {y : Addr → M (List D)} (hy : Un i y) : Un i fun a => mApp f (y a) := fun a a' e => by
  show (fun h => (y a (e.set i (some (.exn a))) h).bind fun v h2 => f v h2) = _
  rw [hy a a' e]
  rfl
theorem un_tup {y : Addr → M (List D)} (hy : Un i y) : Un i fun a => mTup (y a) := fun a a' e => by
  show mTup (y a) (e.set i (some (.exn a))) = mTup (y a') (e.set i (some (.exn a')))
  unfold mTup
  try dsimp only
  rw [hy a a' e]
theorem un_lst {y : Addr → M (List D)} (hy : Un i y) : Un i fun a => mLst (y a) := fun a a' e => by
  show mLst (y a) (e.set i (some (.exn a))) = mLst (y a') (e.set i (some (.exn a')))
  unfold mLst
  try dsimp only
  rw [hy a a' e]
theorem un_and {x y : Addr → M D} (hx : Un i x) (hy : Un i y) : Un i fun a => mAnd (x a) (y a) := fun a a' e => by
  show mAnd (x a) (y a) (e.set i (some (.exn a))) = mAnd (x a') (y a') (e.set i (some (.exn a')))
  unfold mAnd
  try dsimp only
  rw [hx a a' e, hy a a' e]
theorem un_or {x y : Addr → M D} (hx : Un i x) (hy : Un i y) : Un i fun a => mOr (x a) (y a) := fun a a' e => by
  show mOr (x a) (y a) (e.set i (some (.exn a))) = mOr (x a') (y a') (e.set i (some (.exn a')))
  unfold mOr
  try dsimp only
  rw [hx a a' e, hy a a' e]
theorem un_not {x : Addr → M D} (hx : Un i x) : Un i fun a => mNot (x a) := fun a a' e => by
  show mNot (x a) (e.set i (some (.exn a))) = mNot (x a') (e.set i (some (.exn a')))
  unfold mNot
  try dsimp only
  rw [hx a a' e]
theorem un_tst {x : Addr → M D} (hx : Un i x) : Un i fun a => mTst (x a) := fun a a' e => by
  show mTst (x a) (e.set i (some (.exn a))) = mTst (x a') (e.set i (some (.exn a')))
  unfold mTst
  try dsimp only
  rw [hx a a' e]
theorem un_tru {x : Addr → M D} (hx : Un i x) : Un i fun a => mTru (x a) := fun a a' e => by
  show mTru (x a) (e.set i (some (.exn a))) = mTru (x a') (e.set i (some (.exn a')))
  unfold mTru
  try dsimp only
  rw [hx a a' e]
theorem un_tNot {x : Addr → M Bool} (hx : Un i x) : Un i fun a => mTNot (x a) := fun a a' e => by
  show mTNot (x a) (e.set i (some (.exn a))) = mTNot (x a') (e.set i (some (.exn a')))
  unfold mTNot
  try dsimp only
  rw [hx a a' e]
theorem un_tAnd {x y : Addr → M Bool} (hx : Un i x) (hy : Un i y) : Un i fun a => mTAnd (x a) (y a) := fun a a' e => by
  show mTAnd (x a) (y a) (e.set i (some (.exn a))) = mTAnd (x a') (y a') (e.set i (some (.exn a')))
  unfold mTAnd
  try dsimp only
  rw [hx a a' e, hy a a' e]
theorem un_tOr {x y : Addr → M Bool} (hx : Un i x) (hy : Un i y) : Un i fun a => mTOr (x a) (y a) := fun a a' e => by
  show mTOr (x a) (y a) (e.set i (some (.exn a))) = mTOr (x a') (y a') (e.set i (some (.exn a')))
  unfold mTOr
  try dsimp only
  rw [hx a a' e, hy a a' e]
theorem un_isI {b : BT} {x : Addr → M D} (hx : Un i x) : Un i fun a => mIsI b (x a) := fun a a' e => by
  show mIsI b (x a) (e.set i (some (.exn a))) = mIsI b (x a') (e.set i (some (.exn a')))
  unfold mIsI
  try dsimp only
  rw [hx a a' e]
theorem un_ret {x : Addr → M D} (hx : Un i x) : UnS i fun a => sRet (x a) := fun a a' e h => by
  show match sRet (x a) (e.set i (some (.exn a))) h with
    | .ret d h2 => sRet (x a') (e.set i (some (.exn a'))) h = .ret d h2
    | .next e2 h2 => ∃ e2', sRet (x a') (e.set i (some (.exn a'))) h = .next e2' h2 ∧ e2'.set i none = e2.set i none
    | .cnt e2 h2 => ∃ e2', sRet (x a') (e.set i (some (.exn a'))) h = .cnt e2' h2 ∧ e2'.set i none = e2.set i none
    | _ => True
  have := hx a a' e
  unfold sRet rsBind
  try dsimp only
  rw [this]
  cases x a' (e.set i (some (.exn a'))) h <;> simp
end
/-- an own class of errors asked by isinstance -/
def KtOk (K : PySem.W.Frag) (mg : Str → Option Value) (y : String) (mt : String → Option Bool) : Prop := ∀ x b, mt x = some b → ∃ C D, mg (Str.ofString x) = some (.ref C) ∧ mg (Str.ofString y) = some (.ref D) ∧ PySem.W.kitOne K (.ref C) (.ref D) = some b ∧ ExcC K C
section
variable {X : Cx} {W : WX}
theorem qe_isE {a C0 : Addr} {oe : Obj} {pn : List (Addr × Obj)} {e : Expr} {ma : M D} {x y : String} {mt : String → Option Bool} {p p2 pos : Pos} (k : KtOk X.K X.mg y mt) (gx : X.mg (Str.ofString x) = some (.ref C0)) (hz : Zc (.ref C0) none oe) (hf : ∃ vs, oe.data = .fields vs)
    (he : QE (X.suite a ((a, oe) :: pn)) W e ma) (hg : Gl (X.suite a ((a, oe) :: pn)) "isinstance") (hm : X.mg "isinstance" = none) (hg2 : Gl (X.suite a ((a, oe) :: pn)) (Str.ofString y)) (gy : ∃ D, X.mg (Str.ofString y) = some (.ref D)) (hdb2 : (Str.ofString y == ("__debug__" : Str)) = false := by decide +kernel)
    (hs1 : starEach [e, .Name (Str.ofString y) p2] X.env = (false, eval e X.env) :: starEach [.Name (Str.ofString y) p2] X.env := by rfl)
    (hs2 : starEach [.Name (Str.ofString y) p2] X.env = (false, eval (.Name (Str.ofString y) p2) X.env) :: starEach [] X.env := by rfl)
    (hpl : (backTo pos (starEach [.Name (Str.ofString y) p2] X.env)).any (·.1) = false := by rfl) :
    QE (X.suite a ((a, oe) :: pn)) W (.Call (.Name "isinstance" p) [e, .Name (Str.ofString y) p2] [] pos) (mExIs a (mt x) ma) := by
  obtain ⟨D0, gy⟩ := gy
  cases em : mt x with
  | none =>
    have pb : PE (X.suite a ((a, oe) :: pn)) (.Name (Str.ofString y) p2) (tC (.ref D0)) := pe_glob hg2 gy rfl hdb2
    refine qe_of (pe_callB (X := X.suite a ((a, oe) :: pn)) (r := fun _ _ _ => False) (fun _ _ _ _ _ _ _ _ _ h => h.elim) hg hm (show bootBuiltins "isinstance" = some (.builtin "isinstance") by decide +kernel) (pa_cons he (pa_cons pb pa_nil hs2) hs1) (he := hs1) (hpl := hpl)) fun σ φ env lh H Q h1 h2 q => ?_
    refine rd_of h1 h2 (wp_step q fun d lh1 φ1 v H1 p1 r1 q1 => ?_)
    cases d <;> exact q1.elim
  | some b =>
    obtain ⟨C1, D1, gx1, gy1, hk, ec⟩ := k x b em
    rw [gx] at gx1
    rw [gy] at gy1
    cases gx1
    cases gy1
    have pb : PE (X.suite a ((a, oe) :: pn)) (.Name (Str.ofString y) p2) (tC (.ref D0)) := pe_glob hg2 gy rfl hdb2
    refine qe_of (pe_callB (call_isE ec hz hf) hg hm (by decide +kernel) (pa_cons he (pa_cons pb pa_nil hs2) hs1) (he := hs1) (hpl := hpl)) fun σ φ env lh H Q h1 h2 q => ?_
    refine rd_of h1 h2 (wp_step q fun d lh1 φ1 v H1 p1 r1 q1 => ?_)
    cases d with
    | exn a' =>
      cases r1
      dsimp only at q1
      by_cases c : a' = a
      · subst c
        rw [if_pos rfl] at q1
        exact ⟨.ref D0, .ref D0, b, rfl, fun u r => by cases r; rfl, hk, wp_ok q1 (.refl p1.hr) (.bl _)⟩
      · rw [if_neg c] at q1
        exact q1.elim
    | _ => exact q1.elim
theorem qs_tryAs {body : List Stmt} {mb : MS} {mt : String → Option Bool} {y : String} {C : Addr} {n : Str} {i : Nat} {b₀ : Stmt} {suite : List Stmt} {ms : XO → Addr → MS} {np pos' pos : Pos} (hs : X.stack = X.env :: X.outer) (hf : X.env.frame = some X.env.locals) (tk : Takes X W) (hN : X.N.Nodup) (hi : X.N[i]? = some n) (hln : X.env.kindOf n = some .local)
    (hb : ∀ (W' : WX) (pn : List (Addr × Obj)) (xe : Value → Shared → Prop), Takes (X.tr pn xe) W' → PassesOwn (model X.prog X.w) X.A X.env xe → QSs (X.tr pn xe) W' body mb)
    (gC : X.mg (Str.ofString y) = some (.ref C)) (hg : Gl X (Str.ofString y)) (hm : MtOk X.K X.mg y mt)
    (hsu : ∀ (a : Addr) (oe : Obj) (pn : List (Addr × Obj)) (x : XO) (C0 : Addr), X.mg (Str.ofString x.cls) = some (.ref C0) → Zc (.ref C0) none oe → (∃ vs, oe.data = .fields vs) → QSs (X.suite a ((a, oe) :: pn)) W0 (b₀ :: suite) (ms x a))
    (un : ∀ x, UnS i (ms x)) (hdb : (Str.ofString y == ("__debug__" : Str)) = false := by decide +kernel) :
    QS X W (.Try body [.ExceptHandler (some (.Name (Str.ofString y) np)) (some n) (b₀ :: suite) pos'] [] [] pos) (sTryAs mb mt i ms) := by
  refine psI (ps_try_as (tb := fun W' => rdS X.K X.mg W' mb) (ts := fun a cls d D σ H => ∃ x C0, X.mg (Str.ofString x.cls) = some (.ref C0) ∧ cls = .ref C0 ∧ d = none ∧ rdS X.K X.mg W0 (ms x a) D σ H) hs hf hN hi hln ⟨hg, hdb, .inl gC⟩ tk hb (fun a oe cls d pn hz hfl => ⟨fun pins s σ H D I ⟨x, C0, h1, h2, h3, h4⟩ => by
    subst h2 h3
    exact (hsu a oe pn x C0 h1 hz hfl).run pins s σ H D I h4⟩)) fun D σ H ⟨φ, env, lh, h1, h2, q⟩ => ?_
  refine ⟨φ, env, lh, h1, h2, ?_⟩
  unfold sTryAs at q
  revert q
  cases mb env lh with
  | next e2 l2 => exact fun q => q
  | ret d l2 => exact fun q => q
  | brk e2 l2 => exact fun q => q
  | cnt e2 l2 => exact fun q => q
  | bad => exact fun q => q
  | exc x e1 lh1 =>
    intro q φ1 cls dd σ1 H1 p er rs
    dsimp only at q
    obtain ⟨C1, hC1, hc1, hd1, _⟩ := er
    cases em : mt x.cls with
    | none => rw [em] at q; exact q.elim
    | some b =>
      obtain ⟨C2, D2, hC2, hD2, hx⟩ := hm _ _ em
      rw [hC1] at hC2
      rw [gC] at hD2
      cases hC2
      cases hD2
      subst hc1
      refine ⟨b, hx, fun hb' a _ => ?_, fun hb' => ?_⟩
      · subst hb'
        rw [em] at q
        cases fl : x.flds with
        | cons f fs => rw [fl] at q; exact q.elim
        | nil =>
          rw [fl] at q
          refine ⟨x, C1, hC1, rfl, hd1 fl, φ1, e1.set i (some (.exn a)), lh1, p.hr, rs.set (.exn a) i, ?_⟩
          have u := un x 0 a e1 lh1
          dsimp only at q
          revert q u
          cases ms x 0 (e1.set i (some (.exn 0))) lh1 with
          | ret d h2 =>
            intro q u
            dsimp only at u q
            rw [u]
            exact fun φ' v H' p' r' => q φ' v H' (p.trans p') r'
          | next e2 h2 =>
            rintro q ⟨e2', ue, us⟩
            dsimp only at q
            rw [ue]
            exact fun φ' σ' H' p' r' => q φ' _ H' (p.trans p') (by rw [← us]; exact r'.clear i)
          | cnt e2 h2 =>
            rintro q ⟨e2', ue, us⟩
            dsimp only at q
            rw [ue]
            exact fun φ' σ' H' p' r' => q φ' _ H' (p.trans p') (by rw [← us]; exact r'.clear i)
          | brk e2 h2 => intro q; exact q.elim
          | exc z e2 h2 => intro q; exact q.elim
          | bad => intro q; exact q.elim
      · subst hb'
        rw [em] at q
        cases fl : x.flds with
        | nil =>
          rw [fl] at q
          exact q φ1 (.ref C1) dd σ1 H1 p ⟨C1, hC1, rfl, hd1, by assumption⟩ rs
        | cons f fs =>
          rw [fl] at q
          exact q φ1 (.ref C1) dd σ1 H1 p ⟨C1, hC1, rfl, hd1, by assumption⟩ rs
end
end HM
set_option Elab.async false
set_option linter.all false
set_option maxRecDepth 100000
set_option maxHeartbeats 4000000
namespace HM
open PySem L2 PySem.Spec PyProof.Rows
/-! ### {}, tuple(range(n)) -/
def mDict0 : M D := fun _ h => .ok (.ref h.length) (h ++ [.dK []])
def mTRg (a : M D) : M D := fun e h => (a e h).bind fun x h1 => match x with
  | .int j => if -(2 ^ 62) ≤ j ∧ j < 2 ^ 62 ∧ j.toNat ≤ 2 ^ 24 then .ok (.tup (rgD 0 j)) h1 else .bad
  | _ => .bad
section
variable {X : Cx} {W : WX}
theorem qe_dict0 {pos : Pos} : QE X W (.Dict [] [] pos) mDict0 := by
  refine qe_of pe_dnewK fun σ φ env lh H Q h1 h2 q => ?_
  exact fun p hp => wp_new q h1 hp ⟨[], upd_same, .nil⟩
theorem qe_tupRg {a : Expr} {ma : M D} {p p2 pos pos2 : Pos} (hc : X.calm = true) (hg : Gl X "tuple") (hm : X.mg "tuple" = none) (hg2 : Gl X "range") (hm2 : X.mg "range" = none) (ha : QE X W a ma)
    (na : starEach [.Call (.Name "range" p2) [a] [] pos2] X.env = (false, eval (.Call (.Name "range" p2) [a] [] pos2) X.env) :: starEach [] X.env := by rfl)
    (nb : starEach [a] X.env = (false, eval a X.env) :: starEach [] X.env := by rfl) :
    QE X W (.Call (.Name "tuple" p) [.Call (.Name "range" p2) [a] [] pos2] [] pos) (mTRg ma) := by
  refine qe_of (pe_tupRg hc hg hm (prg_1 hg2 hm2 ha nb) na) fun σ φ env lh H Q h1 h2 q => ?_
  refine rd_of h1 h2 (wp_step q fun x lh1 φ1 v H1 p1 r1 q1 => ?_)
  split at q1
  · cases r1
    split at q1
    · rename_i j c
      exact ⟨j, rfl, ⟨by decide, by decide, c.1, c.2.1, by simpa using c.2.2⟩, fun z hz => wp_newT q1 p1.hr hz (rgD_rel 0 j)⟩
    · exact q1.elim
  · exact q1.elim
end
end HM
set_option Elab.async false
set_option linter.all false
set_option maxRecDepth 100000
set_option maxHeartbeats 4000000
namespace HM
open PySem L2 PySem.Spec PyProof.Rows
/-! ### tuple * 0, tuple * 1 -/
theorem tuple_mul1 (l : Addr) (items : Array Value) (n : Nat) (dd : Option Addr) (sl : Array (Option Value)) (x : Int) (u : Tok) (c0 : (decide (x < -(2 ^ 63)) || decide (x ≥ 2 ^ 63)) = false) (c1 : (items.isEmpty || x == 1) = true) :
    Meets (Builtin.«tuple.__mul__» ⟨[.ref l, .int x u], []⟩) (fun _ R s => s.heap.get? l = some { cls := .type "tuple", dict := dd, data := .seq items n, slots := sl } ∧ R (.ok (.ret (Value.ref l))) s) :=
  .of_wp fun prog w A R s h => by
    obtain ⟨hp, g, d, tk, os⟩ := s
    obtain ⟨hl, h⟩ := h
    have f1 := AutoSeq1.idx_int
    wp_walk using wpAny_loadPart' hl
    repeat (first
      | (refine wpAny_ite_false (decide_eq_false (by rw [c0]; exact Bool.false_ne_true)) ?_; wp_walk using wpAny_loadPart' hl)
      | (refine wpAny_ite_true (decide_eq_true c1) ?_; wp_walk using wpAny_loadPart' hl))
    exact ⟨_, rfl, h⟩
theorem tuple_mul0 (l : Addr) (items : Array Value) (n : Nat) (dd : Option Addr) (sl : Array (Option Value)) (x : Int) (u : Tok) (c0 : (decide (x < -(2 ^ 63)) || decide (x ≥ 2 ^ 63)) = false) (c1 : (items.isEmpty || x == 1) = false) (c2 : (decide (x ≤ 0) || items.isEmpty) = true) :
    Meets (Builtin.«tuple.__mul__» ⟨[.ref l, .int x u], []⟩) (fun _ R s => s.heap.get? l = some { cls := .type "tuple", dict := dd, data := .seq items n, slots := sl } ∧
      R (.ok (.ret (Value.ref s.heap.objs.size))) { s with heap := s.heap.push { cls := Value.type "tuple", data := Data.seq #[] }, toks := s.toks }) :=
  .of_wp fun prog w A R s h => by
    obtain ⟨hp, g, d, tk, os⟩ := s
    obtain ⟨hl, h⟩ := h
    have f1 := AutoSeq1.idx_int
    wp_walk using wpAny_loadPart' hl
    repeat (first
      | (refine wpAny_ite_false (decide_eq_false (by rw [c0]; exact Bool.false_ne_true)) ?_; wp_walk using wpAny_loadPart' hl)
      | (refine wpAny_ite_false (decide_eq_false (by rw [c1]; exact Bool.false_ne_true)) ?_; wp_walk using wpAny_loadPart' hl)
      | (refine wpAny_ite_true (decide_eq_true c2) ?_; wp_walk using wpAny_loadPart' hl))
    exact ⟨_, rfl, h⟩
def rRep01 (K : PySem.W.Frag) : R2 := fun x y H Q => ∃ l k xs, x = .ref l ∧ y = .int k ∧ SqT K H l xs ∧ xs ≠ [] ∧ ((k = 1 ∧ Q (.ref l) H) ∨ (k = 0 ∧ ∀ p, H p = none → Q (.ref p) (upd H p (.tup []))))
section
variable {X : Cx}
theorem op_rep01 : OpR X (binaryOp .Mult) (rRep01 X.K) := by
  intro pins s σ H x y v u Q I rx ry h
  obtain ⟨l, k, xs, rfl, rfl, hT, hne, q⟩ := h
  cases rx
  obtain ⟨t, rfl⟩ := ry
  obtain ⟨its, r, ⟨⟨cls, dd, data, sl⟩, ho, hc, n, hd⟩, hs⟩ := I.tuple hT
  simp only at hc hd
  subst hc hd
  have hle : its.length = xs.length := r.length.symm
  have hn : its ≠ [] := fun e => hne (by
    rw [e] at hle
    exact List.eq_nil_of_length_eq_zero hle.symm)
  have hi : its.toArray.isEmpty = false := by
    cases its with
    | nil => exact absurd rfl hn
    | cons a b => rfl
  rcases q with ⟨rfl, q⟩ | ⟨rfl, q⟩
  · refine wpAny_binaryOp_repeat_ref (T := "tuple") (U := "int") (by decide) ⟨_, ho, rfl⟩ (fun s' => typeIs_int s' 1 t) noFill_tuple_mul F.fills_int_mul F.slot_int_rmul repeat_tuple F.slot_int_index.lookup
      (call_meets F.slot_int_rmul (typeIs_int s 1 t) F.entry_int_rmul (F.args_int_rmul_2 _ _) (int_rmul_tuple 1 t l its.toArray n dd sl)
        ⟨ho, rfl, ⟨_, ho, rfl⟩, call_meets F.slot_tuple_mul ⟨_, ho, rfl⟩ F.entry_tuple_mul (F.args_tuple_mul_2 _ _) (tuple_mul1 l its.toArray n dd sl 1 t (by decide) (by simp)) ⟨ho, ?_⟩⟩)
    exact ⟨.ref l, H, I, rfl, q⟩
  · refine wpAny_binaryOp_repeat_ref (T := "tuple") (U := "int") (by decide) ⟨_, ho, rfl⟩ (fun s' => typeIs_int s' 0 t) noFill_tuple_mul F.fills_int_mul F.slot_int_rmul repeat_tuple F.slot_int_index.lookup
      (call_meets F.slot_int_rmul (typeIs_int s 0 t) F.entry_int_rmul (F.args_int_rmul_2 _ _) (int_rmul_tuple 0 t l its.toArray n dd sl)
        ⟨ho, rfl, ⟨_, ho, rfl⟩, call_meets F.slot_tuple_mul ⟨_, ho, rfl⟩ F.entry_tuple_mul (F.args_tuple_mul_2 _ _) (tuple_mul0 l its.toArray n dd sl 0 t (by decide) (by rw [hi]; decide) (by simp)) ⟨ho, ?_⟩⟩)
    refine ⟨.ref s.heap.objs.size, _, I.laid (t' := s.toks) (o := .tup []) (fun b ob q => Heap.get?_push_of_some _ q) (Nat.le_refl _) ?_, rfl, q _ (I.hok.fresh (Nat.le_refl _))⟩
    exact ⟨by simp, _, .nil, IsTup.new _ _⟩
/-- tuple * int of any small number -/
def dMulT : D → D → LH → Res D
  | .tup xs, .int k, h => if xs ≠ [] ∧ 0 ≤ k ∧ k ≤ 1000 ∧ xs.length ≤ 1000 then .ok (.tup (List.replicate k.toNat xs).flatten) h else .bad
  | _, _, _ => .bad
theorem opm_mulT : OpM X (binaryOp .Mult) dMulT := by
  refine ⟨_, (op_repT (X := X)).or op_rep01, fun W σ φ lh H x y v w Q hr rx ry q => ?_⟩
  unfold dMulT at q
  split at q
  · rename_i xs k
    split at q
    · rename_i c
      obtain ⟨a, vs, rfl, hq, rs⟩ := rx.tup_inv
      cases ry
      have hne : vs ≠ [] := by
        intro z
        subst z
        have := rs.len
        simp at this
        exact c.1 this
      by_cases c2 : 2 ≤ k
      · exact .inl ⟨a, k, vs, rfl, rfl, hq, hne, c2, c.2.2.1, by rw [← rs.len]; exact c.2.2.2, fun p hp => wp_newT q hr hp (rs.rep _)⟩
      · refine .inr ⟨a, k, vs, rfl, rfl, hq, hne, ?_⟩
        by_cases c1 : k = 1
        · refine .inl ⟨c1, ?_⟩
          subst c1
          have e : (List.replicate (1 : Int).toNat xs).flatten = xs := by simp
          rw [e] at q
          exact wp_ok q (.refl hr) rx
        · have c0 : k = 0 := by omega
          subst c0
          have e : (List.replicate (0 : Int).toNat xs).flatten = [] := by simp
          rw [e] at q
          exact .inr ⟨rfl, fun p hp => wp_newT q hr hp .nil⟩
    · exact q.elim
  · exact q.elim
end
end HM
set_option Elab.async false
set_option linter.all false
set_option maxRecDepth 100000
set_option maxHeartbeats 4000000
namespace HM
open PySem L2 PySem.Spec PyProof.Rows
/-! ### defs whose errors have no context (they may be caught by a suite that raises) -/
structure CalMN (P : Program) (w : World) (K : PySem.W.Frag) (mg : Str → Option Value) (base : Heap) (k : Nat) (x : String) (f : MF) : Prop where
  ex : ∃ fa fd ps, mg (Str.ofString x) = some (.ref fa) ∧ PySem.W.keepIn K (.ref fa) = true ∧ Binds K fd ps [] ∧ FnOk P w K mg base (L2N.CX P w) k fa fd ps (spM K mg f)
theorem cx_imp {P : Program} {w : World} {outer : List Env} {H : Hp} {s s' : Shared} {E : XK} {u : Value} (c : L2N.CX P w outer H s E u s') : L2.CX P w outer H s E u s' := by
  obtain ⟨a, B, H', cls, d, e1, fl, r⟩ := c
  exact ⟨a, B, H', cls, d, e1, L2H.flyingZ_imp (fun o h => L2N.Zn.zc h) fl, r⟩
theorem CalMN.mono {P : Program} {w : World} {K : PySem.W.Frag} {mg : Str → Option Value} {base : Heap} {k k' : Nat} {x : String} {f : MF} (c : CalMN P w K mg base k x f) (h : k ≤ k') : CalMN P w K mg base k' x f := by
  obtain ⟨fa, fd, ps, h1, h2, h3, h4⟩ := c.ex
  exact ⟨fa, fd, ps, h1, h2, h3, h4.mono h⟩
section
variable {X : Cx} {W : WX} {e a b c : Expr} {es : List Expr} {pos : Pos} {ma mb : M D} {mas : M (List D)}
theorem qe_callN {k : Nat} {x : String} {f : MF} {p : Pos} (C : CalMN X.prog X.w X.K X.mg X.base k x f) (hr : Room k X.A) (tk : L2N.Takes X W) (hg : Gl X (Str.ofString x)) (ha : QA X W (e :: es) mas)
    (hdb : (Str.ofString x == ("__debug__" : Str)) = false := by decide) (he : starEach (e :: es) X.env = (false, eval e X.env) :: starEach es X.env := by rfl) (hpl : (backTo pos (starEach es X.env)).any (·.1) = false := by rfl) :
    QE X W (.Call (.Name (Str.ofString x) p) (e :: es) [] pos) (mApp f mas) := by
  obtain ⟨fa, fd, ps, h1, h2, h3, h4⟩ := C.ex
  refine qe_of (pe_callS h4 hr hg h1 h2 h3 (fun σ => L2N.passAt tk σ) ha hdb he hpl) fun σ φ env lh H Q g1 g2 q => ?_
  refine rd_of g1 g2 (wp_step q fun xs lh1 φ1 vs H1 p1 r1 q1 => ?_)
  exact ⟨φ1, lh1, xs, p1.hr, r1, q1⟩
theorem qs_raiseN {x : String} {C : Addr} {m : Str} {j : Nat} {p p2 pos pos' : Pos} (hc : X.calm = true) (tk : L2N.Takes X W) (T : XC X.K X.mg x C) (hg : Gl X (Str.ofString x)) (hdb : (Str.ofString x == ("__debug__" : Str)) = false := by decide +kernel) :
    QS X W (.Raise (some (.Call (.Name (Str.ofString x) p) [.Constant (.str m) j p2] [] pos)) none pos') (sRaise x) :=
  psI (L2N.ps_raise hc tk (L2N.pmk_own PySem.F.excBase_ValueError T.ex T.gC T.kC (raises_own T.bC T.tC) hg hdb)) fun D σ H ⟨φ, env, lh, h1, h2, q⟩ =>
    q φ (.ref C) none σ H (.refl h1) ⟨C, T.gC, rfl, fun _ => rfl, fun z => absurd rfl z⟩ h2
end
/-- a call's frame, for any kind of errors -/
theorem okMC {CX : CXT} {P : Program} {w : World} {K : PySem.W.Frag} {mg : Str → Option Value} {base : Heap} {x qual : Str} {st : Stmt} {f : Addr} {fd : FuncData} {N ps : List Str} {k : Nat} {m : MS} (F : Fun K x qual st f fd) (S : FnScope N ps (defScope st))
    (hb : ∀ (cdv : Value) (A : Around) (outer : List Env) (s : Shared) (H : Hp) (E : XK), Room k (A.deeper (envOfC qual (defScope st) s.heap.objs.size f cdv)) →
      QSs (cxOf CX P w K mg base N qual (defScope st) f cdv A outer s H E) (fun c d _ H => E c d H) (defBody st) m) :
    FnOk P w K mg base CX (k + 1) f fd ps (spM K mg (mkF ps.length N.length m)) := by
  have key : ∀ vs H Q E, spM K mg (mkF ps.length N.length m) vs H Q E → vs.length = ps.length := by
    rintro vs H Q E ⟨φ, lh, ds, h1, h2, q⟩
    unfold mkF at q
    by_cases c : ds.length = ps.length
    · rw [← h2.len]; exact c
    · rw [if_neg c] at q
      exact q.elim
  obtain ⟨oc, od, kV, doc, pm, an, cdv, ct, osl, rfl, lk, hcd⟩ := F.ex
  refine fn_of lk hcd S key fun A outer s H vs Q E hr hsp => ⟨_, hb cdv A outer s H E hr, ?_⟩
  have hl := key _ _ _ _ hsp
  obtain ⟨φ, lh, ds, h1, h2, q⟩ := hsp
  have hd : ds.length = ps.length := by rw [h2.len]; exact hl
  have rs : RS K φ lh.length H (ds.map some ++ List.replicate (N.length - ps.length) none) (L2.start N vs) := by
    have e1 : vs.length = ds.length := h2.len.symm
    refine ⟨by unfold L2.start; simp [h2.len, hl], fun i d hi => ?_⟩
    have hlt : i < ds.length := by
      rcases Nat.lt_or_ge i ds.length with c | c
      · exact c
      · rw [List.getElem?_append_right (by simpa using c)] at hi
        rw [List.getElem?_replicate] at hi
        split at hi <;> simp at hi
    rw [List.getElem?_append_left (by simpa using hlt)] at hi
    have hi' : ds[i]? = some d := by
      rw [List.getElem?_map] at hi
      cases z : ds[i]? with
      | none => rw [z] at hi; simp at hi
      | some y => rw [z] at hi; simp at hi; rw [hi]
    obtain ⟨v, ev, r⟩ := h2.get hi'
    refine ⟨v, ?_, r⟩
    show (vs.map some ++ _)[i]? = _
    rw [List.getElem?_append_left (by simp; omega), List.getElem?_map, ev]
    rfl
  refine ⟨φ, _, lh, h1, rs, ?_⟩
  unfold mkF at q
  rw [if_pos hd] at q
  show wps K mg _ (m (ds.map some ++ List.replicate (N.length - ps.length) none) lh) φ lh H _
  revert q
  cases m (ds.map some ++ List.replicate (N.length - ps.length) none) lh with
  | next e h => exact fun q φ' σ' H' p _ => q φ' _ H' p .non
  | ret d h => exact fun q φ' v H' p r => q φ' v H' p r
  | exc x e h => exact fun q φ' cls dd σ' H' p r _ => q φ' cls dd H' p r
  | brk e h => exact fun q => q.elim
  | cnt e h => exact fun q => q.elim
  | bad => exact fun q => q.elim
end HM
set_option Elab.async false
set_option linter.all false
set_option maxRecDepth 100000
set_option maxHeartbeats 4000000
namespace HM
open PySem L2 PySem.Spec PyProof.Rows
/-! ### try: .. except Y: raise Z('..') from None -/
theorem pmk5_own {X : Cx} {C : Addr} {bmB : List Value} {B newId initId : String} {x m : Str} {j : Nat} {p p2 pos : Pos} (F : ExcBaseFacts B newId initId bmB) (q : PySem.W.excIn X.K C bmB newId = true) (gC : X.mg x = some (.ref C)) (kC : PySem.W.keepIn X.K (.ref C) = true) (r : Raises X (.ref C)) (hg : Gl X x)
    (hdb : (x == ("__debug__" : Str)) = false := by decide) : L2H.PMk5 X (.Call (.Name x p) [.Constant (.str m) j p2] [] pos) (fun _ H Q => Q (.ref C) none H) := by
  intro pins s σ H Q I h
  refine wpAny_Call_Name_kw (ld_glob I hg gC ?_ hdb)
  have ha : PA X [.Constant (.str m) j p2] (tCons (tC (.str m)) tNil) := pa_cons pe_str pa_nil
  refine PySem.W.callWith_K (h₀ := X.base) I.ok.mod.kin kC (thn (ha.run pos pins s σ H (fun vs H1 => vs = [V.str m] ∧ H = H1) I ⟨rfl, rfl⟩) fun us s1 hh => ?_)
  obtain ⟨vs, H1, I1, r1, ev, eH⟩ := hh
  subst ev
  rw [← eH] at I1
  refine ⟨I1.kIn, ?_⟩
  cases r1 with
  | cons ru rn =>
    rename_i u us'
    cases rn
    show wpAny _ _ (call (.ref C) [u]) _ _ _
    obtain ⟨bm, N, nm, qn, bs, hdct, sn, sub, ab, col, dd, k0, k1, k2, k3, k5, mN, hC, hN, hni, T⟩ := exc_obj I1.kIn q
    refine wpAny_call_exc_subT F T hC hN hni (fun h' e hm => ?_) (by show 1 ≤ sizeLine; rw [sizeLine_eq]; omega)
    exact L2H.mk_of5 I1 hm r h (I1.hok.gone hm.new)
def sTryR (b : MS) (mt : String → Option Bool) (z : String) : MS := fun e h => match b e h with
  | .exc x e1 h1 => match mt x.cls with
    | some true => .exc ⟨z, []⟩ e1 h1
    | some false => .exc x e1 h1
    | none => .bad
  | r => r
section
variable {X : Cx} {W : WX}
theorem qs_tryR {body : List Stmt} {mb : MS} {mt : String → Option Bool} {y z : String} {C Cz : Addr} {m : Str} {j j2 : Nat} {np pos' pos p p2 p3 p4 cpos : Pos} (hs : X.stack = X.env :: X.outer) (hf : X.env.frame = some X.env.locals) (tk : Takes X W)
    (hpa : ∀ hd : Option Value, PassesOwnAt (model X.prog X.w) (X.A.mark hd) X.A X.env X.xe)
    (hb : ∀ (W' : WX) (pn : List (Addr × Obj)) (xe : Value → Shared → Prop), L2N.Takes (X.tr pn xe) W' → QSs (X.tr pn xe) W' body mb)
    (gC : X.mg (Str.ofString y) = some (.ref C)) (hg : Gl X (Str.ofString y)) (hm : MtOk X.K X.mg y mt)
    (T : XC X.K X.mg z Cz) (hgz : ∀ (a : Addr) (pn : List (Addr × Obj)), Gl (L2H.suiteX X a pn) (Str.ofString z)) (hdb : (Str.ofString y == ("__debug__" : Str)) = false := by decide +kernel) (hdbz : (Str.ofString z == ("__debug__" : Str)) = false := by decide +kernel) :
    QS X W (.Try body [.ExceptHandler (some (.Name (Str.ofString y) np)) none [.Raise (some (.Call (.Name (Str.ofString z) p) [.Constant (.str m) j p2] [] p3)) (some (.Constant .none j2 cpos)) p4] pos'] [] [] pos) (sTryR mb mt z) := by
  refine psI (L2H.ps_try_onlyX (tb := fun W' => rdS X.K X.mg W' mb) (ts := fun a cls d => rdS X.K X.mg W (sRaise z)) hs hf ⟨hg, hdb, .inl gC⟩ hpa tk (fun W' pn xe t _ _ => hb W' pn xe t) (fun a oe cls d pn hz hfl tk' hc => ?_)) fun D σ H ⟨φ, env, lh, h1, h2, q⟩ => ?_
  · have st : QS (L2H.suiteX X a ((a, oe) :: pn)) W (.Raise (some (.Call (.Name (Str.ofString z) p) [.Constant (.str m) j p2] [] p3)) (some (.Constant .none j2 cpos)) p4) (sRaise z) :=
      psI (L2H.ps_raiseHN hc tk' (pmk5_own PySem.F.excBase_ValueError T.ex T.gC T.kC (raises_own T.bC T.tC) (hgz a ((a, oe) :: pn)) hdbz)) fun D σ H ⟨φ, env, lh, h1, h2, q⟩ =>
        q φ (.ref Cz) none σ H (.refl h1) ⟨Cz, T.gC, rfl, fun _ => rfl, fun z => absurd rfl z⟩ h2
    exact qss_one st
  · refine ⟨φ, env, lh, h1, h2, ?_⟩
    unfold sTryR at q
    revert q
    cases mb env lh with
    | next e2 l2 => exact fun q => q
    | ret d l2 => exact fun q => q
    | brk e2 l2 => exact fun q => q
    | cnt e2 l2 => exact fun q => q
    | bad => exact fun q => q
    | exc x e1 lh1 =>
      intro q φ1 cls dd σ1 H1 p er rs
      dsimp only at q
      obtain ⟨C1, hC1, hc1, hd1, hx1⟩ := er
      cases em : mt x.cls with
      | none => rw [em] at q; exact q.elim
      | some b =>
        obtain ⟨C2, D2, hC2, hD2, hx⟩ := hm _ _ em
        rw [hC1] at hC2
        rw [gC] at hD2
        cases hC2
        cases hD2
        subst hc1
        refine ⟨b, hx, fun hb' a _ => ?_, fun hb' => ?_⟩
        · subst hb'
          rw [em] at q
          refine ⟨φ1, e1, lh1, p.hr, rs, ?_⟩
          exact fun φ' cls' dd' σ' H' p' er' rs' => q φ' cls' dd' σ' H' (p.trans p') er' rs'
        · subst hb'
          rw [em] at q
          exact q φ1 (.ref C1) dd σ1 H1 p ⟨C1, hC1, rfl, hd1, hx1⟩ rs
end
theorem CalMN.toM {P : Program} {w : World} {K : PySem.W.Frag} {mg : Str → Option Value} {base : Heap} {k : Nat} {x : String} {f : MF} (c : CalMN P w K mg base k x f) : CalM P w K mg base k x f := by
  obtain ⟨fa, fd, ps, h1, h2, h3, h4⟩ := c.ex
  refine ⟨fa, fd, ps, h1, h2, h3, h4.len, fun A outer s H args us vs Q E hr he hb hv hs => codeAny_mono (h4.run A outer s H args us vs Q E hr he hb hv hs) fun r s' q => ?_⟩
  cases r with
  | error e => exact cx_imp q
  | ok v => cases v <;> exact q
theorem okBadC {CX : CXT} {P : Program} {w : World} {K : PySem.W.Frag} {mg : Str → Option Value} {base : Heap} {x qual : Str} {st : Stmt} {f : Addr} {fd : FuncData} {N ps : List Str} {k : Nat} (F : Fun K x qual st f fd) (S : FnScope N ps (defScope st)) :
    FnOk P w K mg base CX (k + 1) f fd ps (spM K mg fun _ _ => .bad) :=
  ⟨fun vs H Q E ⟨φ, lh, ds, h1, h2, q⟩ => q.elim, fun A outer s H args us vs Q E hr he hb hv ⟨φ, lh, ds, h1, h2, q⟩ => q.elim⟩
end HM
set_option Elab.async false
set_option linter.all false
set_option maxRecDepth 100000
set_option maxHeartbeats 4000000
namespace HM
open PySem L2 PySem.Spec PyProof.Rows
/-! ### classes: fields, methods, instances made -/
theorem ofS_inj {a b : String} (h : Str.ofString a = Str.ofString b) : a = b := by
  rw [Str.ofString_eq_toList, Str.ofString_eq_toList] at h
  injection h with h
  have h2 : a.toList.map Char.toNat = b.toList.map Char.toNat := by simpa using h
  have h3 : a.toList = b.toList := (List.map_inj_right (fun x y e => Char.ext (UInt32.toNat_inj.mp e))).mp h2
  exact String.toList_inj.mp h3
def getF (f : String) : List (String × D) → Option D
  | [] => none
  | (g, x) :: r => if g = f then some x else getF f r
def putFD (f : String) (d : D) : List (String × D) → List (String × D)
  | [] => [(f, d)]
  | (g, x) :: r => if g = f then (g, d) :: r else (g, x) :: putFD f d r
section
variable {K : PySem.W.Frag} {mg : Str → Option Value} {φ φ' : Nat → Addr} {n n' : Nat} {H : Hp} {lh : LH}
theorem RF.len {ds : List (String × D)} {vs : List (Str × V)} (r : RF K φ n H ds vs) : ds.length = vs.length := by
  induction r with
  | nil => rfl
  | cons _ _ ih => simp [ih]
theorem look_pos {f g : String} {v : V} {vs : List (Str × V)} (h : g = f) : List.lookup (Str.ofString f) ((Str.ofString g, v) :: vs) = some v := by
  subst h
  simp [List.lookup]
theorem look_neg {f g : String} {v : V} {vs : List (Str × V)} (h : ¬ g = f) : List.lookup (Str.ofString f) ((Str.ofString g, v) :: vs) = List.lookup (Str.ofString f) vs := by
  have : (Str.ofString f == Str.ofString g) = false := beq_eq_false_iff_ne.mpr fun e => h (ofS_inj e).symm
  simp [List.lookup, this]
theorem RF.get {f : String} {d : D} {ds : List (String × D)} {vs : List (Str × V)} (r : RF K φ n H ds vs) (h : getF f ds = some d) : ∃ v, vs.lookup (Str.ofString f) = some v ∧ RD K φ n H d v := by
  induction r with
  | nil => cases h
  | @cons g d' v ds vs h1 _ ih =>
    unfold getF at h
    by_cases c : g = f
    · rw [if_pos c] at h
      cases h
      exact ⟨v, look_pos c, h1⟩
    · rw [if_neg c] at h
      obtain ⟨v', e, q⟩ := ih h
      exact ⟨v', by rw [look_neg c]; exact e, q⟩
theorem RF.gone {f : String} {ds : List (String × D)} {vs : List (Str × V)} (r : RF K φ n H ds vs) (h : getF f ds = none) : vs.lookup (Str.ofString f) = none := by
  induction r with
  | nil => rfl
  | @cons g d' v ds vs h1 _ ih =>
    unfold getF at h
    by_cases c : g = f
    · rw [if_pos c] at h; cases h
    · rw [if_neg c] at h
      rw [look_neg c]; exact ih h
theorem RF.put {f : String} {d : D} {v : V} {ds : List (String × D)} {vs : List (Str × V)} (r : RF K φ n H ds vs) (q : RD K φ n H d v) : RF K φ n H (putFD f d ds) (putF (Str.ofString f) v vs) := by
  induction r with
  | nil => exact .cons q .nil
  | @cons g d' v' ds vs h1 h2 ih =>
    unfold putFD putF
    by_cases c : g = f
    · rw [if_pos c, if_pos (by rw [c])]
      exact .cons q h2
    · rw [if_neg c, if_neg fun e => c (ofS_inj e)]
      exact .cons h1 ih
end
/-- a class of the text and a name that none of its classes has -/
structure FdK (K : PySem.W.Frag) (mg : Str → Option Value) (c f : String) : Prop where
  ex : ∃ C, mg (Str.ofString c) = some (.ref C) ∧ Cls K C ∧ NoAttr K C (Str.ofString f)
/-- a class's method -/
structure MeM (CX : CXT) (P : Program) (w : World) (K : PySem.W.Frag) (mg : Str → Option Value) (base : Heap) (k : Nat) (c m : String) (f : MF) : Prop where
  ex : ∃ C fa fd ps, mg (Str.ofString c) = some (.ref C) ∧ Cls K C ∧ Meth K C (Str.ofString m) fa ∧ Binds K fd ps [] ∧ FnOk P w K mg base CX k fa fd ps (spM K mg f)
/-- a class made by its __init__ -/
structure MkM (CX : CXT) (P : Program) (w : World) (K : PySem.W.Frag) (mg : Str → Option Value) (base : Heap) (k : Nat) (c : String) (f : MF) : Prop where
  ex : ∃ C fa fd ps, mg (Str.ofString c) = some (.ref C) ∧ Mk K C fa ∧ Binds K fd ps [] ∧ FnOk P w K mg base CX k fa fd ps (spM K mg f)
/-- the fields of an instance of the class -/
def insD (c : String) (x : D) (h : LH) : Option (Nat × List (String × D)) := match x with
  | .ref i => match h[i]? with
    | some (.ins c' fs) => if c' = c then some (i, fs) else none
    | _ => none
  | _ => none
theorem insD_inv {c : String} {x : D} {h : LH} {i : Nat} {fs : List (String × D)} (e : insD c x h = some (i, fs)) : x = .ref i ∧ h[i]? = some (.ins c fs) := by
  unfold insD at e
  split at e
  · split at e
    · rename_i j c' fs' ej
      split at e
      · rename_i c0
        cases e
        subst c0
        exact ⟨rfl, ej⟩
      · cases e
    · cases e
  · cases e
def fldD (c f : String) (x : D) (h : LH) : Res D := match insD c x h with
  | some (_, fs) => match getF f fs with
    | some d => .ok d h
    | none => .bad
  | none => .bad
def sFldSet (c f : String) (o v : M D) : MS := fun e h => rsBind (v e h) e fun y h1 => rsBind (o e h1) e fun x h2 => match insD c x h2 with
  | some (i, fs) => if fs.length < 1000 then .next e (h2.set i (.ins c (putFD f y fs))) else .bad
  | none => .bad
def sFldAug (g : Int → Int → Int) (c f : String) (o v : M D) : MS := fun e h => rsBind (o e h) e fun x h1 => match insD c x h1 with
  | some (i, fs) => match getF f fs with
    | some d => rsBind (v e h1) e fun y h2 => match d, y with
      | .int a, .int b => match h2[i]? with
        | some (.ins c' fs') => if c' = c ∧ fs'.length < 1000 then .next e (h2.set i (.ins c (putFD f (.int (g a b)) fs'))) else .bad
        | _ => .bad
      | _, _ => .bad
    | none => .bad
  | none => .bad
def mMeth (c m : String) (f : MF) (o : M D) (a : M (List D)) : M D := fun e h => (o e h).bind fun x h1 => match insD c x h1 with
  | some (_, fs) => match getF m fs with
    | none => (a e h1).bind fun xs h2 => f (x :: xs) h2
    | some _ => .bad
  | none => .bad
def mMake (c : String) (f : MF) (a : M (List D)) : M D := fun e h => (a e h).bind fun xs h1 => (f (.ref h1.length :: xs) (h1 ++ [.ins c []])).bind fun d h2 => match d with
  | .non => .ok (.ref h1.length) h2
  | _ => .bad
section
variable {X : Cx} {W : WX} {a o value : Expr} {e : Expr} {es : List Expr} {ma mo mv : M D} {mas : M (List D)} {pos pos' apos p tpos : Pos}
theorem insD_ok {K : PySem.W.Frag} {mg : Str → Option Value} {φ : Nat → Addr} {lh : LH} {H : Hp} {c : String} {x : D} {v : V} {i : Nat} {fs : List (String × D)} (hr : HR K mg φ lh H) (r : RD K φ lh.length H x v) (h : insD c x lh = some (i, fs)) :
    ∃ C dx vs, v = .ref (φ i) ∧ i < lh.length ∧ lh[i]? = some (.ins c fs) ∧ mg (Str.ofString c) = some (.ref C) ∧ H (φ i) = some (.ins C dx vs) ∧ RF K φ lh.length H fs vs := by
  obtain ⟨rfl, e⟩ := insD_inv h
  obtain ⟨rfl, hi⟩ := r.ref_inv
  obtain ⟨C, dx, vs, h1, h2, h3⟩ := hr.obj _ _ e
  exact ⟨C, dx, vs, rfl, hi, e, h1, h2, h3⟩
theorem qe_fld {c f : String} (T : FdK X.K X.mg c f) (ha : QE X W a ma) (hb : attributeBase a (Str.ofString f) X.env (eval a X.env) = eval a X.env := by rfl) : QE X W (.Attribute a (Str.ofString f) pos) (mUn (fldD c f) ma) := by
  obtain ⟨C, gC, cl, na⟩ := T.ex
  refine qe_of (pe_fld ha hb) fun σ φ env lh H Q h1 h2 q => ?_
  refine rd_of h1 h2 (wp_step q fun x lh1 φ1 v H1 p1 r1 q1 => ?_)
  unfold fldD at q1
  cases ei : insD c x lh1 with
  | none => rw [ei] at q1; exact q1.elim
  | some z =>
    obtain ⟨i, fs⟩ := z
    rw [ei] at q1
    dsimp only at q1
    obtain ⟨C', dx, vs, rfl, hi, _, gC', hH, rf⟩ := insD_ok p1.hr r1 ei
    rw [gC] at gC'
    cases gC'
    cases eg : getF f fs with
    | none => rw [eg] at q1; exact q1.elim
    | some d =>
      rw [eg] at q1
      obtain ⟨u, eu, ru⟩ := rf.get eg
      exact ⟨_, C, dx, vs, u, rfl, hH, cl, na, eu, wp_ok q1 (.refl p1.hr) ru⟩
theorem ins_put {K : PySem.W.Frag} {mg : Str → Option Value} {φ : Nat → Addr} {lh : LH} {H : Hp} {c f : String} {C dx : Addr} {i : Nat} {fs : List (String × D)} {vs : List (Str × V)} {d : D} {v : V} (hr : HR K mg φ lh H) (hi : i < lh.length) (gC : mg (Str.ofString c) = some (.ref C))
    (rf : RF K φ lh.length H fs vs) (q : RD K φ lh.length H d v) : Po K mg φ lh H φ (lh.set i (.ins c (putFD f d fs))) (upd H (φ i) (.ins C dx (putF (Str.ofString f) v vs))) :=
  Po.put hr hi ⟨C, dx, _, gC, upd_same, (rf.put q).mono (Nat.le_refl _) (fun _ _ => rfl) (by
    obtain ⟨u, hu, u1, u2⟩ := hr.lt_some hi
    exact Ext.put hu u1 u2)⟩
theorem qs_fld {c f : String} (T : FdK X.K X.mg c f) (ho : QE X W o mo) (hv : QE X W value mv) (hs : swapsWith value (some (.Attribute o (Str.ofString f) pos')) pos.line X.env = pure false := by rfl) :
    QS X W (.Assign [.Attribute o (Str.ofString f) pos'] value pos) (sFldSet c f mo mv) := by
  obtain ⟨C, gC, cl, na⟩ := T.ex
  refine psI (ps_fld ho hv hs) fun D σ H ⟨φ, env, lh, h1, h2, q⟩ => ?_
  have q' : wps X.K X.mg W (sFldSet c f mo mv env lh) φ lh H D := q
  refine rd_of h1 h2 (wps_step h2 q' fun y lh1 φ1 u H1 p1 r1 q1 => ?_)
  refine rd_of p1.hr (h2.up p1) (wps_step (h2.up p1) q1 fun x lh2 φ2 v H2 p2 r2 q2 => ?_)
  cases ei : insD c x lh2 with
  | none => rw [ei] at q2; exact q2.elim
  | some z =>
    obtain ⟨i, fs⟩ := z
    rw [ei] at q2
    dsimp only at q2
    obtain ⟨C', dx, vs, rfl, hi, _, gC', hH, rf⟩ := insD_ok p2.hr r2 ei
    rw [gC] at gC'
    cases gC'
    split at q2
    · rename_i hl
      have P := ins_put (f := f) (dx := dx) p2.hr hi gC rf (r1.up p2)
      exact ⟨_, C, dx, vs, rfl, hH, cl, na, by rw [← rf.len]; exact hl, q2 _ _ _ P (((h2.up p1).up p2).up P)⟩
    · exact q2.elim
theorem qs_fldAug {op : Operator} {g : Int → Int → Int} {c f : String} (T : FdK X.K X.mg c f) (hop : InOp X op fun x y H Q => ∃ i j, x = .int i ∧ y = .int j ∧ Q (.int (g i j)) H) (ho : QE X W o mo) (hv : QE X W value mv) :
    QS X W (.AugAssign (.Attribute o (Str.ofString f) tpos) op value pos) (sFldAug g c f mo mv) := by
  obtain ⟨C, gC, cl, na⟩ := T.ex
  refine psI (ps_fldaug ho hv hop) fun D σ H ⟨φ, env, lh, h1, h2, q⟩ => ?_
  have q' : wps X.K X.mg W (sFldAug g c f mo mv env lh) φ lh H D := q
  refine rd_of h1 h2 (wps_step h2 q' fun x lh1 φ1 v H1 p1 r1 q1 => ?_)
  cases ei : insD c x lh1 with
  | none => rw [ei] at q1; exact q1.elim
  | some z =>
    obtain ⟨i, fs⟩ := z
    rw [ei] at q1
    dsimp only at q1
    obtain ⟨C', dx, vs, rfl, hi, _, gC', hH, rf⟩ := insD_ok p1.hr r1 ei
    rw [gC] at gC'
    cases gC'
    cases eg : getF f fs with
    | none => rw [eg] at q1; exact q1.elim
    | some d =>
      rw [eg] at q1
      dsimp only at q1
      obtain ⟨u, eu, ru⟩ := rf.get eg
      refine ⟨_, C, dx, vs, u, rfl, hH, cl, na, eu, ?_⟩
      refine rd_of p1.hr (h2.up p1) (wps_step (h2.up p1) q1 fun y lh2 φ2 w H2 p2 r2 q2 => ?_)
      split at q2
      · rename_i ia ib
        have ru2 := ru.up p2
        cases ru2
        cases r2
        refine ⟨ia, ib, rfl, rfl, ?_⟩
        split at q2
        · rename_i c' fs' el
          split at q2
          · rename_i hl
            obtain ⟨rfl, hl⟩ := hl
            obtain ⟨C2, dx2, vs2, gC2, hH2, rf2⟩ := p2.hr.obj _ _ el
            rw [gC] at gC2
            cases gC2
            have hi2 : i < lh2.length := lt_of_get el
            rw [p2.ag i hi] at hH2
            have P := ins_put (f := f) (dx := dx2) (d := .int (g ia ib)) (v := .int (g ia ib)) p2.hr hi2 gC rf2 (.int _)
            rw [p2.ag i hi] at P
            exact ⟨dx2, vs2, hH2, by rw [← rf2.len]; exact hl, q2 _ _ _ P (((h2.up p1).up p2).up P)⟩
          · exact q2.elim
        · exact q2.elim
      · exact q2.elim
end
/-! ### calls of methods, instances made -/
section
variable {X : Cx} {CX : CXT} {k : Nat} {f C : Addr} {fd : FuncData} {ps : List Str} {sp : Sp} {E : L2.St → XK} {x m : Str} {p pos apos : Pos} {e o : Expr} {es : List Expr} {ta : TE} {t : TA}
def tMethS (C : Addr) (m : Str) (sp : Sp) (E : L2.St → XK) (ta : TE) (t : TA) : TE := fun σ H Q => ta σ H fun x H1 => ∃ a dx fs, x = .ref a ∧ H1 a = some (.ins C dx fs) ∧ fs.lookup m = none ∧
  t σ H1 fun vs H2 => sp (x :: vs) H2 Q (E σ)
theorem pe_methS {pl : Sem Bool} (he : PE X o ta) (c : Cls X.K C) (hm : Meth X.K C m f) (F : FnOk X.prog X.w X.K X.mg X.base CX k f fd ps sp) (hr : Room k X.A) (hb : Binds X.K fd ps []) (hx : ∀ σ, PassesAt CX X σ (E σ)) (ha : PA X (e :: es) t)
    (hst : starEach (e :: es) X.env = (false, eval e X.env) :: starEach es X.env := by rfl) (hpl : (backTo pos (starEach es X.env)).any (·.1) = false := by rfl)
    (ht : eval (.Call (.Attribute o m apos) (e :: es) [] pos) X.env = (do
      let ov ← eval o X.env
      standAt apos.atName
      let (f, first) ← holding [ov] (getMethod ov m pl)
      callWith pos f first (backTo pos (starEach (e :: es) X.env)) (backToKw pos (keywordEach [] X.env))) := by rfl) :
    PE X (.Call (.Attribute o m apos) (e :: es) [] pos) (tMethS C m sp E ta t) := by
  refine ⟨fun pins s σ H Q I h => ?_⟩
  refine PySem.W.methodCall_KW (pl := pl) (thn (he.run pins s σ H _ I h) fun u s1 ⟨x, H1, I1, rx, a, dx, fs, ex, ea, l, q⟩ => ?_) ht
  subst ex
  obtain rfl : u = Value.ref a := rx
  refine getmeth_ok I1 ea c hm l ?_
  refine PySem.W.callWith_K (first := [.ref a]) (h₀ := X.base) I.ok.mod.kin hm.kp (thn (ha.run pos pins s1 σ H1 _ I1 q) fun us s2 ⟨vs, H2, I2, r, q2⟩ => ⟨I2.kIn, ?_⟩) hst hpl
  exact run_fnS (us := .ref a :: us) (vs := .ref a :: vs) F hr hb (hx σ) I2 (.cons rfl r) q2
theorem pe_methS0 {pl : Sem Bool} (he : PE X o ta) (c : Cls X.K C) (hm : Meth X.K C m f) (F : FnOk X.prog X.w X.K X.mg X.base CX k f fd ps sp) (hr : Room k X.A) (hb : Binds X.K fd ps []) (hx : ∀ σ, PassesAt CX X σ (E σ))
    (ht : eval (.Call (.Attribute o m apos) [] [] pos) X.env = (do
      let ov ← eval o X.env
      standAt apos.atName
      let (f, first) ← holding [ov] (getMethod ov m pl)
      callWith pos f first (backTo pos (starEach [] X.env)) (backToKw pos (keywordEach [] X.env))) := by rfl) :
    PE X (.Call (.Attribute o m apos) [] [] pos) (tMethS C m sp E ta tNil) := by
  refine ⟨fun pins s σ H Q I h => ?_⟩
  refine PySem.W.methodCall_KW (pl := pl) (thn (he.run pins s σ H _ I h) fun u s1 ⟨x, H1, I1, rx, a, dx, fs, ex, ea, l, q⟩ => ?_) ht
  subst ex
  obtain rfl : u = Value.ref a := rx
  refine getmeth_ok I1 ea c hm l ?_
  exact PySem.W.callWith_K0 (first := [.ref a]) I1.kIn hm.kp (run_fnS (us := [.ref a]) (vs := [.ref a]) F hr hb (hx σ) I1 (.cons rfl .nil) q)
def tMakeS (C : Addr) (sp : Sp) (E : L2.St → XK) (t : TA) : TE := fun σ H Q => t σ H fun vs H1 => ∀ x dx, H1 x = none → H1 dx = none → dx ≠ x →
  sp (.ref x :: vs) (upd (upd H1 dx (.own x)) x (.ins C dx [])) (fun v H2 => v = .non ∧ Q (.ref x) H2) (E σ)
theorem run_makeS {pins : List (Addr × Obj)} {σ : L2.St} {H : Hp} {s : Shared} {Q : VK} {us : List Value} {vs : List V} (M : Mk X.K C f) (F : FnOk X.prog X.w X.K X.mg X.base CX k f fd ps sp) (hr : Room (k + 1) X.A) (hb : Binds X.K fd ps [])
    (hx : PassesAt CX X σ (E σ)) (I : Inv X pins σ H s) (r : Vals vs us)
    (h : ∀ x dx, H x = none → H dx = none → dx ≠ x → sp (.ref x :: vs) (upd (upd H dx (.own x)) x (.ins C dx [])) (fun v H2 => v = .non ∧ Q (.ref x) H2) (E σ)) :
    wpAny (model X.prog X.w) X.A (call (.ref C) us) (EP X pins σ Q) X.xe s := by
  have hq := h (s.heap.objs.size + 1) s.heap.objs.size (I.hok.fresh (Nat.le_succ _)) (I.hok.fresh (Nat.le_refl _)) (Nat.ne_of_lt (Nat.lt_succ_self _))
  have I2 := Inv.made (C := C) I
  have r2 : Vals (V.ref (s.heap.objs.size + 1) :: vs) (Value.ref (s.heap.objs.size + 1) :: us) := .cons rfl r
  have hl : (Value.ref (s.heap.objs.size + 1) :: us).length = ps.length := by
    have e := r2.length
    rw [F.len _ _ _ _ hq] at e
    exact e.symm
  have b := hb _ (Value.ref (s.heap.objs.size + 1) :: us) I2.kIn (by rw [List.append_nil]; exact hl)
  rw [List.append_nil] at b
  refine wpAny_call (make_map (f := f) I.kIn M.makes M.init (beq_iff_eq.mp M.fn) (codeAny_mono (F.run _ X.stack _ _ ⟨Value.ref (s.heap.objs.size + 1) :: us, []⟩ (Value.ref (s.heap.objs.size + 1) :: us) _ _ (E σ) (hr.make C us [])
    (I2.env0.make C us []) b r2 hq) fun r s' hq' => ?_))
  cases r with
  | error e => exact hx pins _ _ e s' I2 hq'
  | ok fl =>
    cases fl with
    | ret u =>
      obtain ⟨v, H', I3, rv, ev, q3⟩ := I2.after hq'
      subst ev
      exact ⟨rv, ⟨V.ref (s.heap.objs.size + 1), H', I3, rfl, q3⟩⟩
    | next => exact False.elim hq'
    | brk => exact False.elim hq'
    | cont => exact False.elim hq'
theorem pe_makeS (M : Mk X.K C f) (F : FnOk X.prog X.w X.K X.mg X.base CX k f fd ps sp) (hr : Room (k + 1) X.A) (hg : Gl X x) (hm : X.mg x = some (.ref C)) (hb : Binds X.K fd ps []) (hx : ∀ σ, PassesAt CX X σ (E σ))
    (ha : PA X (e :: es) t) (hdb : (x == ("__debug__" : Str)) = false := by decide) (he : starEach (e :: es) X.env = (false, eval e X.env) :: starEach es X.env := by rfl) (hpl : (backTo pos (starEach es X.env)).any (·.1) = false := by rfl) :
    PE X (.Call (.Name x p) (e :: es) [] pos) (tMakeS C sp E t) := by
  refine ⟨fun pins s σ H Q I h => ?_⟩
  refine wpAny_Call_Name_kw (ld_glob I hg hm ?_ hdb)
  refine PySem.W.callWith_K (h₀ := X.base) I.ok.mod.kin M.kp (thn (ha.run pos pins s σ H _ I h) fun us s1 ⟨vs, H1, I1, r, q⟩ => ⟨I1.kIn, ?_⟩) he hpl
  exact run_makeS M F hr hb (hx σ) I1 r q
theorem pe_makeS0 (M : Mk X.K C f) (F : FnOk X.prog X.w X.K X.mg X.base CX k f fd ps sp) (hr : Room (k + 1) X.A) (hg : Gl X x) (hm : X.mg x = some (.ref C)) (hb : Binds X.K fd ps []) (hx : ∀ σ, PassesAt CX X σ (E σ))
    (hdb : (x == ("__debug__" : Str)) = false := by decide) : PE X (.Call (.Name x p) [] [] pos) (tMakeS C sp E tNil) := by
  refine ⟨fun pins s σ H Q I h => ?_⟩
  refine wpAny_Call_Name_kw (ld_glob I hg hm ?_ hdb)
  exact PySem.W.callWith_K0 I.kIn M.kp (run_makeS (us := []) M F hr hb (hx σ) I .nil h)
end
section
variable {X : Cx} {W : WX} {CX : CXT} {k : Nat} {e o : Expr} {es : List Expr} {ma mo : M D} {mas : M (List D)} {pos apos p : Pos}
theorem meth_ok {K : PySem.W.Frag} {mg : Str → Option Value} {c m : String} {f : MF} {C : Addr} {t : TA} {σ : L2.St} {φ : Nat → Addr} {env : EN} {lh : LH} {H : Hp} {Q : VK} (ht : ∀ σ H Q, rdA K mg W mas σ H Q → t σ H Q) (gC : mg (Str.ofString c) = some (.ref C)) (h1 : HR K mg φ lh H) (h2 : RS K φ lh.length H env σ) (q : wp K mg W σ (RD K) (mMeth c m f mo mas env lh) φ lh H Q) :
    tMethS C (Str.ofString m) (spM K mg f) (fun σ => WE W σ) (rdE K mg W mo) t σ H Q := by
  refine rd_of h1 h2 (wp_step q fun x lh1 φ1 v H1 p1 r1 q1 => ?_)
  cases ei : insD c x lh1 with
  | none => rw [ei] at q1; exact q1.elim
  | some z =>
    obtain ⟨i, fs⟩ := z
    rw [ei] at q1
    dsimp only at q1
    obtain ⟨C', dx, vs, rfl, hi, _, gC', hH, rf⟩ := insD_ok p1.hr r1 ei
    rw [gC] at gC'
    cases gC'
    cases eg : getF m fs with
    | some d => rw [eg] at q1; exact q1.elim
    | none =>
      rw [eg] at q1
      dsimp only at q1
      refine ⟨_, dx, vs, rfl, hH, rf.gone eg, ht _ _ _ ?_⟩
      refine rd_of p1.hr (h2.up p1) (wp_step q1 fun xs lh2 φ2 ws H2 p2 r2 q2 => ?_)
      exact ⟨φ2, lh2, x :: xs, p2.hr, .cons (r1.up p2) r2, q2⟩
theorem qe_meth {pl : Sem Bool} {c m : String} {f : MF} (M : MeM CX X.prog X.w X.K X.mg X.base k c m f) (hr : Room k X.A) (hx : ∀ σ, PassesAt CX X σ (WE W σ)) (ho : QE X W o mo) (ha : QA X W (e :: es) mas)
    (hst : starEach (e :: es) X.env = (false, eval e X.env) :: starEach es X.env := by rfl) (hpl : (backTo pos (starEach es X.env)).any (·.1) = false := by rfl)
    (ht : eval (.Call (.Attribute o (Str.ofString m) apos) (e :: es) [] pos) X.env = (do
      let ov ← eval o X.env
      standAt apos.atName
      let (f, first) ← holding [ov] (getMethod ov (Str.ofString m) pl)
      callWith pos f first (backTo pos (starEach (e :: es) X.env)) (backToKw pos (keywordEach [] X.env))) := by rfl) :
    QE X W (.Call (.Attribute o (Str.ofString m) apos) (e :: es) [] pos) (mMeth c m f mo mas) := by
  obtain ⟨C, fa, fd, ps, gC, cl, hm, hb, F⟩ := M.ex
  exact qe_of (pe_methS (pl := pl) ho cl hm F hr hb hx ha hst hpl ht) fun σ φ env lh H Q h1 h2 q => meth_ok (fun _ _ _ h => h) gC h1 h2 q
theorem tNil_eq {K : PySem.W.Frag} {mg : Str → Option Value} {σ : L2.St} {H : Hp} {Q : List V → Hp → Prop} (h : rdA K mg W mNil σ H Q) : tNil σ H Q := by
  obtain ⟨φ, env, lh, h1, h2, q⟩ := h
  exact wp_ok (lh' := lh) q (.refl h1) .nil
theorem qe_meth0 {pl : Sem Bool} {c m : String} {f : MF} (M : MeM CX X.prog X.w X.K X.mg X.base k c m f) (hr : Room k X.A) (hx : ∀ σ, PassesAt CX X σ (WE W σ)) (ho : QE X W o mo)
    (ht : eval (.Call (.Attribute o (Str.ofString m) apos) [] [] pos) X.env = (do
      let ov ← eval o X.env
      standAt apos.atName
      let (f, first) ← holding [ov] (getMethod ov (Str.ofString m) pl)
      callWith pos f first (backTo pos (starEach [] X.env)) (backToKw pos (keywordEach [] X.env))) := by rfl) :
    QE X W (.Call (.Attribute o (Str.ofString m) apos) [] [] pos) (mMeth c m f mo mNil) := by
  obtain ⟨C, fa, fd, ps, gC, cl, hm, hb, F⟩ := M.ex
  exact qe_of (pe_methS0 (pl := pl) ho cl hm F hr hb hx ht) fun σ φ env lh H Q h1 h2 q => meth_ok (mas := mNil) (fun _ _ _ h => tNil_eq h) gC h1 h2 q
theorem make_ok {K : PySem.W.Frag} {mg : Str → Option Value} {c : String} {f : MF} {C : Addr} {σ : L2.St} {φ : Nat → Addr} {env : EN} {lh : LH} {H : Hp} {Q : VK} (gC : mg (Str.ofString c) = some (.ref C)) (h1 : HR K mg φ lh H) (h2 : RS K φ lh.length H env σ) (q : wp K mg W σ (RD K) (mMake c f mas env lh) φ lh H Q) :
    tMakeS C (spM K mg f) (fun σ => WE W σ) (rdA K mg W mas) σ H Q := by
  refine rd_of h1 h2 (wp_step q fun xs lh1 φ1 vs H1 p1 r1 q1 => ?_)
  intro x dx hx hdx ne
  have P1 : Po K mg φ1 lh1 H1 φ1 lh1 (upd H1 dx (.own x)) := Po.side p1.hr hdx
  have hx2 : upd H1 dx (.own x) x = none := by rw [upd_ne (Ne.symm ne)]; exact hx
  have P2 : Po K mg φ1 lh1 (upd H1 dx (.own x)) (ext1 φ1 lh1.length x) (lh1 ++ [.ins c []]) (upd (upd H1 dx (.own x)) x (.ins C dx [])) := Po.new P1.hr hx2 ⟨C, dx, [], gC, upd_same, .nil⟩
  have P := P1.trans P2
  have hl : lh1.length < (lh1 ++ [LO.ins c []]).length := by simp
  refine ⟨_, _, .ref lh1.length :: xs, P.hr, .cons ?_ (r1.up P), ?_⟩
  · have r : RD K (ext1 φ1 lh1.length x) (lh1 ++ [LO.ins c []]).length (upd (upd H1 dx (.own x)) x (.ins C dx [])) (.ref lh1.length) (.ref (ext1 φ1 lh1.length x lh1.length)) := .ref hl
    rw [ext1_at] at r
    exact r
  · revert q1
    cases f (.ref lh1.length :: xs) (lh1 ++ [.ins c []]) with
    | ok d lh2 =>
      intro q1 φ2 v H2 p2 r2
      cases d with
      | non =>
        cases r2
        refine ⟨rfl, ?_⟩
        have r : RD K φ2 lh2.length H2 (.ref lh1.length) (.ref (φ2 lh1.length)) := .ref (Nat.lt_of_lt_of_le hl p2.le)
        have e : φ2 lh1.length = x := (p2.ag _ hl).trans ext1_at
        rw [e] at r
        exact wp_ok (lh' := lh2) q1 (P.trans p2) r
      | _ => exact q1.elim
    | exc e lh2 => exact fun q1 φ2 cls dd H2 p2 er => q1 φ2 cls dd H2 (P.trans p2) er
    | bad => exact fun q1 => q1
theorem qe_make {c : String} {f : MF} (M : MkM CX X.prog X.w X.K X.mg X.base k c f) (hr : Room (k + 1) X.A) (hx : ∀ σ, PassesAt CX X σ (WE W σ)) (hg : Gl X (Str.ofString c)) (ha : QA X W (e :: es) mas)
    (hdb : (Str.ofString c == ("__debug__" : Str)) = false := by decide +kernel) (he : starEach (e :: es) X.env = (false, eval e X.env) :: starEach es X.env := by rfl) (hpl : (backTo pos (starEach es X.env)).any (·.1) = false := by rfl) :
    QE X W (.Call (.Name (Str.ofString c) p) (e :: es) [] pos) (mMake c f mas) := by
  obtain ⟨C, fa, fd, ps, gC, mk, hb, F⟩ := M.ex
  exact qe_of (pe_makeS mk F hr hg gC hb hx ha hdb he hpl) fun σ φ env lh H Q h1 h2 q => make_ok gC h1 h2 q
theorem qe_make0 {c : String} {f : MF} (M : MkM CX X.prog X.w X.K X.mg X.base k c f) (hr : Room (k + 1) X.A) (hx : ∀ σ, PassesAt CX X σ (WE W σ)) (hg : Gl X (Str.ofString c))
    (hdb : (Str.ofString c == ("__debug__" : Str)) = false := by decide +kernel) : QE X W (.Call (.Name (Str.ofString c) p) [] [] pos) (mMake c f mNil) := by
  obtain ⟨C, fa, fd, ps, gC, mk, hb, F⟩ := M.ex
  refine qe_of (pe_makeS0 mk F hr hg gC hb hx hdb) fun σ φ env lh H Q h1 h2 q => ?_
  exact tNil_eq (make_ok (W := W) (mas := mNil) gC h1 h2 q)
end
end HM
set_option Elab.async false
set_option linter.all false
set_option maxRecDepth 100000
set_option maxHeartbeats 4000000
namespace HM
open PySem L2 PySem.Spec PyProof.Rows
/-! ### dicts -/
abbrev KD := Sum Int (List Nat)
theorem kc_inj {a b : KD} (h : kc a = kc b) : a = b := by
  cases a with
  | inl i => cases b with
    | inl j => cases h; rfl
    | inr s => cases h
  | inr s => cases b with
    | inl j => cases h
    | inr t =>
      have h2 : (⟨s.toArray⟩ : Str) = ⟨t.toArray⟩ := Sum.inr.inj h
      injection h2 with h3
      have := congrArg Array.toList h3
      simp at this
      rw [this]
theorem kcs_inj : ∀ {a b : List KD}, a.map kc = b.map kc → a = b
  | [], [], _ => rfl
  | [], _ :: _, h => by simp at h
  | _ :: _, [], h => by simp at h
  | x :: a, y :: b, h => by
    simp only [List.map_cons, List.cons.injEq] at h
    rw [kc_inj h.1, kcs_inj h.2]
def keyD : D → Option KD
  | .int i => some (.inl i)
  | .str s => some (.inr s)
  | _ => none
def keysD : List D → Option (List KD)
  | [] => some []
  | d :: r => match keyD d, keysD r with
    | some k, some ks => some (k :: ks)
    | _, _ => none
section
variable {κ : Type} [DecidableEq κ]
def getKD (k : κ) : List (κ × D) → Option D
  | [] => none
  | (j, x) :: r => if j = k then some x else getKD k r
def putKD (k : κ) (d : D) (kvs : List (κ × D)) : List (κ × D) := if (getKD k kvs).isSome = true then kvs.map (fun kv => if kv.1 = k then (kv.1, d) else kv) else kvs ++ [(k, d)]
def dropKD (k : κ) (kvs : List (κ × D)) : List (κ × D) := kvs.filter fun kv => decide (kv.1 ≠ k)
end
section
variable {K : PySem.W.Frag} {mg : Str → Option Value} {φ φ' : Nat → Addr} {n n' : Nat} {H : Hp} {lh : LH}
theorem keyD_ok {d : D} {v : V} {k : KD} (r : RD K φ n H d v) (h : keyD d = some k) : v = kV (kc k) := by
  cases d with
  | int i => cases h; cases r; rfl
  | str s => cases h; cases r; rfl
  | _ => cases h
theorem keysD_ok {ds : List D} : ∀ {vs : List V} {ks : List KD}, RDs K φ n H ds vs → keysD ds = some ks → vs = (ks.map kc).map kV := by
  induction ds with
  | nil => intro vs ks r h; cases r; cases h; rfl
  | cons d ds ih =>
    intro vs ks r h
    cases r with
    | cons r1 r2 =>
      unfold keysD at h
      cases e1 : keyD d with
      | none => rw [e1] at h; cases h
      | some k =>
        cases e2 : keysD ds with
        | none => rw [e1, e2] at h; cases h
        | some l =>
          rw [e1, e2] at h
          cases h
          rw [keyD_ok r1 e1, ih r2 e2]
          rfl
/-- tables: both kinds of keys -/
inductive RG {α β : Type} (c : α → β) (K : PySem.W.Frag) (φ : Nat → Addr) (n : Nat) (H : Hp) : List (α × D) → List (β × V) → Prop
  | nil : RG c K φ n H [] []
  | cons {k : α} {d : D} {v : V} {ds : List (α × D)} {vs : List (β × V)} : RD K φ n H d v → RG c K φ n H ds vs → RG c K φ n H ((k, d) :: ds) ((c k, v) :: vs)
theorem RKs.rg {ds : List (KD × D)} {vs : List (Key × V)} (r : RKs K φ n H ds vs) : RG kc K φ n H ds vs := by
  induction r with
  | nil => exact .nil
  | cons h _ ih => exact .cons h ih
theorem RTs.rg {ds : List (List KD × D)} {vs : List (List Key × V)} (r : RTs K φ n H ds vs) : RG (List.map kc) K φ n H ds vs := by
  induction r with
  | nil => exact .nil
  | cons h _ ih => exact .cons h ih
theorem RG.k {ds : List (KD × D)} {vs : List (Key × V)} (r : RG kc K φ n H ds vs) : RKs K φ n H ds vs := by
  induction r with
  | nil => exact .nil
  | cons h _ ih => exact .cons h ih
theorem RG.t {ds : List (List KD × D)} {vs : List (List Key × V)} (r : RG (List.map kc) K φ n H ds vs) : RTs K φ n H ds vs := by
  induction r with
  | nil => exact .nil
  | cons h _ ih => exact .cons h ih
section
variable {α β : Type} [DecidableEq α] [DecidableEq β] {c : α → β} (ci : ∀ a b, c a = c b → a = b)
include ci
theorem RG.get {k : α} {ds : List (α × D)} {vs : List (β × V)} (r : RG c K φ n H ds vs) : (∀ d, getKD k ds = some d → ∃ v, valV vs (c k) = some v ∧ RD K φ n H d v) ∧ (getKD k ds = none → valV vs (c k) = none) := by
  induction r with
  | nil => exact ⟨fun d h => (by cases h), fun _ => rfl⟩
  | @cons j d v ds vs h1 _ ih =>
    unfold getKD
    by_cases q : j = k
    · rw [if_pos q, valV_pos (show ((c j, v) : β × V).1 = c k by rw [q])]
      exact ⟨fun e h => ⟨v, rfl, by cases h; exact h1⟩, fun h => (by cases h)⟩
    · rw [if_neg q, valV_neg (fun z => q (ci _ _ z))]
      exact ih
theorem RG.some_iff {k : α} {ds : List (α × D)} {vs : List (β × V)} (r : RG c K φ n H ds vs) : (valV vs (c k)).isSome = (getKD k ds).isSome := by
  obtain ⟨g1, g2⟩ := r.get ci (k := k)
  cases e : getKD k ds with
  | none => rw [g2 e]; rfl
  | some d =>
    obtain ⟨v, e2, _⟩ := g1 d e
    rw [e2]; rfl
theorem RG.put {k : α} {d : D} {v : V} {ds : List (α × D)} {vs : List (β × V)} (r : RG c K φ n H ds vs) (q : RD K φ n H d v) : RG c K φ n H (putKD k d ds) (putK vs (c k) v) := by
  unfold putKD putK
  rw [valV_any, r.some_iff ci]
  split
  · rename_i hz
    clear hz
    induction r with
    | nil => exact .nil
    | @cons j d' v' ds vs h1 _ ih =>
      simp only [List.map_cons]
      by_cases e : j = k
      · rw [if_pos e, if_pos (show c j = c k by rw [e])]
        exact .cons q ih
      · rw [if_neg e, if_neg (fun z => e (ci _ _ z))]
        exact .cons h1 ih
  · rename_i hz
    clear hz
    induction r with
    | nil => exact .cons q .nil
    | cons h1 _ ih => exact .cons h1 ih
theorem RG.drop {k : α} {ds : List (α × D)} {vs : List (β × V)} (r : RG c K φ n H ds vs) : RG c K φ n H (dropKD k ds) (dropK vs (c k)) := by
  unfold dropKD dropK
  induction r with
  | nil => exact .nil
  | @cons j d' v' ds vs h1 _ ih =>
    simp only [List.filter_cons]
    by_cases e : j = k
    · rw [if_neg (by simp [e]), if_neg (by simp [e])]
      exact ih
    · rw [if_pos (by simp [e]), if_pos (by simpa using fun z => e (ci _ _ z))]
      exact .cons h1 ih
omit ci in
theorem RG.len {ds : List (α × D)} {vs : List (β × V)} (r : RG c K φ n H ds vs) : ds.length = vs.length := by
  induction r with
  | nil => rfl
  | cons _ _ ih => simp [ih]
omit ci in
theorem RG.keys {ds : List (α × D)} {vs : List (β × V)} (r : RG c K φ n H ds vs) : vs.map (·.1) = (ds.map (·.1)).map c := by
  induction r with
  | nil => rfl
  | cons _ _ ih => simp [ih]
omit ci in
theorem RG.mono {H' : Hp} {ds : List (α × D)} {vs : List (β × V)} (hn : n ≤ n') (ag : ∀ i, i < n → φ' i = φ i) (e : Ext H H') (r : RG c K φ n H ds vs) : RG c K φ' n' H' ds vs := by
  induction r with
  | nil => exact .nil
  | cons h _ ih => exact .cons (h.mono hn ag e) ih
end
/-- a dict of the logical heap -/
inductive DK where
  | k (kvs : List (KD × D))
  | t (kvs : List (List KD × D))
def dctD (x : D) (h : LH) : Option (Nat × DK) := match x with
  | .ref i => match h[i]? with
    | some (.dK kvs) => some (i, .k kvs)
    | some (.dT kvs) => some (i, .t kvs)
    | _ => none
  | _ => none
theorem dctK_ok {x : D} {v : V} {i : Nat} {kvs : List (KD × D)} (hr : HR K mg φ lh H) (r : RD K φ lh.length H x v) (h : dctD x lh = some (i, .k kvs)) : ∃ vs, v = .ref (φ i) ∧ i < lh.length ∧ x = .ref i ∧ lh[i]? = some (.dK kvs) ∧ H (φ i) = some (.dK vs) ∧ RG kc K φ lh.length H kvs vs := by
  unfold dctD at h
  split at h
  · rename_i j
    obtain ⟨rfl, hi⟩ := r.ref_inv
    split at h
    · rename_i kvs' e
      cases h
      obtain ⟨vs, hv, rv⟩ := hr.obj _ _ e
      exact ⟨vs, rfl, hi, rfl, e, hv, rv.rg⟩
    · cases h
    · cases h
  · cases h
theorem dctT_ok {x : D} {v : V} {i : Nat} {kvs : List (List KD × D)} (hr : HR K mg φ lh H) (r : RD K φ lh.length H x v) (h : dctD x lh = some (i, .t kvs)) : ∃ vs, v = .ref (φ i) ∧ i < lh.length ∧ x = .ref i ∧ lh[i]? = some (.dT kvs) ∧ H (φ i) = some (.dT vs) ∧ RG (List.map kc) K φ lh.length H kvs vs := by
  unfold dctD at h
  split at h
  · rename_i j
    obtain ⟨rfl, hi⟩ := r.ref_inv
    split at h
    · cases h
    · rename_i kvs' e
      cases h
      obtain ⟨vs, hv, rv⟩ := hr.obj _ _ e
      exact ⟨vs, rfl, hi, rfl, e, hv, rv.rg⟩
    · cases h
  · cases h
/-- what stands there already, and a tuple's key -/
theorem kcs_ij : ∀ a b : List KD, a.map kc = b.map kc → a = b := fun _ _ h => kcs_inj h
theorem kc_ij : ∀ a b : KD, kc a = kc b → a = b := fun _ _ h => kc_inj h
theorem dK_put {i : Nat} {kvs : List (KD × D)} {vs : List (Key × V)} (hr : HR K mg φ lh H) (hi : i < lh.length) (r : RG kc K φ lh.length H kvs vs) : Po K mg φ lh H φ (lh.set i (.dK kvs)) (upd H (φ i) (.dK vs)) :=
  Po.put hr hi ⟨vs, upd_same, (r.mono (Nat.le_refl _) (fun _ _ => rfl) (by
    obtain ⟨u, hu, u1, u2⟩ := hr.lt_some hi
    exact Ext.put hu u1 u2)).k⟩
theorem dT_put {i : Nat} {kvs : List (List KD × D)} {vs : List (List Key × V)} (hr : HR K mg φ lh H) (hi : i < lh.length) (r : RG (List.map kc) K φ lh.length H kvs vs) : Po K mg φ lh H φ (lh.set i (.dT kvs)) (upd H (φ i) (.dT vs)) :=
  Po.put hr hi ⟨vs, upd_same, (r.mono (Nat.le_refl _) (fun _ _ => rfl) (by
    obtain ⟨u, hu, u1, u2⟩ := hr.lt_some hi
    exact Ext.put hu u1 u2)).t⟩
end
/-! ### rules by either of two -/
section
variable {X : Cx} {W : WX} {e : Expr} {st : Stmt}
theorem qe_two {m1 m2 m : M D} (h1 : QE X W e m1) (h2 : QE X W e m2) (h : ∀ env lh, m env lh = m1 env lh ∨ m env lh = m2 env lh) : QE X W e m :=
  ⟨fun pins s σ H Q I ⟨φ, env, lh, a, b, q⟩ => by
    rcases h env lh with z | z
    · exact h1.run pins s σ H Q I ⟨φ, env, lh, a, b, by rw [← z]; exact q⟩
    · exact h2.run pins s σ H Q I ⟨φ, env, lh, a, b, by rw [← z]; exact q⟩⟩
theorem qt_two {m1 m2 m : M Bool} (h1 : QT X W e m1) (h2 : QT X W e m2) (h : ∀ env lh, m env lh = m1 env lh ∨ m env lh = m2 env lh) : QT X W e m :=
  ⟨fun pins s σ H Q I ⟨φ, env, lh, a, b, q⟩ => by
    rcases h env lh with z | z
    · exact h1.run pins s σ H Q I ⟨φ, env, lh, a, b, by rw [← z]; exact q⟩
    · exact h2.run pins s σ H Q I ⟨φ, env, lh, a, b, by rw [← z]; exact q⟩⟩
theorem qs_two {m1 m2 m : MS} (h1 : QS X W st m1) (h2 : QS X W st m2) (h : ∀ env lh, m env lh = m1 env lh ∨ m env lh = m2 env lh) : QS X W st m :=
  ⟨fun pins s σ H D I ⟨φ, env, lh, a, b, q⟩ => by
    rcases h env lh with z | z
    · exact h1.run pins s σ H D I ⟨φ, env, lh, a, b, by rw [← z]; exact q⟩
    · exact h2.run pins s σ H D I ⟨φ, env, lh, a, b, by rw [← z]; exact q⟩⟩
theorem mOp_or {f g k : D → D → LH → Res D} {ma mb : M D} (h : ∀ x y lh, k x y lh = f x y lh ∨ k x y lh = g x y lh) (env : EN) (lh : LH) : mOp k ma mb env lh = mOp f ma mb env lh ∨ mOp k ma mb env lh = mOp g ma mb env lh := by
  unfold mOp
  cases ma env lh with
  | ok x h1 =>
    show ((mb env h1).bind fun y h2 => k x y h2) = _ ∨ ((mb env h1).bind fun y h2 => k x y h2) = _
    cases eb : mb env h1 with
    | ok y h2 =>
      rcases h x y h2 with z | z
      · left; simp only [Res.bind, eb, z]
      · right; simp only [Res.bind, eb, z]
    | exc y h2 => left; simp only [Res.bind, eb]
    | bad => left; simp only [Res.bind, eb]
  | exc x h1 => left; rfl
  | bad => left; rfl
end
/-! ### d[k], k in d -/
def dGetK : D → D → LH → Res D := fun x y h => match dctD x h, keyD y with
  | some (_, .k kvs), some k => match getKD k kvs with
    | some d => .ok d h
    | none => .bad
  | _, _ => .bad
/-- d[k] of anything -/
def dIxA : D → D → LH → Res D := fun x y h => match dctD x h with
  | some _ => dGetK x y h
  | none => dIx x y h
def inKD (y x : D) (h : LH) : Option Bool := match dctD x h, keyD y with
  | some (_, .k kvs), some k => some (getKD k kvs).isSome
  | _, _ => none
def dInA : D → D → LH → Res D := fun y x h => match dctD x h with
  | some _ => (match inKD y x h with
    | some b => .ok (.bl b) h
    | none => .bad)
  | none => dIn y x h
def dNotInA : D → D → LH → Res D := fun y x h => match dctD x h with
  | some _ => (match inKD y x h with
    | some b => .ok (.bl (!b)) h
    | none => .bad)
  | none => dNotIn y x h
section
variable {X : Cx} {W : WX} {a b : Expr} {ma mb mv : M D} {pos : Pos}
theorem qe_dget (hu : X.A.units + 1 < cLine) (ha : QE X W a ma) (hb : QE X W b mb) (hs : NoSl b) : QE X W (.Subscript a b pos) (mOp dGetK ma mb) := by
  refine qe_of (pe_dget hu ha hb hs) fun σ φ env lh H Q h1 h2 q => ?_
  refine rd_of h1 h2 (wp_step q fun x lh1 φ1 v H1 p1 r1 q1 => ?_)
  refine rd_of p1.hr (h2.up p1) (wp_step q1 fun y lh2 φ2 w H2 p2 r2 q2 => ?_)
  have r1' := r1.up p2
  unfold dGetK at q2
  split at q2
  · rename_i i kvs k e1 e2
    split at q2
    · rename_i d e3
      obtain ⟨vs, rfl, hi, _, _, hH, rg⟩ := dctK_ok p2.hr r1' e1
      obtain ⟨u, eu, ru⟩ := (rg.get kc_ij).1 d e3
      rw [keyD_ok r2 e2]
      exact ⟨_, u, rfl, by rw [← eu]; exact DGet.k hH, wp_ok q2 (.refl p2.hr) ru⟩
    · exact q2.elim
  · exact q2.elim
theorem qe_ixA (hu : X.A.units + 1 < cLine) (ha : QE X W a ma) (hb : QE X W b mb) (hs : NoSl b) (hs' : PlainIx b) : QE X W (.Subscript a b pos) (mOp dIxA ma mb) :=
  qe_two (qe_ix ha hb hs') (qe_dget hu ha hb hs) (mOp_or fun x y lh => by
    unfold dIxA
    split
    · exact .inr rfl
    · exact .inl rfl)
def rDIn : R2 := fun y x H Q => ∃ a o, x = V.ref a ∧ DGet H a y o ∧ Q (.bl o.isSome) H
def rDNotIn : R2 := fun y x H Q => ∃ a o, x = V.ref a ∧ DGet H a y o ∧ Q (.bl (!o.isSome)) H
theorem op_din (hu : X.A.units + 1 < cLine) : OpR X (compareOp .In) rDIn := by
  intro pins s σ H x y v u Q I rx ry ⟨a, o, ex, g, q⟩
  subst ex
  obtain rfl : u = Value.ref a := ry
  exact d_in hu I g rx fun s3 I3 => ⟨.bl o.isSome, H, I3, rfl, q⟩
theorem op_dnotin (hu : X.A.units + 1 < cLine) : OpR X (compareOp .NotIn) rDNotIn := by
  intro pins s σ H x y v u Q I rx ry ⟨a, o, ex, g, q⟩
  subst ex
  obtain rfl : u = Value.ref a := ry
  exact d_notIn hu I g rx fun s3 I3 => ⟨.bl (!o.isSome), H, I3, rfl, q⟩
theorem inKD_ok {K : PySem.W.Frag} {mg : Str → Option Value} {φ : Nat → Addr} {lh : LH} {H : Hp} {x y : D} {v w : V} {b : Bool} (hr : HR K mg φ lh H) (rx : RD K φ lh.length H x v) (ry : RD K φ lh.length H y w) (h : inKD y x lh = some b) :
    ∃ a o, v = V.ref a ∧ DGet H a w o ∧ o.isSome = b := by
  unfold inKD at h
  split at h
  · rename_i i kvs k e1 e2
    cases h
    obtain ⟨vs, rfl, hi, _, _, hH, rg⟩ := dctK_ok hr rx e1
    rw [keyD_ok ry e2]
    exact ⟨_, _, rfl, DGet.k hH, rg.some_iff kc_ij⟩
  · cases h
theorem opm_inA (hu : X.A.units + 1 < cLine) : OpM X (compareOp .In) dInA := by
  obtain ⟨r, h, k⟩ := opm_in (X := X)
  refine ⟨_, h.or (op_din hu), fun W σ φ lh H x y v w Q hr rx ry q => ?_⟩
  unfold dInA at q
  split at q
  · split at q
    · rename_i b e
      obtain ⟨a, o, rfl, g, rfl⟩ := inKD_ok hr ry rx e
      exact .inr ⟨a, o, rfl, g, wp_ok q (.refl hr) (.bl _)⟩
    · exact q.elim
  · exact .inl (k W σ φ lh H x y v w Q hr rx ry q)
theorem opm_notInA (hu : X.A.units + 1 < cLine) : OpM X (compareOp .NotIn) dNotInA := by
  obtain ⟨r, h, k⟩ := opm_notIn (X := X)
  refine ⟨_, h.or (op_dnotin hu), fun W σ φ lh H x y v w Q hr rx ry q => ?_⟩
  unfold dNotInA at q
  split at q
  · split at q
    · rename_i b e
      obtain ⟨a, o, rfl, g, rfl⟩ := inKD_ok hr ry rx e
      exact .inr ⟨a, o, rfl, g, wp_ok q (.refl hr) (.bl _)⟩
    · exact q.elim
  · exact .inl (k W σ φ lh H x y v w Q hr rx ry q)
end
/-! ### tuple keys, written where they are used -/
def inTD (ys : List D) (x : D) (h : LH) : Option (Option D) := match dctD x h, keysD ys with
  | some (_, .t kvs), some k => some (getKD k kvs)
  | _, _ => none
def mInT (neg : Bool) (mk : M (List D)) (ma : M D) : M D := fun e h => (mk e h).bind fun ys h1 => if ys.length ≤ 16777216 then (ma e h1).bind fun x h2 => match inTD ys x h2 with
  | some o => .ok (.bl (o.isSome != neg)) h2
  | none => .bad else .bad
def mGetT (ma : M D) (mk : M (List D)) : M D := fun e h => (ma e h).bind fun x h1 => (mk e h1).bind fun ys h2 => if ys.length ≤ 16777216 then (match inTD ys x h2 with
  | some (some d) => .ok d h2
  | _ => .bad) else .bad
def sPutT (ma : M D) (mk : M (List D)) (mv : M D) : MS := fun e h => rsBind (mv e h) e fun v h1 => rsBind (ma e h1) e fun x h2 => rsBind (mk e h2) e fun ys h3 => if ys.length ≤ 16777216 then (match dctD x h3, keysD ys with
  | some (i, .t kvs), some k => if kvs.length < 16777216 then .next e (h3.set i (.dT (putKD k v kvs))) else .bad
  | _, _ => .bad) else .bad
section
variable {X : Cx} {W : WX} {a value : Expr} {ks : List Expr} {ma mv : M D} {mk : M (List D)} {pos p1 pos' : Pos}
theorem inTD_ok {K : PySem.W.Frag} {mg : Str → Option Value} {φ : Nat → Addr} {lh : LH} {H : Hp} {x : D} {ys : List D} {v : V} {b : Addr} {ws : List V} {o : Option D} (hr : HR K mg φ lh H) (rx : RD K φ lh.length H x v) (ry : RDs K φ lh.length H ys ws) (hb : H b = some (.tup ws)) (h : inTD ys x lh = some o) :
    ∃ a o', v = V.ref a ∧ DGet H a (.ref b) o' ∧ o'.isSome = o.isSome ∧ ∀ d, o = some d → ∃ u, o' = some u ∧ RD K φ lh.length H d u := by
  unfold inTD at h
  split at h
  · rename_i i kvs k e1 e2
    cases h
    obtain ⟨vs, rfl, hi, _, _, hH, rg⟩ := dctT_ok hr rx e1
    rw [keysD_ok ry e2] at hb
    refine ⟨_, _, rfl, DGet.t hH hb, rg.some_iff kcs_ij, fun d e => ?_⟩
    obtain ⟨u, eu, ru⟩ := (rg.get kcs_ij).1 d e
    exact ⟨u, eu, ru⟩
  · cases h
theorem inT_tree {K : PySem.W.Frag} {mg : Str → Option Value} {neg : Bool} {r : R2} (himp : ∀ x y H Q, (∃ a o, x = V.ref a ∧ DGet H a y o ∧ Q (.bl (o.isSome != neg)) H) → r y x H Q) {σ : L2.St} {φ : Nat → Addr} {env : EN} {lh : LH} {H : Hp} {Q : VK} (h1 : HR K mg φ lh H) (h2 : RS K φ lh.length H env σ)
    (q : wp K mg W σ (RD K) (mInT neg mk ma env lh) φ lh H Q) : tOp r (tTup (rdA K mg W mk)) (rdE K mg W ma) σ H Q := by
  refine rd_of h1 h2 (wp_step q fun ys lh1 φ1 ws H1 p1 r1 q1 => ?_)
  split at q1
  · rename_i hl
    refine ⟨by rw [← r1.len]; exact sz_le hl, fun p hp => ?_⟩
    have P : Po K mg φ1 lh1 H1 φ1 lh1 (upd H1 p (.tup ws)) := Po.side p1.hr hp
    refine rd_of P.hr ((h2.up p1).up P) (wp_step (wp_mono P q1) fun x lh2 φ2 v H2 p2 r2 q2 => ?_)
    have hb : H2 p = some (.tup ws) := p2.ext.tup _ _ upd_same
    split at q2
    · rename_i o eo
      obtain ⟨ad, o', rfl, g, eo', _⟩ := inTD_ok p2.hr r2 ((r1.up P).up p2) hb eo
      refine himp _ _ _ _ ⟨ad, o', rfl, g, ?_⟩
      rw [eo']
      exact wp_ok q2 (.refl p2.hr) (.bl _)
    · exact q2.elim
  · exact q1.elim
theorem imp_in : ∀ (x y : V) (H : Hp) (Q : VK), (∃ a o, x = V.ref a ∧ DGet H a y o ∧ Q (.bl (o.isSome != false)) H) → rDIn y x H Q := fun x y H Q ⟨a, o, h1, h2, h3⟩ => ⟨a, o, h1, h2, by simpa using h3⟩
theorem imp_notIn : ∀ (x y : V) (H : Hp) (Q : VK), (∃ a o, x = V.ref a ∧ DGet H a y o ∧ Q (.bl (o.isSome != true)) H) → rDNotIn y x H Q := fun x y H Q ⟨a, o, h1, h2, h3⟩ => ⟨a, o, h1, h2, by simpa using h3⟩
theorem qe_inT (hu : X.A.units + 1 < cLine) (hk : QA X W ks mk) (ha : QE X W a ma) (hm : behindInMarks .In a = false) {x1} : QE X W (.Compare (.Tuple ks x1 p1) [.In] [a] pos) (mInT false mk ma) :=
  qe_of (pe_cmpR (op_din hu) (pe_tup hk) ha hm) fun σ φ env lh H Q h1 h2 q => inT_tree imp_in h1 h2 q
theorem qe_notInT (hu : X.A.units + 1 < cLine) (hk : QA X W ks mk) (ha : QE X W a ma) (hm : behindInMarks .NotIn a = false) {x1} : QE X W (.Compare (.Tuple ks x1 p1) [.NotIn] [a] pos) (mInT true mk ma) :=
  qe_of (pe_cmpR (op_dnotin hu) (pe_tup hk) ha hm) fun σ φ env lh H Q h1 h2 q => inT_tree imp_notIn h1 h2 q
theorem qt_inT (hu : X.A.units + 1 < cLine) (hk : QA X W ks mk) (ha : QE X W a ma) (hm : behindInMarks .In a = false) {x1} : QT X W (.Compare (.Tuple ks x1 p1) [.In] [a] pos) (mTst (mInT false mk ma)) := by
  refine qt_of (pt_cmpR (op_din hu) (pe_tup hk) ha hm) fun σ φ env lh H Q h1 h2 q => ?_
  obtain ⟨φ0, env0, lh0, h10, h20, q0⟩ := tst_ok (ma := mInT false mk ma) h1 h2 q
  exact inT_tree imp_in h10 h20 q0
theorem qt_notInT (hu : X.A.units + 1 < cLine) (hk : QA X W ks mk) (ha : QE X W a ma) (hm : behindInMarks .NotIn a = false) {x1} : QT X W (.Compare (.Tuple ks x1 p1) [.NotIn] [a] pos) (mTst (mInT true mk ma)) := by
  refine qt_of (pt_cmpR (op_dnotin hu) (pe_tup hk) ha hm) fun σ φ env lh H Q h1 h2 q => ?_
  obtain ⟨φ0, env0, lh0, h10, h20, q0⟩ := tst_ok (ma := mInT true mk ma) h1 h2 q
  exact inT_tree imp_notIn h10 h20 q0
theorem qe_getT (hu : X.A.units + 1 < cLine) (ha : QE X W a ma) (hk : QA X W ks mk) {x1} (hs : NoSl (.Tuple ks x1 p1)) : QE X W (.Subscript a (.Tuple ks x1 p1) pos) (mGetT ma mk) := by
  refine qe_of (pe_dget hu ha (pe_tup hk) hs) fun σ φ env lh H Q h1 h2 q => ?_
  refine rd_of h1 h2 (wp_step q fun x lh1 φ1 v H1 p1 r1 q1 => ?_)
  refine rd_of p1.hr (h2.up p1) (wp_step q1 fun ys lh2 φ2 ws H2 p2 r2 q2 => ?_)
  split at q2
  · rename_i hl
    refine ⟨by rw [← r2.len]; exact sz_le hl, fun p hp => ?_⟩
    have P : Po X.K X.mg φ2 lh2 H2 φ2 lh2 (upd H2 p (.tup ws)) := Po.side p2.hr hp
    split at q2
    · rename_i d eo
      obtain ⟨ad, o', rfl, g, eo', hd⟩ := inTD_ok P.hr ((r1.up p2).up P) (r2.up P) upd_same eo
      obtain ⟨u, rfl, ru⟩ := hd d rfl
      exact ⟨ad, u, rfl, g, wp_ok q2 P ru⟩
    · exact q2.elim
  · exact q2.elim
theorem qs_putT (hu : X.A.units + 1 < cLine) (ha : QE X W a ma) (hk : QA X W ks mk) (hv : QE X W value mv) {x1} (hs : swapsWith value (some (.Subscript a (.Tuple ks x1 p1) pos')) pos.line X.env = pure false := by rfl) :
    QS X W (.Assign [.Subscript a (.Tuple ks x1 p1) pos'] value pos) (sPutT ma mk mv) := by
  refine psI (ps_dput hu ha (pe_tup hk) hv hs) fun D σ H ⟨φ, env, lh, h1, h2, q⟩ => ?_
  have q' : wps X.K X.mg W (sPutT ma mk mv env lh) φ lh H D := q
  refine rd_of h1 h2 (wps_step h2 q' fun y lh1 φ1 u H1 p1 r1 q1 => ?_)
  refine rd_of p1.hr (h2.up p1) (wps_step (h2.up p1) q1 fun x lh2 φ2 v H2 p2 r2 q2 => ?_)
  refine rd_of p2.hr ((h2.up p1).up p2) (wps_step ((h2.up p1).up p2) q2 fun ys lh3 φ3 ws H3 p3 r3 q3 => ?_)
  split at q3
  · rename_i hl
    refine ⟨by rw [← r3.len]; exact sz_le hl, fun p hp => ?_⟩
    have P : Po X.K X.mg φ3 lh3 H3 φ3 lh3 (upd H3 p (.tup ws)) := Po.side p3.hr hp
    split at q3
    · rename_i i kvs k e1 e2
      split at q3
      · rename_i hl2
        obtain ⟨vs, rfl, hi, _, _, hH, rg⟩ := dctT_ok P.hr ((r2.up p3).up P) e1
        have hb : (upd H3 p (.tup ws)) p = some (.tup ((k.map kc).map kV)) := by
          rw [upd_same, keysD_ok r3 e2]
        have P2 := dT_put P.hr hi (rg.put kcs_ij (k := k) ((((r1.up p2).up p3).up P)))
        exact ⟨_, _, rfl, DPut.t hH hb (by rw [← rg.len, sizeLine_eq]; exact hl2), q3 _ _ _ (P.trans P2) ((((h2.up p1).up p2).up p3).up (P.trans P2))⟩
      · exact q3.elim
    · exact q3.elim
  · exact q3.elim
end
/-! ### d[k] = v -/
def sPutK (ma mb mv : M D) : MS := fun e h => rsBind (mv e h) e fun v h1 => rsBind (ma e h1) e fun x h2 => rsBind (mb e h2) e fun y h3 => match dctD x h3, keyD y with
  | some (i, .k kvs), some k => if kvs.length < 16777216 then .next e (h3.set i (.dK (putKD k v kvs))) else .bad
  | _, _ => .bad
def sDelK (ma mb : M D) : MS := fun e h => rsBind (ma e h) e fun x h1 => rsBind (mb e h1) e fun y h2 => match dctD x h2, keyD y with
  | some (i, .k kvs), some k => if (getKD k kvs).isSome = true then .next e (h2.set i (.dK (dropKD k kvs))) else .bad
  | _, _ => .bad
section
variable {X : Cx} {W : WX} {a b value : Expr} {ma mb mv : M D} {pos p1 pos' tpos : Pos}
theorem qs_putK (hu : X.A.units + 1 < cLine) (ha : QE X W a ma) (hb : QE X W b mb) (hv : QE X W value mv) (hs : swapsWith value (some (.Subscript a b pos')) pos.line X.env = pure false := by rfl) :
    QS X W (.Assign [.Subscript a b pos'] value pos) (sPutK ma mb mv) := by
  refine psI (ps_dput hu ha hb hv hs) fun D σ H ⟨φ, env, lh, h1, h2, q⟩ => ?_
  have q' : wps X.K X.mg W (sPutK ma mb mv env lh) φ lh H D := q
  refine rd_of h1 h2 (wps_step h2 q' fun y lh1 φ1 u H1 p1 r1 q1 => ?_)
  refine rd_of p1.hr (h2.up p1) (wps_step (h2.up p1) q1 fun x lh2 φ2 v H2 p2 r2 q2 => ?_)
  refine rd_of p2.hr ((h2.up p1).up p2) (wps_step ((h2.up p1).up p2) q2 fun z lh3 φ3 w H3 p3 r3 q3 => ?_)
  split at q3
  · rename_i i kvs k e1 e2
    split at q3
    · rename_i hl2
      obtain ⟨vs, rfl, hi, _, _, hH, rg⟩ := dctK_ok p3.hr (r2.up p3) e1
      rw [keyD_ok r3 e2]
      have P2 := dK_put p3.hr hi (rg.put kc_ij (k := k) ((r1.up p2).up p3))
      exact ⟨_, _, rfl, DPut.k hH (by rw [← rg.len, sizeLine_eq]; exact hl2), q3 _ _ _ P2 ((((h2.up p1).up p2).up p3).up P2)⟩
    · exact q3.elim
  · exact q3.elim
theorem qs_delK (ha : QE X W a ma) (hb : QE X W b mb) : QS X W (.Delete [.Subscript a b tpos] pos) (sDelK ma mb) := by
  refine psI (ps_ddel ha hb) fun D σ H ⟨φ, env, lh, h1, h2, q⟩ => ?_
  have q' : wps X.K X.mg W (sDelK ma mb env lh) φ lh H D := q
  refine rd_of h1 h2 (wps_step h2 q' fun x lh1 φ1 v H1 p1 r1 q1 => ?_)
  refine rd_of p1.hr (h2.up p1) (wps_step (h2.up p1) q1 fun y lh2 φ2 w H2 p2 r2 q2 => ?_)
  split at q2
  · rename_i i kvs k e1 e2
    split at q2
    · rename_i hl2
      obtain ⟨vs, rfl, hi, _, _, hH, rg⟩ := dctK_ok p2.hr (r1.up p2) e1
      have P2 := dK_put p2.hr hi (rg.drop kc_ij (k := k))
      exact ⟨_, vs, kc k, rfl, hH, keyD_ok r2 e2, by rw [rg.some_iff kc_ij]; exact hl2, q2 _ _ _ P2 (((h2.up p1).up p2).up P2)⟩
    · exact q2.elim
  · exact q2.elim
end
/-! ### len, get, pop, dict(d) -/
def dLenA : MF := fun xs h => match xs with
  | [x] => (match dctD x h with
    | some (_, .k kvs) => .ok (.int kvs.length) h
    | some (_, .t kvs) => .ok (.int kvs.length) h
    | none => dLen [x] h)
  | _ => .bad
def mDGet1 (o k : M D) : M D := fun e h => (o e h).bind fun x h1 => match dctD x h1 with
  | some _ => (k e h1).bind fun y h2 => (match dctD x h2, keyD y with
    | some (_, .k kvs), some k => .ok ((getKD k kvs).getD .non) h2
    | _, _ => .bad)
  | none => .bad
def mDGet2 (o k z : M D) : M D := fun e h => (o e h).bind fun x h1 => match dctD x h1 with
  | some _ => (k e h1).bind fun y h2 => (z e h2).bind fun u h3 => (match dctD x h3, keyD y with
    | some (_, .k kvs), some k => .ok ((getKD k kvs).getD u) h3
    | _, _ => .bad)
  | none => .bad
def mDPop1 (o k : M D) : M D := fun e h => (o e h).bind fun x h1 => match dctD x h1 with
  | some _ => (k e h1).bind fun y h2 => (match dctD x h2, keyD y with
    | some (i, .k kvs), some k => (match getKD k kvs with
      | some d => .ok d (h2.set i (.dK (dropKD k kvs)))
      | none => .bad)
    | _, _ => .bad)
  | none => .bad
section
variable {X : Cx} {W : WX} {o e f : Expr} {mo me mf : M D} {apos cpos : Pos}
theorem cm_lenA : CallM X (.builtin "len") dLenA := by
  obtain ⟨r, h, k⟩ := cm_len (X := X)
  refine ⟨_, h.or (call_lenD.or call_len_dT), fun W σ φ lh H xs vs Q hr rs q => ?_⟩
  unfold dLenA at q
  split at q
  · rename_i x
    obtain ⟨v, rfl, rx⟩ := rs.one
    split at q
    · rename_i i kvs e1
      obtain ⟨ws, rfl, hi, _, _, hH, rg⟩ := dctK_ok hr rx e1
      exact .inr (.inl ⟨_, ws, rfl, hH, by rw [← rg.len]; exact wp_ok q (.refl hr) (.int _)⟩)
    · rename_i i kvs e1
      obtain ⟨ws, rfl, hi, _, _, hH, rg⟩ := dctT_ok hr rx e1
      exact .inr (.inr ⟨_, ws, rfl, hH, by rw [← rg.len]; exact wp_ok q (.refl hr) (.int _)⟩)
    · exact .inl (k W σ φ lh H [x] [v] Q hr rs q)
  · exact q.elim
theorem isD_ok {K : PySem.W.Frag} {mg : Str → Option Value} {φ : Nat → Addr} {lh : LH} {H : Hp} {x : D} {v : V} {z : Nat × DK} (hr : HR K mg φ lh H) (rx : RD K φ lh.length H x v) (h : dctD x lh = some z) : ∃ a, v = V.ref a ∧ IsD H a := by
  obtain ⟨i, kv⟩ := z
  cases kv with
  | k kvs =>
    obtain ⟨vs, rfl, hi, _, _, hH, rg⟩ := dctK_ok hr rx h
    exact ⟨_, rfl, .inl ⟨vs, .inl hH⟩⟩
  | t kvs =>
    obtain ⟨vs, rfl, hi, _, _, hH, rg⟩ := dctT_ok hr rx h
    exact ⟨_, rfl, .inr ⟨vs, .inl hH⟩⟩
theorem qe_dget1 (hu : X.A.units + 1 < cLine) (ho : QE X W o mo) (he : QE X W e me) (m : M1 X o "get" apos e cpos) : QE X W (.Call (.Attribute o "get" apos) [e] [] cpos) (mDGet1 mo me) := by
  refine qe_of (pe_dget1 hu ho he m) fun σ φ env lh H Q h1 h2 q => ?_
  refine rd_of h1 h2 (wp_step q fun x lh1 φ1 v H1 p1 r1 q1 => ?_)
  split at q1
  · rename_i z ez
    obtain ⟨a, rfl, hd⟩ := isD_ok p1.hr r1 ez
    refine ⟨a, rfl, hd, ?_⟩
    refine rd_of p1.hr (h2.up p1) (wp_step q1 fun y lh2 φ2 w H2 p2 r2 q2 => ?_)
    split at q2
    · rename_i i kvs k e1 e2
      obtain ⟨vs, ev, hi, _, _, hH, rg⟩ := dctK_ok p2.hr (r1.up p2) e1
      cases ev
      rw [keyD_ok r2 e2]
      refine ⟨_, DGet.k hH, ?_⟩
      obtain ⟨g1, g2⟩ := rg.get kc_ij (k := k)
      cases eg : getKD k kvs with
      | none =>
        rw [eg] at q2
        rw [g2 eg]
        exact wp_ok q2 (.refl p2.hr) .non
      | some d =>
        rw [eg] at q2
        obtain ⟨u, eu, ru⟩ := g1 d eg
        rw [eu]
        exact wp_ok q2 (.refl p2.hr) ru
    · exact q2.elim
  · exact q1.elim
theorem qe_dget2 (hu : X.A.units + 1 < cLine) (ho : QE X W o mo) (he : QE X W e me) (hf : QE X W f mf) (m : M2 X o "get" apos e f cpos) : QE X W (.Call (.Attribute o "get" apos) [e, f] [] cpos) (mDGet2 mo me mf) := by
  refine qe_of (pe_dget2 hu ho he hf m) fun σ φ env lh H Q h1 h2 q => ?_
  refine rd_of h1 h2 (wp_step q fun x lh1 φ1 v H1 p1 r1 q1 => ?_)
  split at q1
  · rename_i z ez
    obtain ⟨a, rfl, hd⟩ := isD_ok p1.hr r1 ez
    refine ⟨a, rfl, hd, ?_⟩
    refine rd_of p1.hr (h2.up p1) (wp_step q1 fun y lh2 φ2 w H2 p2 r2 q2 => ?_)
    refine rd_of p2.hr ((h2.up p1).up p2) (wp_step q2 fun u lh3 φ3 w3 H3 p3 r3 q3 => ?_)
    split at q3
    · rename_i i kvs k e1 e2
      obtain ⟨vs, ev, hi, _, _, hH, rg⟩ := dctK_ok p3.hr ((r1.up p2).up p3) e1
      cases ev
      rw [keyD_ok r2 e2]
      refine ⟨_, DGet.k hH, ?_⟩
      obtain ⟨g1, g2⟩ := rg.get kc_ij (k := k)
      cases eg : getKD k kvs with
      | none =>
        rw [eg] at q3
        rw [g2 eg]
        exact wp_ok q3 (.refl p3.hr) r3
      | some d =>
        rw [eg] at q3
        obtain ⟨u, eu, ru⟩ := g1 d eg
        rw [eu]
        exact wp_ok q3 (.refl p3.hr) ru
    · exact q3.elim
  · exact q1.elim
theorem qe_dpop1 (ho : QE X W o mo) (he : QE X W e me) (m : M1 X o "pop" apos e cpos) : QE X W (.Call (.Attribute o "pop" apos) [e] [] cpos) (mDPop1 mo me) := by
  refine qe_of (pe_dpop1 ho he m) fun σ φ env lh H Q h1 h2 q => ?_
  refine rd_of h1 h2 (wp_step q fun x lh1 φ1 v H1 p1 r1 q1 => ?_)
  split at q1
  · rename_i z ez
    obtain ⟨a, rfl, hd⟩ := isD_ok p1.hr r1 ez
    refine ⟨a, rfl, hd, ?_⟩
    refine rd_of p1.hr (h2.up p1) (wp_step q1 fun y lh2 φ2 w H2 p2 r2 q2 => ?_)
    split at q2
    · rename_i i kvs k e1 e2
      obtain ⟨vs, ev, hi, _, _, hH, rg⟩ := dctK_ok p2.hr (r1.up p2) e1
      cases ev
      split at q2
      · rename_i d eg
        obtain ⟨g1, g2⟩ := rg.get kc_ij (k := k)
        obtain ⟨u, eu, ru⟩ := g1 d eg
        have P2 := dK_put p2.hr hi (rg.drop kc_ij (k := k))
        exact ⟨vs, kc k, u, hH, keyD_ok r2 e2, eu, wp_ok q2 P2 (ru.up P2)⟩
      · exact q2.elim
    · exact q2.elim
  · exact q1.elim
end
end HM
set_option Elab.async false
set_option linter.all false
set_option maxRecDepth 100000
set_option maxHeartbeats 4000000
/-! ### clauses with and without a name -/
namespace L2
open PySem PySem.Spec PyProof.Rows
structure ClX where
  c : Value
  i : Option Nat
  ts : Addr → Value → Option Addr → TS
def wMix (K : PySem.W.Frag) (Wout : WX) (D : Ends) : List ClX → WX
  | [] => Wout
  | q :: r => fun cls d σ H => ∃ b, PySem.W.exmOne K cls q.c = some b ∧ (b = true → ∀ a, H a = none → (match q.i with
      | none => q.ts a cls d D σ H
      | some i => q.ts a cls d { nx := fun σ' H' => D.nx (σ'.set i none) H', rt := D.rt, bk := fun σ' H' => D.bk (σ'.set i none) H', ct := fun σ' H' => D.ct (σ'.set i none) H' } (σ.set i (some (.ref a))) H)) ∧
    (b = false → wMix K Wout D r cls d σ H)
inductive HdsM (X : Cx) : List ExceptHandler → List ClX → Prop
  | nil : HdsM X [] []
  | pl {x : Str} {c : Value} {ts : Addr → Value → Option Addr → TS} {b₀ : Stmt} {suite : List Stmt} {np pos' : Pos} {hds : List ExceptHandler} {l : List ClX} (hc : Names X x c)
      (hsu : ∀ (a : Addr) (oe : Obj) (cls : Value) (d : Option Addr) (pn : List (Addr × Obj)), Zc cls d oe → (∃ vs, oe.data = .fields vs) → PSs (X.suite a ((a, oe) :: pn)) (b₀ :: suite) (ts a cls d)) (r : HdsM X hds l) :
      HdsM X (.ExceptHandler (some (.Name x np)) none (b₀ :: suite) pos' :: hds) (⟨c, none, ts⟩ :: l)
  | nm {x n : Str} {i : Nat} {c : Value} {ts : Addr → Value → Option Addr → TS} {b₀ : Stmt} {suite : List Stmt} {np pos' : Pos} {hds : List ExceptHandler} {l : List ClX} (hN : X.N.Nodup) (hi : X.N[i]? = some n) (hln : X.env.kindOf n = some .local) (hc : Names X x c)
      (hsu : ∀ (a : Addr) (oe : Obj) (cls : Value) (d : Option Addr) (pn : List (Addr × Obj)), Zc cls d oe → (∃ vs, oe.data = .fields vs) → PSs (X.suite a ((a, oe) :: pn)) (b₀ :: suite) (ts a cls d)) (r : HdsM X hds l) :
      HdsM X (.ExceptHandler (some (.Name x np)) (some n) (b₀ :: suite) pos' :: hds) (⟨c, some i, ts⟩ :: l)
section
variable {X : Cx} {body : List Stmt} {h₀ : ExceptHandler} {hds : List ExceptHandler} {l : List ClX} {pos : Pos} {tb : WX → TS} {Wout : WX}
theorem ps_try_mix (hs : X.stack = X.env :: X.outer) (hf : X.env.frame = some X.env.locals) (tk : Takes X Wout)
    (hb : ∀ (W : WX) (pn : List (Addr × Obj)) (xe : Value → Shared → Prop), Takes (X.tr pn xe) W → PassesOwn (model X.prog X.w) X.A X.env xe → PSs (X.tr pn xe) body (tb W))
    (hh : HdsM X (h₀ :: hds) l) : PS X (.Try body (h₀ :: hds) [] [] pos) (fun D σ H => tb (wMix X.K Wout D l) D σ H) := by
  refine ⟨fun pins s σ H D I h => ?_⟩
  have ok := I.ok
  have hfr : X.A.frames = some (X.env :: X.outer) := by rw [ok.frames, hs]
  refine wpAny_Try_except ?_
  refine wpAny_mono ((hb (wMix X.K Wout D l) (X.pn ++ pins) (fun e s₁ => wpAny (model X.prog X.w) X.A (noteFrame e X.env) (fun _ s₂ => wpAny (model X.prog X.w) X.A (setFlight e none) (fun _ s₃ =>
    wpAny (model X.prog X.w) X.A (handleBy e X.env (h₀ :: hds)) (SP X pins D) X.xe s₃) X.xe s₂) X.xe s₁) (fun u s' xx => ?_) PassesOwn.looking).run [] s σ H D (I.toTry _) h) (fun f s1 hsp => ?_) (fun e s1 he => he)
  · obtain ⟨a, B, sI, pins', σ', H', cls, d, rfl, J', nb, up, sky, na, os, ag, w⟩ := xx
    have J : Inv X pins σ' H' sI := J'.ofTry ok
    have sky' : Sky B (X.env :: X.outer) a (Zc cls d) X.env.locals s'.heap := by rw [← hs]; exact sky
    show wpAny (model X.prog X.w) X.A (noteFrame (.ref a) X.env) _ _ _
    refine Sky.land Zc.steady hfr hf sky' fun h3 fl3 up3 => ?_
    have J3 : Inv X pins σ' H' { s' with heap := h3 } := J.landed nb fl3.1 (up.trans up3) os ag
    obtain ⟨oe3, vs3, he3, hz3, hd3⟩ := fl3.there
    have notFr : ∀ {h : Heap} {o : Obj} {vs : Array Value}, h.FunFrames B (X.env :: X.outer) → h.get? a = some o → o.data = .fields vs → a ∉ frs (X.env :: X.outer) := fun {h o vs} ff e dd hm => by
      obtain ⟨_, o', e', hnf⟩ := ff.mem hm
      rw [e] at e'; cases e'
      exact hnf _ dd
    have nfr := notFr fl3.2.2.1 he3 hd3
    have nL : a ≠ X.env.locals := fun z => nfr (List.mem_filterMap.mpr ⟨X.env, List.mem_cons_self, by rw [hf, z]⟩)
    have nF : a ∉ X.fs := fun hm => by
      obtain ⟨e, he, q⟩ := List.mem_filterMap.mp hm
      exact nfr (List.mem_filterMap.mpr ⟨e, List.mem_cons_of_mem _ he, q⟩)
    have S3 := J3.suite he3 hd3 na nL nF
    have go : ∀ {hds' : List ExceptHandler} {l' : List ClX}, HdsM X hds' l' → wMix X.K Wout D l' cls d σ' H' →
        wpAny (model X.prog X.w) X.A (handleBy (.ref a) X.env hds') (SP X pins D) X.xe { s' with heap := h3 } := by
      intro hds' l' hk
      induction hk with
      | nil =>
        intro w
        refine wpAny_handleBy_nil ?_
        obtain ⟨k1, k2, k3, oe, vs, T, oT, ts', he, hz, hd, h1, hr⟩ := id fl3
        unfold PySem.passOn
        refine wpAny_bind (wpAny_field he hd h1 ?_)
        rw [if_neg (show ¬ ((Value.ref T == Value.none) = true) from by simp)]
        have fin : wpAny (model X.prog X.w) X.A (setFlight (.ref a) X.env.frame) (fun _ s4 => wpAny (model X.prog X.w) X.A (throw (.ref a) : Sem Flow) (SP X pins D) X.xe s4) X.xe { s' with heap := h3 } := by
          rw [hf]
          refine HandSPX.setFlight_upZ fl3 fun h4 hh4 up4 => wpAny_throw (tk _ _ ?_)
          exact ⟨a, B, sI, pins, σ', H', cls, d, rfl, J, nb, (up.trans up3).trans up4, .inr (.inr (by rw [hs]; exact hh4)), na, os, ag, w⟩
        first
          | exact wpAny_bind (wpAny_pure (wpAny_bind fin))
          | exact wpAny_bind fin
      | @pl x c ts b₀ suite np pos' hds2 l2 hc hsu r ih =>
        intro w
        obtain ⟨b, hb1, hyes, hno⟩ := w
        refine wpAny_handleBy_cons (codeAny_handlers_test ?_) (by intro q; cases q)
        have LT : PySem.W.Looks (model X.prog X.w) h3 (typeOf (.ref a)) cls := fun A Q E s k q => wpAny_typeOf_ref (k _ _ he3) (by rw [hz3.1]; exact q)
        have LM := PySem.W.exm_one (M := model X.prog X.w) (J3.kIn) LT hb1
        have test : ∀ {Q : Value → Shared → Prop} {E : Value → Shared → Prop}, Q c { s' with heap := h3 } → wpAny (model X.prog X.w) (X.A.mark (some (.ref a))) (eval (.Name x np) X.env) Q E { s' with heap := h3 } := fun {Q E} q => by
          obtain ⟨hg, hdbg, hm | ⟨hm, hv, hnn⟩⟩ := hc
          · exact ld_glob (X := X.suite a ((a, oe3) :: (X.pn ++ pins))) S3 hg hm q hdbg
          · exact ld_blt (X := X.suite a ((a, oe3) :: (X.pn ++ pins))) S3 hg hm hv q hnn hdbg
        refine test (LM.here ?_)
        cases b with
        | true =>
          refine codeAny_handlers_suite ?_
          refine HandSPX.lands_againZ fl3 fun h4 fl4 up4 => ?_
          have J4 : Inv X pins σ' H' { s' with heap := h4 } := J.landed nb fl4.1 ((up.trans up3).trans up4) os ag
          obtain ⟨oe4, vs4, he4, hz4, hd4⟩ := fl4.there
          have S4 := J4.suite he4 hd4 na nL nF
          refine wpAny_mono ((hsu a oe4 cls d (X.pn ++ pins) hz4 ⟨_, hd4⟩).run [] _ _ H' _ S4 (hyes rfl a na)) (fun f s6 hsp => ?_) (fun _ _ z => False.elim z)
          cases f with
          | next =>
            obtain ⟨σ6, H6, S6, q6⟩ := hsp
            exact ⟨_, _, S6.unsuite ok, q6⟩
          | brk =>
            obtain ⟨σ6, H6, S6, q6⟩ := hsp
            exact ⟨_, _, S6.unsuite ok, q6⟩
          | cont =>
            obtain ⟨σ6, H6, S6, q6⟩ := hsp
            exact ⟨_, _, S6.unsuite ok, q6⟩
          | ret u =>
            obtain ⟨v6, σ6, H6, S6, r6, q6⟩ := hsp
            exact ⟨_, _, _, S6.unsuite ok, r6, q6⟩
        | false =>
          show wpAny _ X.A (handleBy (.ref a) X.env hds2) _ _ _
          exact ih (hno rfl)
      | @nm x n i c ts b₀ suite np pos' hds2 l2 hN hi hln hc hsu r ih =>
        intro w
        have hloc : Loc X.env.scope n := .inl hln
        obtain ⟨b, hb1, hyes, hno⟩ := w
        refine wpAny_handleBy_cons (codeAny_handlers_test ?_) (by intro q; cases q)
        have LT : PySem.W.Looks (model X.prog X.w) h3 (typeOf (.ref a)) cls := fun A Q E s k q => wpAny_typeOf_ref (k _ _ he3) (by rw [hz3.1]; exact q)
        have LM := PySem.W.exm_one (M := model X.prog X.w) (J3.kIn) LT hb1
        have test : ∀ {Q : Value → Shared → Prop} {E : Value → Shared → Prop}, Q c { s' with heap := h3 } → wpAny (model X.prog X.w) (X.A.mark (some (.ref a))) (eval (.Name x np) X.env) Q E { s' with heap := h3 } := fun {Q E} q => by
          obtain ⟨hg, hdbg, hm | ⟨hm, hv, hnn⟩⟩ := hc
          · exact ld_glob (X := X.suite a ((a, oe3) :: (X.pn ++ pins))) S3 hg hm q hdbg
          · exact ld_blt (X := X.suite a ((a, oe3) :: (X.pn ++ pins))) S3 hg hm hv q hnn hdbg
        refine test (LM.here ?_)
        cases b with
        | true =>
          refine codeAny_handlers_suite_as ?_
          refine HandSPX.lands_againZ fl3 fun h4 fl4 up4 => ?_
          have J4 : Inv X pins σ' H' { s' with heap := h4 } := J.landed nb fl4.1 ((up.trans up3).trans up4) os ag
          obtain ⟨oe4, vs4, he4, hz4, hd4⟩ := fl4.there
          have S4 := J4.suite he4 hd4 na nL nF
          refine store_ok (X := X.suite a ((a, oe4) :: (X.pn ++ pins))) (v := .ref a) S4 hN hi hloc rfl (fun s5 S5 => ?_) (.inr hln)
          refine wpAny_mono ((hsu a oe4 cls d (X.pn ++ pins) hz4 ⟨_, hd4⟩).run [] s5 _ H' _ S5 (hyes rfl a na)) (fun f s6 hsp => ?_) (fun _ _ z => False.elim z)
          have end_ : ∀ {σ6 : St} {H6 : Hp} {Q : Shared → Prop}, Inv (X.suite a ((a, oe4) :: (X.pn ++ pins))) [] σ6 H6 s6 → (∀ s7, Inv X pins (σ6.set i none) H6 s7 → Q s7) →
              wpAny (model X.prog X.w) X.A (do bindName X.env n .none; unbindBehindTheSuite X.env n pos') (fun _ s7 => Q s7) X.xe s6 := fun {σ6 H6 Q} S6 hq => gone_ok (S6.unsuite ok) hN hi hln hq
          cases f with
          | next =>
            obtain ⟨σ6, H6, S6, q6⟩ := hsp
            exact end_ S6 fun s7 J7 => ⟨_, _, J7, q6⟩
          | brk =>
            obtain ⟨σ6, H6, S6, q6⟩ := hsp
            exact end_ S6 fun s7 J7 => ⟨_, _, J7, q6⟩
          | cont =>
            obtain ⟨σ6, H6, S6, q6⟩ := hsp
            exact end_ S6 fun s7 J7 => ⟨_, _, J7, q6⟩
          | ret u =>
            obtain ⟨v6, σ6, H6, S6, r6, q6⟩ := hsp
            exact end_ S6 fun s7 J7 => ⟨_, _, _, J7, r6, q6⟩
        | false =>
          show wpAny _ X.A (handleBy (.ref a) X.env hds2) _ _ _
          exact ih (hno rfl)
    exact go hh w
  · cases f with
    | next =>
      obtain ⟨σ', H', J', q⟩ := hsp
      exact wpAny_execs_nil ⟨σ', H', J'.ofTry ok, q⟩
    | brk =>
      obtain ⟨σ', H', J', q⟩ := hsp
      exact ⟨σ', H', J'.ofTry ok, q⟩
    | cont =>
      obtain ⟨σ', H', J', q⟩ := hsp
      exact ⟨σ', H', J'.ofTry ok, q⟩
    | ret u =>
      obtain ⟨v, σ', H', J', r, q⟩ := hsp
      exact ⟨v, σ', H', J'.ofTry ok, r, q⟩
end
end L2
namespace HM
open PySem L2 PySem.Spec PyProof.Rows
/-! ### an error's reason -/
def redOf (x : XO) : Option (Option D) := match x.flds with
  | [] => some none
  | [(f, d)] => if f = "reason" then some (some d) else none
  | _ => none
def exD (p : Addr × Addr) (z : Option D) : D := match z with
  | none => .exn p.1
  | some d => .exr p.1 p.2 d
/-- e.reason -/
def hasR (rt : String → Bool) (x : XO) : Bool := rt x.cls && (match redOf x with
  | some (some _) => true
  | _ => false)
def mExF (rt : String → Bool) (x : XO) (p : Addr × Addr) (m : M D) : M D := fun e h => (m e h).bind fun d h1 => match d with
  | .exr a dx r => if a = p.1 ∧ dx = p.2 ∧ hasR rt x = true then .ok r h1 else .bad
  | _ => .bad
def noR (x : XO) : Bool := match redOf x with
  | some none => true
  | _ => false
def mExIs2 (x : XO) (p : Addr × Addr) (b : Option Bool) (m : M D) : M D := fun e h => (m e h).bind fun d h1 => match d, b with
  | .exn a, some c => if a = p.1 ∧ noR x = true then .ok (.bl c) h1 else .bad
  | .exr a dx _, some c => if a = p.1 ∧ dx = p.2 then .ok (.bl c) h1 else .bad
  | _, _ => .bad
inductive Cla where
  | pl (mt : String → Option Bool) (ms : MS)
  | nm (mt : String → Option Bool) (i : Nat) (ms : XO → Addr × Addr → MS)
def sTryMGo (x : XO) (e : EN) (h : LH) : List Cla → RSt
  | [] => .exc x e h
  | .pl mt ms :: r => match mt x.cls with
    | some true => (match ms e h with
      | .exc _ _ _ => .bad
      | z => z)
    | some false => sTryMGo x e h r
    | none => .bad
  | .nm mt i ms :: r => match mt x.cls with
    | some true => (match redOf x with
      | some z => (match ms x (0, 0) (e.set i (some (exD (0, 0) z))) h with
        | .ret d h2 => .ret d h2
        | .next e2 h2 => .next (e2.set i none) h2
        | .cnt e2 h2 => .cnt (e2.set i none) h2
        | _ => .bad)
      | none => .bad)
    | some false => sTryMGo x e h r
    | none => .bad
def sTryM (b : MS) (cl : List Cla) : MS := fun e h => match b e h with
  | .exc x e1 h1 => sTryMGo x e1 h1 cl
  | z => z
/-! the error's addresses are not seen -/
def Uq {α : Type} (i : Nat) (m : Addr × Addr → M α) : Prop := ∀ (p p' : Addr × Addr) (z : Option D) (e : EN), m p (e.set i (some (exD p z))) = m p' (e.set i (some (exD p' z)))
def UqS (i : Nat) (m : Addr × Addr → MS) : Prop := ∀ (p p' : Addr × Addr) (z : Option D) (e : EN) (h : LH), match m p (e.set i (some (exD p z))) h with
  | .ret d h2 => m p' (e.set i (some (exD p' z))) h = .ret d h2
  | .next e2 h2 => ∃ e0, e2 = List.set e0 i (some (exD p z)) ∧ m p' (e.set i (some (exD p' z))) h = .next (e0.set i (some (exD p' z))) h2
  | .cnt e2 h2 => ∃ e0, e2 = List.set e0 i (some (exD p z)) ∧ m p' (e.set i (some (exD p' z))) h = .cnt (e0.set i (some (exD p' z))) h2
  | _ => True
section
variable {i : Nat}
theorem uq_c {d : D} : Uq i fun _ => mC d := fun _ _ _ _ => rfl
theorem uq_nil : Uq i fun _ => mNil := fun _ _ _ _ => rfl
theorem uq_noP : Uq i fun _ => mNoP := fun _ _ _ _ => rfl
theorem uq_var {j : Nat} (hj : j ≠ i) : Uq i fun _ => mVar j := fun p p' z e => by
  show mVar j (e.set i (some (exD p z))) = mVar j (e.set i (some (exD p' z)))
  unfold mVar
  rw [List.getElem?_set_ne (Ne.symm hj), List.getElem?_set_ne (Ne.symm hj)]
theorem uq_get {e : EN} {p : Addr × Addr} {z : Option D} : (i < e.length ∧ (e.set i (some (exD p z)))[i]? = some (some (exD p z))) ∨ (¬ i < e.length ∧ (e.set i (some (exD p z)))[i]? = none) := by
  by_cases hi : i < e.length
  · exact .inl ⟨hi, List.getElem?_set_self hi⟩
  · exact .inr ⟨hi, List.getElem?_eq_none (by simp; omega)⟩
theorem uq_isE {x : XO} {b : Option Bool} : Uq i fun p => mExIs2 x p b (mVar i) := fun p p' z e => by
  funext h
  show mExIs2 x p b (mVar i) (e.set i (some (exD p z))) h = mExIs2 x p' b (mVar i) (e.set i (some (exD p' z))) h
  unfold mExIs2 mVar
  rcases uq_get (e := e) (p := p) (z := z) (i := i) with ⟨h1, e1⟩ | ⟨h1, e1⟩ <;> rcases uq_get (e := e) (p := p') (z := z) (i := i) with ⟨h2, e2⟩ | ⟨h2, e2⟩
  · rw [e1, e2]
    cases z <;> cases b <;> simp [Res.bind, exD]
  · exact absurd h1 h2
  · exact absurd h2 h1
  · rw [e1, e2]
    rfl
theorem uq_exF {rt : String → Bool} {x : XO} : Uq i fun p => mExF rt x p (mVar i) := fun p p' z e => by
  funext h
  show mExF rt x p (mVar i) (e.set i (some (exD p z))) h = mExF rt x p' (mVar i) (e.set i (some (exD p' z))) h
  unfold mExF mVar
  rcases uq_get (e := e) (p := p) (z := z) (i := i) with ⟨h1, e1⟩ | ⟨h1, e1⟩ <;> rcases uq_get (e := e) (p := p') (z := z) (i := i) with ⟨h2, e2⟩ | ⟨h2, e2⟩
  · rw [e1, e2]
    cases z <;> simp [Res.bind, exD]
  · exact absurd h1 h2
  · exact absurd h2 h1
  · rw [e1, e2]
    rfl
theorem uq_op {f : D → D → LH → Res D} {x y : Addr × Addr → M D} (hx : Uq i x) (hy : Uq i y) : Uq i fun p => mOp f (x p) (y p) := fun p p' z e => by
  show mOp f (x p) (y p) (e.set i (some (exD p z))) = mOp f (x p') (y p') (e.set i (some (exD p' z)))
  unfold mOp
  rw [hx p p' z e, hy p p' z e]
theorem uq_un {f : D → LH → Res D} {x : Addr × Addr → M D} (hx : Uq i x) : Uq i fun p => mUn f (x p) := fun p p' z e => by
  show mUn f (x p) (e.set i (some (exD p z))) = mUn f (x p') (e.set i (some (exD p' z)))
  unfold mUn
  rw [hx p p' z e]
theorem uq_cons {x : Addr × Addr → M D} {y : Addr × Addr → M (List D)} (hx : Uq i x) (hy : Uq i y) : Uq i fun p => mCons (x p) (y p) := fun p p' z e => by
  show mCons (x p) (y p) (e.set i (some (exD p z))) = mCons (x p') (y p') (e.set i (some (exD p' z)))
  unfold mCons
  rw [hx p p' z e, hy p p' z e]
theorem uq_app {f : MF} {y : Addr × Addr → M (List D)} (hy : Uq i y) : Uq i fun p => mApp f (y p) := fun p p' z e => by
  show mApp f (y p) (e.set i (some (exD p z))) = mApp f (y p') (e.set i (some (exD p' z)))
  unfold mApp
  rw [hy p p' z e]
theorem uq_meth {c m : String} {f : MF} {x : Addr × Addr → M D} {y : Addr × Addr → M (List D)} (hx : Uq i x) (hy : Uq i y) : Uq i fun p => mMeth c m f (x p) (y p) := fun p p' z e => by
  show mMeth c m f (x p) (y p) (e.set i (some (exD p z))) = mMeth c m f (x p') (y p') (e.set i (some (exD p' z)))
  unfold mMeth
  rw [hx p p' z e, hy p p' z e]
theorem uq_tup {y : Addr × Addr → M (List D)} (hy : Uq i y) : Uq i fun p => mTup (y p) := fun p p' z e => by
  show mTup (y p) (e.set i (some (exD p z))) = mTup (y p') (e.set i (some (exD p' z)))
  unfold mTup
  rw [hy p p' z e]
theorem uq_lst {y : Addr × Addr → M (List D)} (hy : Uq i y) : Uq i fun p => mLst (y p) := fun p p' z e => by
  show mLst (y p) (e.set i (some (exD p z))) = mLst (y p') (e.set i (some (exD p' z)))
  unfold mLst
  rw [hy p p' z e]
theorem uq_and {x y : Addr × Addr → M D} (hx : Uq i x) (hy : Uq i y) : Uq i fun p => mAnd (x p) (y p) := fun p p' z e => by
  show mAnd (x p) (y p) (e.set i (some (exD p z))) = mAnd (x p') (y p') (e.set i (some (exD p' z)))
  unfold mAnd
  rw [hx p p' z e, hy p p' z e]
theorem uq_or {x y : Addr × Addr → M D} (hx : Uq i x) (hy : Uq i y) : Uq i fun p => mOr (x p) (y p) := fun p p' z e => by
  show mOr (x p) (y p) (e.set i (some (exD p z))) = mOr (x p') (y p') (e.set i (some (exD p' z)))
  unfold mOr
  rw [hx p p' z e, hy p p' z e]
theorem uq_not {x : Addr × Addr → M D} (hx : Uq i x) : Uq i fun p => mNot (x p) := fun p p' z e => by
  show mNot (x p) (e.set i (some (exD p z))) = mNot (x p') (e.set i (some (exD p' z)))
  unfold mNot
  rw [hx p p' z e]
theorem uq_tst {x : Addr × Addr → M D} (hx : Uq i x) : Uq i fun p => mTst (x p) := fun p p' z e => by
  show mTst (x p) (e.set i (some (exD p z))) = mTst (x p') (e.set i (some (exD p' z)))
  unfold mTst
  rw [hx p p' z e]
theorem uq_tru {x : Addr × Addr → M D} (hx : Uq i x) : Uq i fun p => mTru (x p) := fun p p' z e => by
  show mTru (x p) (e.set i (some (exD p z))) = mTru (x p') (e.set i (some (exD p' z)))
  unfold mTru
  rw [hx p p' z e]
theorem uq_tNot {x : Addr × Addr → M Bool} (hx : Uq i x) : Uq i fun p => mTNot (x p) := fun p p' z e => by
  show mTNot (x p) (e.set i (some (exD p z))) = mTNot (x p') (e.set i (some (exD p' z)))
  unfold mTNot
  rw [hx p p' z e]
theorem uq_tAnd {x y : Addr × Addr → M Bool} (hx : Uq i x) (hy : Uq i y) : Uq i fun p => mTAnd (x p) (y p) := fun p p' z e => by
  show mTAnd (x p) (y p) (e.set i (some (exD p z))) = mTAnd (x p') (y p') (e.set i (some (exD p' z)))
  unfold mTAnd
  rw [hx p p' z e, hy p p' z e]
theorem uq_tOr {x y : Addr × Addr → M Bool} (hx : Uq i x) (hy : Uq i y) : Uq i fun p => mTOr (x p) (y p) := fun p p' z e => by
  show mTOr (x p) (y p) (e.set i (some (exD p z))) = mTOr (x p') (y p') (e.set i (some (exD p' z)))
  unfold mTOr
  rw [hx p p' z e, hy p p' z e]
theorem uq_isI {b : BT} {x : Addr × Addr → M D} (hx : Uq i x) : Uq i fun p => mIsI b (x p) := fun p p' z e => by
  show mIsI b (x p) (e.set i (some (exD p z))) = mIsI b (x p') (e.set i (some (exD p' z)))
  unfold mIsI
  rw [hx p p' z e]
theorem uq_ret {x : Addr × Addr → M D} (hx : Uq i x) : UqS i fun p => sRet (x p) := fun p p' z e h => by
  have := hx p p' z e
  show match sRet (x p) (e.set i (some (exD p z))) h with
    | .ret d h2 => sRet (x p') (e.set i (some (exD p' z))) h = .ret d h2
    | .next e2 h2 => ∃ e0, e2 = List.set e0 i (some (exD p z)) ∧ sRet (x p') (e.set i (some (exD p' z))) h = .next (e0.set i (some (exD p' z))) h2
    | .cnt e2 h2 => ∃ e0, e2 = List.set e0 i (some (exD p z)) ∧ sRet (x p') (e.set i (some (exD p' z))) h = .cnt (e0.set i (some (exD p' z))) h2
    | _ => True
  unfold sRet rsBind
  dsimp only
  rw [this]
  cases x p' (e.set i (some (exD p' z))) h <;> simp
theorem uq_retN : UqS i fun _ => sRetN := fun p p' z e h => rfl
theorem uq_sNil : UqS i fun _ => sNil := fun p p' z e h => ⟨e, rfl, rfl⟩
theorem uq_expr {x : Addr × Addr → M D} (hx : Uq i x) : UqS i fun p => sExpr (x p) := fun p p' z e h => by
  have := hx p p' z e
  show match sExpr (x p) (e.set i (some (exD p z))) h with
    | .ret d h2 => sExpr (x p') (e.set i (some (exD p' z))) h = .ret d h2
    | .next e2 h2 => ∃ e0, e2 = List.set e0 i (some (exD p z)) ∧ sExpr (x p') (e.set i (some (exD p' z))) h = .next (e0.set i (some (exD p' z))) h2
    | .cnt e2 h2 => ∃ e0, e2 = List.set e0 i (some (exD p z)) ∧ sExpr (x p') (e.set i (some (exD p' z))) h = .cnt (e0.set i (some (exD p' z))) h2
    | _ => True
  unfold sExpr rsBind
  dsimp only
  rw [this]
  cases x p' (e.set i (some (exD p' z))) h with
  | ok d h2 => exact ⟨e, rfl, rfl⟩
  | exc x h2 => trivial
  | bad => trivial
theorem uq_set {j : Nat} (hj : j ≠ i) {x : Addr × Addr → M D} (hx : Uq i x) : UqS i fun p => sSet j (x p) := fun p p' z e h => by
  have := hx p p' z e
  show match sSet j (x p) (e.set i (some (exD p z))) h with
    | .ret d h2 => sSet j (x p') (e.set i (some (exD p' z))) h = .ret d h2
    | .next e2 h2 => ∃ e0, e2 = List.set e0 i (some (exD p z)) ∧ sSet j (x p') (e.set i (some (exD p' z))) h = .next (e0.set i (some (exD p' z))) h2
    | .cnt e2 h2 => ∃ e0, e2 = List.set e0 i (some (exD p z)) ∧ sSet j (x p') (e.set i (some (exD p' z))) h = .cnt (e0.set i (some (exD p' z))) h2
    | _ => True
  unfold sSet rsBind
  dsimp only
  rw [this]
  cases x p' (e.set i (some (exD p' z))) h with
  | ok d h2 => exact ⟨e.set j (some d), (List.set_comm _ _ hj.symm), by dsimp only; rw [List.set_comm _ _ hj.symm]⟩
  | exc x h2 => trivial
  | bad => trivial
theorem uq_if {c : Addr × Addr → M Bool} {x y : Addr × Addr → MS} (hc : Uq i c) (hx : UqS i x) (hy : UqS i y) : UqS i fun p => sIf (c p) (x p) (y p) := fun p p' z e h => by
  have := hc p p' z e
  show match sIf (c p) (x p) (y p) (e.set i (some (exD p z))) h with
    | .ret d h2 => sIf (c p') (x p') (y p') (e.set i (some (exD p' z))) h = .ret d h2
    | .next e2 h2 => ∃ e0, e2 = List.set e0 i (some (exD p z)) ∧ sIf (c p') (x p') (y p') (e.set i (some (exD p' z))) h = .next (e0.set i (some (exD p' z))) h2
    | .cnt e2 h2 => ∃ e0, e2 = List.set e0 i (some (exD p z)) ∧ sIf (c p') (x p') (y p') (e.set i (some (exD p' z))) h = .cnt (e0.set i (some (exD p' z))) h2
    | _ => True
  unfold sIf rsBind
  dsimp only
  rw [this]
  cases c p' (e.set i (some (exD p' z))) h with
  | ok b h2 =>
    cases b with
    | true => exact hx p p' z e h2
    | false => exact hy p p' z e h2
  | exc x h2 => trivial
  | bad => trivial
theorem uq_seq {x y : Addr × Addr → MS} (hx : UqS i x) (hy : UqS i y) : UqS i fun p => sSeq (x p) (y p) := fun p p' z e h => by
  have a := hx p p' z e h
  show match sSeq (x p) (y p) (e.set i (some (exD p z))) h with
    | .ret d h2 => sSeq (x p') (y p') (e.set i (some (exD p' z))) h = .ret d h2
    | .next e2 h2 => ∃ e0, e2 = List.set e0 i (some (exD p z)) ∧ sSeq (x p') (y p') (e.set i (some (exD p' z))) h = .next (e0.set i (some (exD p' z))) h2
    | .cnt e2 h2 => ∃ e0, e2 = List.set e0 i (some (exD p z)) ∧ sSeq (x p') (y p') (e.set i (some (exD p' z))) h = .cnt (e0.set i (some (exD p' z))) h2
    | _ => True
  unfold sSeq
  revert a
  cases x p (e.set i (some (exD p z))) h with
  | next e2 h2 =>
    rintro ⟨e0, rfl, a⟩
    rw [a]
    exact hy p p' z e0 h2
  | ret d h2 => intro a; dsimp only at a ⊢; rw [a]
  | cnt e2 h2 =>
    rintro ⟨e0, rfl, a⟩
    exact ⟨e0, rfl, by rw [a]⟩
  | brk e2 h2 => intro a; trivial
  | exc x e2 h2 => intro a; trivial
  | bad => intro a; trivial
end
section
variable {X : Cx} {W : WX}
/-- in a suite: what is known of the caught error -/
structure InSu (mg : Str → Option Value) (x : XO) (C0 : Addr) (d : Option Addr) (oe : Obj) : Prop where
  gC : mg (Str.ofString x.cls) = some (.ref C0)
  z : Zc (.ref C0) d oe
  f : ∃ vs, oe.data = .fields vs
  d0 : redOf x = some none → d = none
  d1 : ∀ r, redOf x = some (some r) → ∃ dx, d = some dx
/-- the clauses of a try -/
inductive QHm (X : Cx) : List ExceptHandler → List Cla → List ClX → Prop
  | nil : QHm X [] [] []
  | pl {y : String} {C : Addr} {mt : String → Option Bool} {ms : MS} {b₀ : Stmt} {suite : List Stmt} {np pos' : Pos} {hds : List ExceptHandler} {cl : List Cla} {l : List ClX}
      (gC : X.mg (Str.ofString y) = some (.ref C)) (hg : Gl X (Str.ofString y)) (hm : MtOk X.K X.mg y mt) (hsu : ∀ (a : Addr) (oe : Obj) (pn : List (Addr × Obj)), QSs (X.suite a ((a, oe) :: pn)) W0 (b₀ :: suite) ms) (r : QHm X hds cl l)
      (hdb : (Str.ofString y == ("__debug__" : Str)) = false := by decide +kernel) :
      QHm X (.ExceptHandler (some (.Name (Str.ofString y) np)) none (b₀ :: suite) pos' :: hds) (.pl mt ms :: cl) (⟨.ref C, none, fun _ _ _ => rdS X.K X.mg W0 ms⟩ :: l)
  | nm {y : String} {C : Addr} {mt : String → Option Bool} {n : Str} {i : Nat} {ms : XO → Addr × Addr → MS} {b₀ : Stmt} {suite : List Stmt} {np pos' : Pos} {hds : List ExceptHandler} {cl : List Cla} {l : List ClX}
      (hN : X.N.Nodup) (hi : X.N[i]? = some n) (hln : X.env.kindOf n = some .local)
      (gC : X.mg (Str.ofString y) = some (.ref C)) (hg : Gl X (Str.ofString y)) (hm : MtOk X.K X.mg y mt)
      (hsu : ∀ (a : Addr) (oe : Obj) (pn : List (Addr × Obj)) (x : XO) (C0 : Addr) (d : Option Addr), InSu X.mg x C0 d oe → QSs (X.suite a ((a, oe) :: pn)) W0 (b₀ :: suite) (ms x (a, d.getD 0)))
      (un : ∀ x, UqS i (ms x)) (r : QHm X hds cl l) (hdb : (Str.ofString y == ("__debug__" : Str)) = false := by decide +kernel) :
      QHm X (.ExceptHandler (some (.Name (Str.ofString y) np)) (some n) (b₀ :: suite) pos' :: hds) (.nm mt i ms :: cl)
        (⟨.ref C, some i, fun a cls d D σ H => ∃ x C0, X.mg (Str.ofString x.cls) = some (.ref C0) ∧ cls = .ref C0 ∧ (redOf x = some none → d = none) ∧ (∀ r, redOf x = some (some r) → ∃ dx, d = some dx) ∧ rdS X.K X.mg W0 (ms x (a, d.getD 0)) D σ H⟩ :: l)
theorem QHm.ok {hds : List ExceptHandler} {cl : List Cla} {l : List ClX} (q : QHm X hds cl l) : HdsM X hds l := by
  induction q with
  | nil => exact .nil
  | pl gC hg hm hsu r hdb ih => exact .pl ⟨hg, hdb, .inl gC⟩ (fun a oe cls d pn _ _ => hsu a oe pn) ih
  | nm hN hi hln gC hg hm hsu un r hdb ih =>
    refine .nm hN hi hln ⟨hg, hdb, .inl gC⟩ (fun a oe cls d pn hz hfl => ⟨fun pins s σ H D I ⟨x, C0, h1, h2, h3, h4, h5⟩ => ?_⟩) ih
    subst h2
    exact (hsu a oe pn x C0 d ⟨h1, hz, hfl, h3, h4⟩).run pins s σ H D I h5
theorem goM_ok {hds : List ExceptHandler} {cl : List Cla} {l : List ClX} (q : QHm X hds cl l) {Wout : WX} {D : Ends} {φ φ1 : Nat → Addr} {lh lh1 : LH} {H H1 : Hp} {x : XO} {e1 : EN} {cls : Value} {dd : Option Addr} {σ1 : L2.St}
    (p : Po X.K X.mg φ lh H φ1 lh1 H1) (er : ER X.K X.mg φ1 lh1.length H1 x cls dd) (rs : RS X.K φ1 lh1.length H1 e1 σ1)
    (h : wps X.K X.mg Wout (sTryMGo x e1 lh1 cl) φ lh H D) : wMix X.K Wout D l cls dd σ1 H1 := by
  induction q with
  | nil => exact h φ1 cls dd σ1 H1 p er rs
  | @pl y C mt ms b₀ suite np pos' hds cl l gC hg hm hsu r hdb ih =>
    unfold sTryMGo at h
    cases em : mt x.cls with
    | none => rw [em] at h; exact h.elim
    | some b =>
      rw [em] at h
      obtain ⟨C1, hC1, hc1, _⟩ := er
      obtain ⟨C2, D2, hC2, hD2, hx⟩ := hm _ _ em
      rw [hC1] at hC2
      rw [gC] at hD2
      cases hC2
      cases hD2
      subst hc1
      refine ⟨b, hx, fun hb a _ => ?_, fun hb => ?_⟩
      · subst hb
        refine ⟨φ1, e1, lh1, p.hr, rs, ?_⟩
        dsimp only at h
        revert h
        cases ms e1 lh1 with
        | next e2 h2 => exact fun h φ' σ' H' p' r' => h φ' σ' H' (p.trans p') r'
        | ret d h2 => exact fun h φ' v H' p' r' => h φ' v H' (p.trans p') r'
        | brk e2 h2 => exact fun h φ' σ' H' p' r' => h φ' σ' H' (p.trans p') r'
        | cnt e2 h2 => exact fun h φ' σ' H' p' r' => h φ' σ' H' (p.trans p') r'
        | exc z e2 h2 => exact fun h => h.elim
        | bad => exact fun h => h.elim
      · subst hb
        exact ih h
  | @nm y C mt n i ms b₀ suite np pos' hds cl l hN hi hln gC hg hm hsu un r hdb ih =>
    unfold sTryMGo at h
    cases em : mt x.cls with
    | none => rw [em] at h; exact h.elim
    | some b =>
      rw [em] at h
      have er' := er
      obtain ⟨C1, hC1, hc1, hd1, hd2⟩ := er'
      obtain ⟨C2, D2, hC2, hD2, hx⟩ := hm _ _ em
      rw [hC1] at hC2
      rw [gC] at hD2
      cases hC2
      cases hD2
      subst hc1
      refine ⟨b, hx, fun hb a _ => ?_, fun hb => ?_⟩
      · subst hb
        dsimp only at h
        cases ez : redOf x with
        | none => rw [ez] at h; exact h.elim
        | some z =>
          rw [ez] at h
          dsimp only at h
          have hz : (z = none → dd = none) ∧ (∀ r, z = some r → ∃ d, dd = some d) ∧ RD X.K φ1 lh1.length H1 (exD (a, dd.getD 0) z) (.ref a) := by
            unfold redOf at ez
            cases fl : x.flds with
            | nil =>
              rw [fl] at ez
              cases ez
              exact ⟨fun _ => hd1 fl, fun r hr => (by cases hr), .exn a⟩
            | cons f fs =>
              obtain ⟨dx, vs, e1, e2, rf⟩ := hd2 (by rw [fl]; simp)
              rw [fl] at ez rf
              obtain ⟨fn, d⟩ := f
              cases fs with
              | cons g gs => cases ez
              | nil =>
                dsimp only at ez
                split at ez
                · rename_i efn
                  cases ez
                  subst efn e1
                  refine ⟨fun hr => (by cases hr), fun r _ => ⟨dx, rfl⟩, ?_⟩
                  cases rf with
                  | cons r1 r2 =>
                    cases r2
                    exact .exr a dx e2 r1
                · cases ez
          obtain ⟨z0, z1, rz⟩ := hz
          refine ⟨x, C1, hC1, rfl, fun e => z0 (by rw [ez] at e; exact Option.some.inj e), fun r e => z1 r (by rw [ez] at e; exact Option.some.inj e), φ1, e1.set i (some (exD (a, dd.getD 0) z)), lh1, p.hr, rs.set rz i, ?_⟩
          have u := un x (0, 0) (a, dd.getD 0) z e1 lh1
          revert h u
          cases ms x (0, 0) (e1.set i (some (exD (0, 0) z))) lh1 with
          | ret d h2 =>
            intro q u
            dsimp only at u q
            rw [u]
            exact fun φ' v H' p' r' => q φ' v H' (p.trans p') r'
          | next e2 h2 =>
            rintro q ⟨e0, us, ue⟩
            dsimp only at q
            rw [ue]
            subst us
            rw [List.set_set] at q
            refine fun φ' σ' H' p' r' => q φ' _ H' (p.trans p') ?_
            have := r'.clear i
            rw [List.set_set] at this
            exact this
          | cnt e2 h2 =>
            rintro q ⟨e0, us, ue⟩
            dsimp only at q
            rw [ue]
            subst us
            rw [List.set_set] at q
            refine fun φ' σ' H' p' r' => q φ' _ H' (p.trans p') ?_
            have := r'.clear i
            rw [List.set_set] at this
            exact this
          | brk e2 h2 => intro q; exact q.elim
          | exc z e2 h2 => intro q; exact q.elim
          | bad => intro q; exact q.elim
      · subst hb
        exact ih h
theorem qs_tryM {body : List Stmt} {mb : MS} {h₀ : ExceptHandler} {hds : List ExceptHandler} {cl : List Cla} {l : List ClX} {pos : Pos} (hs : X.stack = X.env :: X.outer) (hf : X.env.frame = some X.env.locals) (tk : Takes X W)
    (hb : ∀ (W' : WX) (pn : List (Addr × Obj)) (xe : Value → Shared → Prop), Takes (X.tr pn xe) W' → PassesOwn (model X.prog X.w) X.A X.env xe → QSs (X.tr pn xe) W' body mb)
    (hh : QHm X (h₀ :: hds) cl l) : QS X W (.Try body (h₀ :: hds) [] [] pos) (sTryM mb cl) := by
  refine psI (ps_try_mix hs hf tk (tb := fun W' => rdS X.K X.mg W' mb) hb hh.ok) fun D σ H ⟨φ, env, lh, h1, h2, q⟩ => ?_
  refine ⟨φ, env, lh, h1, h2, ?_⟩
  unfold sTryM at q
  revert q
  cases mb env lh with
  | next e2 l2 => exact fun q => q
  | ret d l2 => exact fun q => q
  | brk e2 l2 => exact fun q => q
  | cnt e2 l2 => exact fun q => q
  | exc x e1 lh1 => exact fun q φ1 cls dd σ1 H1 p er rs => goM_ok hh p er rs q
  | bad => exact fun q => q
/-- e.reason -/
structure XfK (K : PySem.W.Frag) (mg : Str → Option Value) (rt : String → Bool) : Prop where
  ex : ∀ x C, mg (Str.ofString x) = some (.ref C) → rt x = true → XfC K C ∧ PySem.W.findIn K (.ref C) (Str.ofString "reason") = some none
theorem qe_exF {a C0 : Addr} {oe : Obj} {pn : List (Addr × Obj)} {e : Expr} {ma : M D} {x : XO} {d : Option Addr} {pos : Pos} {rt : String → Bool} (k : XfK X.K X.mg rt) (q : InSu X.mg x C0 d oe)
    (he : QE (X.suite a ((a, oe) :: pn)) W e ma) (hb : attributeBase e (Str.ofString "reason") X.env (eval e X.env) = eval e X.env := by rfl) :
    QE (X.suite a ((a, oe) :: pn)) W (.Attribute e (Str.ofString "reason") pos) (mExF rt x (a, d.getD 0) ma) := by
  by_cases hr : hasR rt x = true
  · have hr' := hr
    unfold hasR at hr
    rw [Bool.and_eq_true] at hr
    obtain ⟨xf, hno⟩ := k.ex x.cls C0 q.gC hr.1
    obtain ⟨r0, er0⟩ : ∃ r, redOf x = some (some r) := by
      have := hr.2
      split at this
      · rename_i r e; exact ⟨r, e⟩
      · cases this
    obtain ⟨dx, rfl⟩ := q.d1 r0 er0
    refine qe_of (pe_xf xf hno q.z q.f he hb) fun σ φ env lh H Q h1 h2 g => ?_
    refine rd_of h1 h2 (wp_step g fun v lh1 φ1 u H1 p1 r1 q1 => ?_)
    split at q1
    · rename_i a' dx' r
      split at q1
      · rename_i c
        obtain ⟨c1, c2, _⟩ := c
        cases r1 with
        | exr _ _ hX rr =>
          subst c1 c2
          exact ⟨rfl, rfl, _, _, _, rfl, hX, look_pos rfl, wp_ok q1 (.refl p1.hr) rr⟩
      · exact q1.elim
    · exact q1.elim
  · refine ⟨fun pins s σ H Q I ⟨φ, env, lh, h1, h2, g⟩ => ?_⟩
    refine attr_of hb (thn (he.run pins s σ H (fun _ _ => False) I ⟨φ, env, lh, h1, h2, wp_step g fun v lh1 φ1 u H1 p1 r1 q1 => ?_⟩) fun u s1 hh => ?_)
    · split at q1
      · split at q1
        · rename_i c
          exact absurd c.2.2 hr
        · exact q1.elim
      · exact q1.elim
    · obtain ⟨_, _, _, _, f⟩ := hh
      exact f.elim
end
end HM
set_option Elab.async false
set_option linter.all false
set_option maxRecDepth 100000
set_option maxHeartbeats 4000000
namespace HM
open PySem L2 PySem.Spec PyProof.Rows
/-! ### raise X(e), X's __init__ stores a reason -/
def spLow (C : Addr) : Sp := fun vs H Q E => ∃ a v, vs = [.ref a, v] ∧ H a = some (exo a C none) ∧ ∀ dx, H dx = none → dx ≠ a → Q .non (upd (upd H dx (exd dx [(Str.ofString "reason", v)])) a (exo a C (some dx)))
structure LowC (K : PySem.W.Frag) (C : Addr) : Prop where
  T : OexC K C
  no : PySem.W.findIn K (.ref C) (Str.ofString "reason") = some none
theorem ok_low {CX : CXT} {P : Program} {w : World} {K : PySem.W.Frag} {mg : Str → Option Value} {base : Heap} {x qual : Str} {st : Stmt} {f C : Addr} {fd : FuncData} {k : Nat} {p1 p2 p3 p4 : Pos} (F : Fun K x qual st f fd) (S : FnScope [Str.ofString "self", Str.ofString "reason"] [Str.ofString "self", Str.ofString "reason"] (defScope st))
    (hb : defBody st = [.Assign [.Attribute (.Name (Str.ofString "self") p1) (Str.ofString "reason") p2] (.Name (Str.ofString "reason") p3) p4]) (l1 : (defScope st).names.lookup (Str.ofString "self") = some .local) (l2 : (defScope st).names.lookup (Str.ofString "reason") = some .local) (L : LowC K C) :
    FnOk P w K mg base CX (k + 1) f fd [Str.ofString "self", Str.ofString "reason"] (spLow C) := by
  obtain ⟨oc, od, kV, doc, pm, an, cdv, ct, osl, rfl, lk, hcd⟩ := F.ex
  refine fn_of lk hcd S (fun vs H Q E ⟨a, v, h, _⟩ => by rw [h]; rfl) fun A outer s H vs Q E hr hsp => ?_
  obtain ⟨a, v, rfl, ha, hq⟩ := hsp
  rw [hb]
  refine ⟨_, pss_one (ps_ost (pv 0 (hv := .inl l1)) (pv 1 (hv := .inl l2))), ?_⟩
  exact ⟨v, rfl, _, rfl, a, C, rfl, L.T, L.no, .inl ⟨ha, fun dx h1 h2 => hq dx h1 h2⟩⟩
structure XCR (P : Program) (w : World) (K : PySem.W.Frag) (mg : Str → Option Value) (base : Heap) (x : String) : Prop where
  ex : ∃ C fI fd, mg (Str.ofString x) = some (.ref C) ∧ LowC K C ∧ PySem.W.findIn K (.ref C) "__init__" = some (some (.ref fI)) ∧ PySem.W.typeIn K (.ref fI) = some (.type "function") ∧ Binds K fd [Str.ofString "self", Str.ofString "reason"] [] ∧
    FnOk P w K mg base CX0 1 fI fd [Str.ofString "self", Str.ofString "reason"] (spLow C)
def sRaiseI (x : String) (m : M D) : MS := fun e h => rsBind (m e h) e fun d h1 => .exc ⟨x, [("reason", d)]⟩ e h1
section
variable {X : Cx} {W : WX}
theorem del_upd {H : Hp} {a dx : Addr} {o u : HO} (ha : H a = none) (hdx : dx ≠ a) (z : HO) : upd (del (upd (upd (upd H a o) dx z) a u) a) dx z = upd H dx z := by
  funext b
  by_cases hb : b = dx
  · subst hb; rw [upd_same, upd_same]
  · rw [upd_ne hb, upd_ne hb]
    by_cases ha2 : b = a
    · subst ha2; rw [del_same]; exact ha.symm
    · rw [del_ne ha2, upd_ne ha2, upd_ne hb, upd_ne ha2]
theorem mklow_ok {K : PySem.W.Frag} {mg : Str → Option Value} {x : String} {C : Addr} {σ : L2.St} {H : Hp} {φ : Nat → Addr} {lh : LH} {v : V} {d : D} {env : EN} {D' : Ends} (gC : mg (Str.ofString x) = some (.ref C)) (h1 : HR K mg φ lh H) (h2 : RS K φ lh.length H env σ) (r : RD K φ lh.length H d v)
    (q : wps K mg W (.exc ⟨x, [("reason", d)]⟩ env lh) φ lh H D') : [v].length ≤ 1000 ∧ ∀ a, H a = none → spLow C (.ref a :: ([v] ++ [])) (upd H a (exo a C none))
      (fun v H2 => v = .non ∧ ∃ (d : Addr) (fs : List (Str × V)), H2 a = some (exo a C (some d)) ∧ H2 d = some (exd d fs) ∧ H d = none ∧ W (.ref C) (some d) σ (upd (del H2 a) d (.xd fs))) (fun _ _ _ => False) := by
  refine ⟨by simp, fun a ha => ⟨a, v, rfl, upd_same, fun dx hdx hne => ⟨rfl, dx, [(Str.ofString "reason", v)], upd_same, ?_, ?_, ?_⟩⟩⟩
  · rw [upd_ne hne, upd_same]
  · rw [upd_ne hne] at hdx; exact hdx
  · have hdx' : H dx = none := by rw [upd_ne hne] at hdx; exact hdx
    have e : upd (del (upd (upd (upd H a (exo a C none)) dx (exd dx [(Str.ofString "reason", v)])) a (exo a C (some dx))) a) dx (.xd [(Str.ofString "reason", v)]) = upd H dx (.xd [(Str.ofString "reason", v)]) := by
      funext b
      by_cases hb : b = dx
      · subst hb; rw [upd_same, upd_same]
      · rw [upd_ne hb, upd_ne hb]
        by_cases ha2 : b = a
        · subst ha2; rw [del_same]; exact ha.symm
        · rw [del_ne ha2, upd_ne ha2, upd_ne hb, upd_ne ha2]
    rw [e]
    have P : Po K mg φ lh H φ lh (upd H dx (.xd [(Str.ofString "reason", v)])) := Po.side h1 hdx'
    exact q φ (.ref C) (some dx) σ _ P ⟨C, gC, rfl, fun h => (by cases h), fun _ => ⟨dx, _, rfl, upd_same, .cons (r.up P) .nil⟩⟩ (h2.up P)
theorem qs_raiseI {x : String} {e : Expr} {ma : M D} {p pos pos' : Pos} (hc : X.calm = true) (tk : Takes X W) (T : XCR X.prog X.w X.K X.mg X.base x) (hr : Room 2 X.A) (hg : Gl X (Str.ofString x)) (ha : QE X W e ma) (hdb : (Str.ofString x == ("__debug__" : Str)) = false := by decide +kernel)
    (he : starEach [e] X.env = (false, eval e X.env) :: starEach [] X.env := by rfl) (hpl : (backTo pos (starEach [] X.env)).any (·.1) = false := by rfl) :
    QS X W (.Raise (some (.Call (.Name (Str.ofString x) p) [e] [] pos)) none pos') (sRaiseI x ma) := by
  obtain ⟨C, fI, fd, gC, L, iC, tI, hb, F1⟩ := T.ex
  refine psI (ps_raise hc tk (pmk_oex L.T iC tI F1 hr hb .nil (fun _ _ _ _ _ _ _ h => h.elim) hg gC (qa_cons ha qa_nil he) hdb he hpl)) fun D σ H ⟨φ, env, lh, h1, h2, q⟩ => ?_
  have q' : wps X.K X.mg W (sRaiseI x ma env lh) φ lh H D := q
  unfold sRaiseI at q'
  have q2 : wps X.K X.mg W (rsBind (mCons ma mNil env lh) env fun ds h1 => match ds with
    | [d] => .exc ⟨x, [("reason", d)]⟩ env h1
    | _ => .bad) φ lh H D := by
    revert q'
    unfold mCons
    cases ma env lh with
    | ok d l => exact fun z => z
    | exc z l => exact fun z => z
    | bad => exact fun z => z
  refine rd_of h1 h2 (wps_step h2 q2 fun ds lh1 φ1 vs H1 p1 r1 q1 => ?_)
  split at q1
  · rename_i d
    obtain ⟨v, rfl, rv⟩ := r1.one
    exact mklow_ok gC p1.hr (h2.up p1) rv q1
  · exact q1.elim
end
/-! ### isinstance(e, C) of a caught error that may have a reason -/
end HM
namespace PySem.W
open PySem PySem.Spec PySem.Calls PyProof.Rows
section
variable {prog : Program} {w : World} {A : Around} {E : Value → Shared → Prop} {s : Shared} {K : Frag} {x D : Addr} {ox : Obj} {od : Option Obj}
theorem kin_classE2 {Q : Option Value → Shared → Prop} (hga : findIn K (.ref D) "__getattribute__" = some (some (.builtin "BaseException.__getattribute__"))) (hgt : findIn K (.ref D) "__getattr__" = some none) (hsub : subIn K (.ref D) (.type "BaseException") = some true)
    (hdct : hasDictIn K D = true) (ha : findIn K (.ref D) "__class__" = some (some (.builtin "object.__class__")))
    (hn : specialIn K (.builtin "object.__class__") "__get__" = some (some (.builtin "getset_descriptor.__get__"))) (htk : takesIn K (.builtin "object.__class__") = some true) (hm : mroIn K D (.type "object") = some true)
    (X : K.In s.heap) (I : InstAt s.heap x ox D od) (h : Q (some (.ref D)) { s with toks := s.toks + 1 }) : wpAny (model prog w) A (getAttr? (.ref x) "__class__") Q E s := by
  have hf : findObj K D od "__class__" = some (.bind (.builtin "getset_descriptor.__get__") (.builtin "object.__class__")) := by
    cases od with
    | none => exact findObj_dataN (by obtain ⟨cd, hc, _⟩ := any_some hdct; rw [hc]; rfl) ha hn htk
    | some o => exact findObj_data (by obtain ⟨cd, hc, _⟩ := any_some hdct; rw [hc]; rfl) ha hn htk
  obtain ⟨hp, g, d, t, os⟩ := s
  have L0 := I.type (M := model prog w)
  have L1 := looks_findIn (M := model prog w) X hga
  have L2 := looks_findIn (M := model prog w) X hgt
  have L3 := looks_find (M := model prog w) X I hf
  have sub : Looks (model prog w) hp (isInstance (.ref x) (.type "BaseException")) true := L0.andThen (looks_subIn X hsub)
  have hx0 : (false && onTheHeap (Value.builtin "BaseException.__getattribute__")) = false := rfl
  have hx2 : (Value.builtin "BaseException.__getattribute__" == Value.builtin "object.__getattribute__") = false := by decide +kernel
  have hx1 : (onTheHeap (Value.ref D) && Value.builtin "BaseException.__getattribute__" == Value.builtin "object.__getattribute__") = false := by rw [hx2]; rfl
  unfold getAttr? getAttrBy? getAttrBy
  refine wpAny_bind (wpAny_mkText (wpAny_bind (wpAny_attempt (wpAny_holding (wpAny_bind (L0.at (wpAny_bind (L1.at ?_))))))))
  show wpAny _ _ (if (onTheHeap (Value.ref D) && Value.builtin "BaseException.__getattribute__" == Value.builtin "object.__getattribute__") = true then _ else _) _ _ _
  rw [hx1, if_neg Bool.false_ne_true]
  unfold getAttrByItsOwn hookBefore
  refine wpAny_bind ?_
  rw [if_pos (show onTheHeap (Value.ref D) = true from rfl)]
  refine L2.at ?_
  refine wpAny_bind (wpAny_attempt (wpAny_holding ?_))
  unfold callGetattribute
  rw [hx0, if_neg Bool.false_ne_true]
  unfold boundAndCalled
  rw [PySem.F.excAttr_ValueError.ga.bind (.ref x)]
  refine wpAny_bind (wpAny_pure ?_)
  show wpAny _ _ (call (.builtin "BaseException.__getattribute__") [.ref x, .str "__class__" t]) _ _ _
  refine wpAny_call (codeAny_call_builtin PySem.F.excAttr_ValueError.ga.plain PySem.F.entry_bexc_ga ?_)
  refine @check_slot (model prog w) _ _ ⟨hp, g, d, t + 1, os⟩ "BaseException.__getattribute__" "BaseException" "__getattribute__" (.ref x) [.str "__class__" t] [] _ (by decide +kernel) (by decide +kernel) sub (PySem.F.args_bexc_ga (.ref x) (.str "__class__" t)) ?_
  unfold Builtin.«object.__getattribute__»
  refine wpAny_bind (wpAny_of_eq (a := ((Value.ref x : Value), [Value.str "__class__" t])) (by first | rfl | (simp only [slotArgs]; rfl)) ?_)
  refine wpAny_bind (wpAny_pure (wpAny_bind (L0.at (wpAny_bind (L3.at ?_)))))
  show wpAny _ _ (holding [Value.builtin "object.__class__"] (call (.builtin "getset_descriptor.__get__") [.builtin "object.__class__", .ref x, .ref D]) >>= ret) _ _ _
  refine wpAny_bind (wpAny_holding (wpAny_call (class_get (s := ⟨hp, g, d, t + 1, os⟩) (ox := ox) (od := od) X I hm ?_)))
  refine wpAny_pure ?_
  show wpAny _ _ (handedOut (.ref D)) _ _ _
  rw [handedOut_of (v := .ref D) rfl]
  first
    | exact wpAny_pure (wpAny_pure h)
    | exact wpAny_pure h
    | exact wpAny_pure (wpAny_bind (wpAny_pure (wpAny_pure h)))
theorem kitx_exc2 (hga : findIn K (.ref D) "__getattribute__" = some (some (.builtin "BaseException.__getattribute__"))) (hgt : findIn K (.ref D) "__getattr__" = some none) (hsub : subIn K (.ref D) (.type "BaseException") = some true) (hdct : hasDictIn K D = true) (ha : findIn K (.ref D) "__class__" = some (some (.builtin "object.__class__")))
    (hn : specialIn K (.builtin "object.__class__") "__get__" = some (some (.builtin "getset_descriptor.__get__"))) (htk : takesIn K (.builtin "object.__class__") = some true) (hm : mroIn K D (.type "object") = some true) :
    KitX K (.ref x) (.ref D) (fun h => ∃ od, InstAt h x ox D od) where
  ty := fun _ _ _ ⟨od, I⟩ => I.type
  it := fun _ _ X _ => by
    obtain ⟨cdD, hcD, _⟩ := any_some hdct
    unfold clsIn at hcD
    split at hcD
    · rename_i c' d' cd' sl' ho
      intro A' Q' E' s' k q
      unfold isType loadHead
      exact wpAny_bind (wpAny_loadPart (k _ _ (X _ _ ho)) (wpAny_pure q))
    · cases hcD
  ne := fun h tp dd its n sl X htp => by
    obtain ⟨cdD, hcD, _⟩ := any_some hdct
    refine Bool.eq_false_iff.mpr fun q => ?_
    have e : D = tp := Value.ref.inj (beq_iff_eq.mp q)
    subst e
    unfold clsIn at hcD
    split at hcD
    · rename_i c' d' cd' sl' ho
      have z := (X _ _ ho).symm.trans htp
      cases z
    · cases hcD
  ca := fun X ⟨od, I⟩ k => kin_classE2 hga hgt hsub hdct ha hn htk hm X I k
end
end PySem.W
namespace HM
open PySem L2 PySem.Spec PyProof.Rows
def rIsE2 (K : PySem.W.Frag) (D a : Addr) (d : Option Addr) : List V → Hp → VK → Prop := fun xs H Q => ∃ (c : V) (cv : Value) (b : Bool), xs = [.ref a, c] ∧ (d = none ∨ ∃ dx fs, d = some dx ∧ H dx = some (.xd fs)) ∧ (∀ u, RelV c u → u = cv) ∧ PySem.W.kitOne K (.ref D) cv = some b ∧ Q (.bl b) H
theorem call_isE2 {X : Cx} {a D : Addr} {d : Option Addr} {oe : Obj} {pn : List (Addr × Obj)} (C : ExcC X.K D) (hz : Zc (.ref D) d oe) (hf : ∃ vs, oe.data = .fields vs) : CallR (X.suite a ((a, oe) :: pn)) (.builtin "isinstance") (rIsE2 X.K D a d) := by
  intro pins s σ H xs us Q I r h
  obtain ⟨c, cv, b, rfl, hd, hcv, e, q⟩ := h
  cases r with
  | cons rx rr =>
    cases rr with
    | cons rt rr =>
      cases rr
      cases rx
      have ec := hcv _ rt
      subst ec
      obtain ⟨hget, _⟩ := I.pin (a, oe) (List.mem_append.mpr (.inl List.mem_cons_self))
      obtain ⟨vs, hv⟩ := hf
      have J : ∃ od, PySem.W.InstAt s.heap a oe D od := by
        obtain ⟨oc, odd, oda, osl⟩ := oe
        obtain ⟨h1, h2⟩ := hz
        dsimp only at h1 h2 hv
        subst h1 h2 hv
        rcases hd with hd | ⟨dx, fs, hd, hx⟩
        · subst hd
          exact ⟨none, hget, rfl, rfl, trivial⟩
        · subst hd
          obtain ⟨mA, hns, hr⟩ := (show ObjOk X.prog X.w H s.heap dx (.xd fs) from I.hok dx _ hx)
          obtain ⟨o, ho, _⟩ := lookIn_ns hns
          exact ⟨some o, hget, rfl, rfl, ho⟩
      exact PySem.W.kia_one (PySem.W.kitx_exc2 C.hg C.hk C.hs C.hd C.ha C.hn C.ht C.hm) I.kIn J e (fun z => nomatch z) fun tk => ⟨.bl b, H, I.kept (t' := tk) fun _ _ z => z, rfl, q⟩
section
variable {X : Cx} {W : WX}
theorem qe_isE2 {a C0 : Addr} {d : Option Addr} {oe : Obj} {pn : List (Addr × Obj)} {e : Expr} {ma : M D} {x : XO} {y : String} {mt : String → Option Bool} {p p2 pos : Pos} (k : KtOk X.K X.mg y mt) (q : InSu X.mg x C0 d oe)
    (he : QE (X.suite a ((a, oe) :: pn)) W e ma) (hg : Gl (X.suite a ((a, oe) :: pn)) "isinstance") (hm : X.mg "isinstance" = none) (hg2 : Gl (X.suite a ((a, oe) :: pn)) (Str.ofString y)) (gy : ∃ D, X.mg (Str.ofString y) = some (.ref D)) (hdb2 : (Str.ofString y == ("__debug__" : Str)) = false := by decide +kernel)
    (hs1 : starEach [e, .Name (Str.ofString y) p2] X.env = (false, eval e X.env) :: starEach [.Name (Str.ofString y) p2] X.env := by rfl)
    (hs2 : starEach [.Name (Str.ofString y) p2] X.env = (false, eval (.Name (Str.ofString y) p2) X.env) :: starEach [] X.env := by rfl)
    (hpl : (backTo pos (starEach [.Name (Str.ofString y) p2] X.env)).any (·.1) = false := by rfl) :
    QE (X.suite a ((a, oe) :: pn)) W (.Call (.Name "isinstance" p) [e, .Name (Str.ofString y) p2] [] pos) (mExIs2 x (a, d.getD 0) (mt x.cls) ma) := by
  obtain ⟨D0, gy⟩ := gy
  have pb : PE (X.suite a ((a, oe) :: pn)) (.Name (Str.ofString y) p2) (tC (.ref D0)) := pe_glob hg2 gy rfl hdb2
  cases em : mt x.cls with
  | none =>
    refine qe_of (pe_callB (X := X.suite a ((a, oe) :: pn)) (r := fun _ _ _ => False) (fun _ _ _ _ _ _ _ _ _ h => h.elim) hg hm (show bootBuiltins "isinstance" = some (.builtin "isinstance") by decide +kernel) (pa_cons he (pa_cons pb pa_nil hs2) hs1) (he := hs1) (hpl := hpl)) fun σ φ env lh H Q h1 h2 q => ?_
    refine rd_of h1 h2 (wp_step q fun d lh1 φ1 v H1 p1 r1 q1 => ?_)
    cases d <;> exact q1.elim
  | some b =>
    obtain ⟨C1, D1, gx1, gy1, hk, ec⟩ := k x.cls b em
    rw [q.gC] at gx1
    rw [gy] at gy1
    cases gx1
    cases gy1
    refine qe_of (pe_callB (call_isE2 ec q.z q.f) hg hm (by decide +kernel) (pa_cons he (pa_cons pb pa_nil hs2) hs1) (he := hs1) (hpl := hpl)) fun σ φ env lh H Q h1 h2 g => ?_
    refine rd_of h1 h2 (wp_step g fun v lh1 φ1 u H1 p1 r1 q1 => ?_)
    cases v with
    | exn a' =>
      cases r1
      dsimp only at q1
      by_cases c : a' = a ∧ noR x = true
      · rw [if_pos c] at q1
        obtain ⟨c1, c2⟩ := c
        subst c1
        have ez : redOf x = some none := by
          unfold noR at c2
          split at c2
          · assumption
          · cases c2
        exact ⟨.ref D0, .ref D0, b, rfl, .inl (q.d0 ez), fun u r => by cases r; rfl, hk, wp_ok q1 (.refl p1.hr) (.bl _)⟩
      · rw [if_neg c] at q1
        exact q1.elim
    | exr a' dx' r =>
      cases r1 with
      | exr _ _ hX rr =>
        dsimp only at q1
        by_cases c : a' = a ∧ dx' = d.getD 0
        · rw [if_pos c] at q1
          obtain ⟨c1, c2⟩ := c
          subst c1 c2
          refine ⟨.ref D0, .ref D0, b, rfl, ?_, fun u r => by cases r; rfl, hk, wp_ok q1 (.refl p1.hr) (.bl _)⟩
          cases d with
          | none => exact .inl rfl
          | some dx => exact .inr ⟨dx, _, rfl, hX⟩
        · rw [if_neg c] at q1
          exact q1.elim
    | _ => exact q1.elim
end
end HM
set_option Elab.async false
set_option linter.all false
set_option maxRecDepth 100000
set_option maxHeartbeats 4000000
namespace HM
open PySem L2 PySem.Spec PyProof.Rows
/-! ### displays of dicts -/
abbrev MP := List (M D × M D)
def evPairs : MP → M (List (D × D))
  | [] => fun _ h => .ok [] h
  | (k, v) :: r => fun e h => (k e h).bind fun x h1 => (v e h1).bind fun y h2 => (evPairs r e h2).bind fun ps h3 => .ok ((x, y) :: ps) h3
def pairsK : List (D × D) → Option (List (KD × D))
  | [] => some []
  | (x, y) :: r => match keyD x, pairsK r with
    | some k, some ps => some ((k, y) :: ps)
    | _, _ => none
def mergeKD (kvs more : List (KD × D)) : List (KD × D) := more.foldl (fun acc kv => putKD kv.1 kv.2 acc) kvs
def mDisp (ps : MP) : M D := fun e h => (evPairs ps e (h ++ [.dK []])).bind fun zs h2 => match h2[h.length]?, pairsK zs with
  | some (.dK []), some kvs => if kvs.length ≤ 15 then .ok (.ref h.length) (h2.set h.length (.dK (mergeKD [] kvs))) else .bad
  | _, _ => .bad
inductive RPs (K : PySem.W.Frag) (φ : Nat → Addr) (n : Nat) (H : Hp) : List (D × D) → List (V × V) → Prop
  | nil : RPs K φ n H [] []
  | cons {x y : D} {u v : V} {ds vs} : RD K φ n H x u → RD K φ n H y v → RPs K φ n H ds vs → RPs K φ n H ((x, y) :: ds) ((u, v) :: vs)
section
variable {K : PySem.W.Frag} {mg : Str → Option Value} {φ φ' : Nat → Addr} {lh lh' : LH} {H H' : Hp}
theorem RPs.up (p : Po K mg φ lh H φ' lh' H') {ds vs} (r : RPs K φ lh.length H ds vs) : RPs K φ' lh'.length H' ds vs := by
  induction r with
  | nil => exact .nil
  | cons a b _ ih => exact .cons (a.up p) (b.up p) ih
theorem pairsK_ok {n : Nat} {ds : List (D × D)} : ∀ {vs : List (V × V)} {kvs : List (KD × D)}, RPs K φ n H ds vs → pairsK ds = some kvs → ∃ ws : List (Key × V), vs = ws.map (fun kv => (kV kv.1, kv.2)) ∧ RG kc K φ n H kvs ws := by
  induction ds with
  | nil => intro vs kvs r h; cases r; cases h; exact ⟨[], rfl, .nil⟩
  | cons d ds ih =>
    intro vs kvs r h
    obtain ⟨x, y⟩ := d
    cases r with
    | @cons _ _ u v _ _ r1 r2 r3 =>
      unfold pairsK at h
      cases e1 : keyD x with
      | none => rw [e1] at h; cases h
      | some k =>
        cases e2 : pairsK ds with
        | none => rw [e1, e2] at h; cases h
        | some l =>
          rw [e1, e2] at h
          cases h
          obtain ⟨ws, rfl, rg⟩ := ih r3 e2
          exact ⟨(kc k, v) :: ws, by rw [keyD_ok r1 e1]; rfl, .cons r2 rg⟩
theorem merge_ok {n : Nat} {more : List (KD × D)} {wm : List (Key × V)} (r : RG kc K φ n H more wm) : ∀ {kvs : List (KD × D)} {ws : List (Key × V)}, RG kc K φ n H kvs ws → RG kc K φ n H (mergeKD kvs more) (mergeK ws wm) := by
  induction r with
  | nil => intro kvs ws q; exact q
  | cons h _ ih => intro kvs ws q; exact ih (q.put kc_ij h)
end
section
variable {X : Cx} {W : WX}
abbrev QPs (X : Cx) (W : WX) (pos : Pos) (keys : List (Option Expr)) (values : List Expr) (ps : MP) : Prop := PPs X pos keys values (ps.map fun q => (rdE X.K X.mg W q.1, rdE X.K X.mg W q.2))
theorem qps_nil {pos : Pos} : QPs X W pos [] [] [] := pps_nil
theorem qps_cons {pos : Pos} {k v : Expr} {ks : List (Option Expr)} {vs : List Expr} {mk mv : M D} {ps : MP} (hk : QE X W k mk) (hv : QE X W v mv) (hr : QPs X W pos ks vs ps) : QPs X W pos (some k :: ks) (v :: vs) ((mk, mv) :: ps) := pps_cons hk hv hr
theorem tpairs_ok {σ : L2.St} {env : EN} : ∀ {ps : MP} {φ : Nat → Addr} {lh : LH} {H : Hp} {Q : List (V × V) → Hp → Prop}, HR X.K X.mg φ lh H → RS X.K φ lh.length H env σ → wp X.K X.mg W σ (RPs X.K) (evPairs ps env lh) φ lh H Q →
    tPairs (ps.map fun q => (rdE X.K X.mg W q.1, rdE X.K X.mg W q.2)) σ H Q
  | [], φ, lh, H, Q, h1, h2, q => wp_ok (lh' := lh) q (.refl h1) .nil
  | (mk, mv) :: r, φ, lh, H, Q, h1, h2, q => by
    unfold evPairs at q
    refine rd_of h1 h2 (wp_step q fun x lh1 φ1 v H1 p1 r1 q1 => ?_)
    refine rd_of p1.hr (h2.up p1) (wp_step q1 fun y lh2 φ2 w H2 p2 r2 q2 => ?_)
    refine tpairs_ok p2.hr ((h2.up p1).up p2) (wp_step q2 fun zs lh3 φ3 ws H3 p3 r3 q3 => ?_)
    exact wp_ok q3 (.refl p3.hr) (.cons ((r1.up p2).up p3) (r2.up p3) r3)
theorem qe_disp {pos : Pos} {keys : List (Option Expr)} {values : List Expr} {ps : MP} (h : QPs X W pos keys values ps) (hall : keys.all (·.isSome) = true := by rfl) (hl : keys.length = values.length := by rfl) (h0 : keys ≠ [] := by simp) (h15 : keys.length ≤ 15 := by decide) :
    QE X W (.Dict keys values pos) (mDisp ps) := by
  refine qe_of (pe_disp h hall hl h0 h15) fun σ φ env lh H Q h1 h2 q => ?_
  intro p hp
  have P0 : Po X.K X.mg φ lh H (ext1 φ lh.length p) (lh ++ [.dK []]) (upd H p (.dK [])) := Po.new h1 hp ⟨[], upd_same, .nil⟩
  refine tpairs_ok P0.hr (h2.up P0) (wp_step (wp_mono P0 q) fun zs lh2 φ2 ws H2 p2 r2 q2 => ?_)
  have hk : lh.length < (lh ++ [LO.dK []]).length := by simp
  split at q2
  · rename_i kvs el ek
    split at q2
    · rename_i hz
      obtain ⟨vs0, hv, rv⟩ := p2.hr.obj _ _ el
      cases rv
      have eD : φ2 lh.length = p := (p2.ag _ hk).trans ext1_at
      obtain ⟨wk, rfl, rg⟩ := pairsK_ok r2 ek
      have hi := lt_of_get el
      have P2 := dK_put p2.hr hi (merge_ok rg (kvs := []) (ws := []) .nil)
      rw [eD] at hv P2
      refine ⟨hv, wk, rfl, by rw [← rg.len]; exact hz, ?_⟩
      have rr : RD X.K φ2 (lh2.set lh.length (.dK (mergeKD [] kvs))).length (upd H2 p (.dK (mergeK [] wk))) (.ref lh.length) (.ref (φ2 lh.length)) := .ref (by rw [List.length_set]; exact hi)
      rw [eD] at rr
      exact wp_ok q2 P2 rr
    · exact q2.elim
  · exact q2.elim
end
/-! ### sorted of a dict with texts as keys -/
def strKs : List KD → Option (List (List Nat))
  | [] => some []
  | .inr s :: r => (strKs r).map fun l => s :: l
  | .inl _ :: _ => none
def dSortedA : MF := fun xs h => match xs with
  | [x] => (match dctD x h with
    | some (_, .k kvs) => (match strKs (kvs.map (·.1)) with
      | some ss => if ss.length < 64 then .ok (.ref h.length) (h ++ [.lst ((sortS ss).map D.str)]) else .bad
      | none => .bad)
    | some _ => .bad
    | none => dSorted [x] h)
  | _ => .bad
theorem strKs_ok : ∀ {ks : List KD} {ss : List (List Nat)}, strKs ks = some ss → ks.map kc = (ss.map fun s => (⟨s.toArray⟩ : Str)).map Sum.inr
  | [], _, h => by cases h; rfl
  | .inr s :: r, ss, h => by
    unfold strKs at h
    cases e : strKs r with
    | none => rw [e] at h; cases h
    | some l =>
      rw [e] at h
      cases h
      simp only [List.map_cons, strKs_ok e]
      rfl
  | .inl _ :: _, _, h => by cases h
theorem sortS_of {ss : List (List Nat)} {ys : List Str} (hp : ys.Perm (ss.map fun s => (⟨s.toArray⟩ : Str))) (hs : PyProof.Rows.sortedS ys = true) : ys = (sortS ss).map fun s => (⟨s.toArray⟩ : Str) := by
  have e1 : (ys.map fun s => s.cps.toList) = sortS ss := by
    refine sort_unique ?_ (sorted_pw hs)
    have := hp.map (fun s : Str => s.cps.toList)
    rw [List.map_map] at this
    have e3 : ss.map ((fun s : Str => s.cps.toList) ∘ fun s => (⟨s.toArray⟩ : Str)) = ss := by
      conv => rhs; rw [← List.map_id ss]
      exact List.map_congr_left fun s _ => by simp
    rw [e3] at this
    exact this
  rw [← e1, List.map_map]
  conv => lhs; rw [← List.map_id ys]
  exact List.map_congr_left fun s _ => (str_eta s).symm
theorem cm_sortedA {X : Cx} (hc : X.calm = true) : CallM X (.builtin "sorted") dSortedA := by
  obtain ⟨r, h, k⟩ := cm_sorted (X := X)
  refine ⟨_, h.or (call_sortedD hc), fun W σ φ lh H xs vs Q hr rs q => ?_⟩
  unfold dSortedA at q
  split at q
  · rename_i x
    obtain ⟨v, rfl, rx⟩ := rs.one
    split at q
    · rename_i i kvs e1
      obtain ⟨ws, rfl, hi, _, _, hH, rg⟩ := dctK_ok hr rx e1
      split at q
      · rename_i ss es
        split at q
        · rename_i hl
          refine .inr ⟨_, ws, _, rfl, .inl hH, (rg.keys).trans (strKs_ok es), by simpa using hl, fun ys p hp hs hn => ?_⟩
          rw [sortS_of hp hs]
          exact wp_newL q hr hn (RDs.strs _)
        · exact q.elim
      · exact q.elim
    · exact q.elim
    · exact .inl (k W σ φ lh H [x] [v] Q hr rs q)
  · exact q.elim
end HM
set_option Elab.async false
set_option linter.all false
set_option maxRecDepth 100000
set_option maxHeartbeats 4000000
namespace HM
open PySem L2 PySem.Spec PyProof.Rows
/-! ### raise X() -/
theorem pmk_own0 {X : Cx} {C : Addr} {bmB : List Value} {B newId initId : String} {x : Str} {p pos : Pos} (F : ExcBaseFacts B newId initId bmB) (q : PySem.W.excIn X.K C bmB newId = true) (gC : X.mg x = some (.ref C)) (kC : PySem.W.keepIn X.K (.ref C) = true) (r : Raises X (.ref C)) (hg : Gl X x)
    (hdb : (x == ("__debug__" : Str)) = false := by decide) : PMk X (.Call (.Name x p) [] [] pos) (fun _ H Q => Q (.ref C) none H) := by
  intro pins s σ H Q I h
  refine wpAny_Call_Name_kw (ld_glob I hg gC ?_ hdb)
  refine PySem.W.callWith_K0 I.kIn kC ?_
  obtain ⟨bm, N, nm, qn, bs, hdct, sn, sub, ab, col, dd, k0, k1, k2, k3, k5, mN, hC, hN, hni, T⟩ := exc_obj I.kIn q
  refine wpAny_call_exc_subT F T hC hN hni (fun h' e hm => ?_) (by show 0 ≤ sizeLine; omega)
  exact mk_of I hm r h (I.hok.gone hm.new)
theorem pmk_own0N {X : Cx} {C : Addr} {bmB : List Value} {B newId initId : String} {x : Str} {p pos : Pos} (F : ExcBaseFacts B newId initId bmB) (q : PySem.W.excIn X.K C bmB newId = true) (gC : X.mg x = some (.ref C)) (kC : PySem.W.keepIn X.K (.ref C) = true) (r : Raises X (.ref C)) (hg : Gl X x)
    (hdb : (x == ("__debug__" : Str)) = false := by decide) : L2N.PMk X (.Call (.Name x p) [] [] pos) (fun _ H Q => Q (.ref C) none H) := by
  intro pins s σ H Q I h
  refine wpAny_Call_Name_kw (ld_glob I hg gC ?_ hdb)
  refine PySem.W.callWith_K0 I.kIn kC ?_
  obtain ⟨bm, N, nm, qn, bs, hdct, sn, sub, ab, col, dd, k0, k1, k2, k3, k5, mN, hC, hN, hni, T⟩ := exc_obj I.kIn q
  refine wpAny_call_exc_subT F T hC hN hni (fun h' e hm => ?_) (by show 0 ≤ sizeLine; omega)
  exact L2N.mk_of I hm r h (I.hok.gone hm.new)
section
variable {X : Cx} {W : WX}
theorem qs_raise0 {x : String} {C : Addr} {p pos pos' : Pos} (hc : X.calm = true) (tk : Takes X W) (T : XC X.K X.mg x C) (hg : Gl X (Str.ofString x)) (hdb : (Str.ofString x == ("__debug__" : Str)) = false := by decide +kernel) :
    QS X W (.Raise (some (.Call (.Name (Str.ofString x) p) [] [] pos)) none pos') (sRaise x) :=
  psI (ps_raise hc tk (pmk_own0 PySem.F.excBase_ValueError T.ex T.gC T.kC (raises_own T.bC T.tC) hg hdb)) fun D σ H ⟨φ, env, lh, h1, h2, q⟩ =>
    q φ (.ref C) none σ H (.refl h1) ⟨C, T.gC, rfl, fun _ => rfl, fun z => absurd rfl z⟩ h2
theorem qs_raise0N {x : String} {C : Addr} {p pos pos' : Pos} (hc : X.calm = true) (tk : L2N.Takes X W) (T : XC X.K X.mg x C) (hg : Gl X (Str.ofString x)) (hdb : (Str.ofString x == ("__debug__" : Str)) = false := by decide +kernel) :
    QS X W (.Raise (some (.Call (.Name (Str.ofString x) p) [] [] pos)) none pos') (sRaise x) :=
  psI (L2N.ps_raise hc tk (pmk_own0N PySem.F.excBase_ValueError T.ex T.gC T.kC (raises_own T.bC T.tC) hg hdb)) fun D σ H ⟨φ, env, lh, h1, h2, q⟩ =>
    q φ (.ref C) none σ H (.refl h1) ⟨C, T.gC, rfl, fun _ => rfl, fun z => absurd rfl z⟩ h2
/-! ### calls without arguments that may raise -/
theorem qe_call0S {CX : CXT} {k : Nat} {x : String} {f : MF} {p pos : Pos} (C : ∃ fa fd ps, X.mg (Str.ofString x) = some (.ref fa) ∧ PySem.W.keepIn X.K (.ref fa) = true ∧ Binds X.K fd ps [] ∧ FnOk X.prog X.w X.K X.mg X.base CX k fa fd ps (spM X.K X.mg f)) (hr : Room k X.A) (hx : ∀ σ, PassesAt CX X σ (WE W σ)) (hg : Gl X (Str.ofString x))
    (hdb : (Str.ofString x == ("__debug__" : Str)) = false := by decide) : QE X W (.Call (.Name (Str.ofString x) p) [] [] pos) (mApp f mNil) := by
  obtain ⟨fa, fd, ps, h1, h2, h3, h4⟩ := C
  have pc : PE X (.Call (.Name (Str.ofString x) p) [] [] pos) (tCallS (spM X.K X.mg f) (fun σ => WE W σ) tNil) := by
    refine ⟨fun pins s σ H Q I h => ?_⟩
    refine wpAny_Call_Name_kw (ld_glob I hg h1 ?_ hdb)
    exact PySem.W.callWith_K0 I.kIn h2 (run_fnS (us := []) h4 hr h3 (hx σ) I .nil h)
  refine qe_of pc fun σ φ env lh H Q g1 g2 q => ?_
  exact ⟨φ, lh, [], g1, .nil, q⟩
end
theorem FnOk.toM {P : Program} {w : World} {K : PySem.W.Frag} {mg : Str → Option Value} {base : Heap} {k : Nat} {fa : Addr} {fd : FuncData} {ps : List Str} {sp : Sp} (h4 : FnOk P w K mg base (L2N.CX P w) k fa fd ps sp) : FnOk P w K mg base (L2.CX P w) k fa fd ps sp := by
  refine ⟨h4.len, fun A outer s H args us vs Q E hr he hb hv hs => codeAny_mono (h4.run A outer s H args us vs Q E hr he hb hv hs) fun r s' q => ?_⟩
  cases r with
  | error e => exact cx_imp q
  | ok v => cases v <;> exact q
theorem MeM.toM {P : Program} {w : World} {K : PySem.W.Frag} {mg : Str → Option Value} {base : Heap} {k : Nat} {c m : String} {f : MF} (h : MeM (L2N.CX P w) P w K mg base k c m f) : MeM (L2.CX P w) P w K mg base k c m f := by
  obtain ⟨C, fa, fd, ps, h1, h2, h3, h4, h5⟩ := h.ex
  exact ⟨C, fa, fd, ps, h1, h2, h3, h4, FnOk.toM h5⟩
theorem MkM.toM {P : Program} {w : World} {K : PySem.W.Frag} {mg : Str → Option Value} {base : Heap} {k : Nat} {c : String} {f : MF} (h : MkM (L2N.CX P w) P w K mg base k c f) : MkM (L2.CX P w) P w K mg base k c f := by
  obtain ⟨C, fa, fd, ps, h1, h2, h4, h5⟩ := h.ex
  exact ⟨C, fa, fd, ps, h1, h2, h4, FnOk.toM h5⟩
/-! ### an empty dict for tuple keys -/
def mDictT : M D := fun _ h => .ok (.ref h.length) (h ++ [.dT []])
theorem qe_dictT {X : Cx} {W : WX} {pos : Pos} : QE X W (.Dict [] [] pos) mDictT := by
  refine qe_of pe_dnewT fun σ φ env lh H Q h1 h2 q => ?_
  exact fun p hp => wp_new q h1 hp ⟨[], upd_same, .nil⟩
end HM
set_option Elab.async false
set_option linter.all false
set_option maxRecDepth 100000
set_option maxHeartbeats 4000000
namespace HM
open PySem L2 PySem.Spec PyProof.Rows
/-! ### x in a list of data of any depth -/
def inDB (x y : D) (h : LH) : Option Bool := match toP 10000000 h x, toP 10000000 h y with
  | some d, some (.list ds) => if SeqAt.shaped d && SeqAt.shaped (.list ds) then some (ds.any fun z => PyData.eqv z d) else none
  | _, _ => none
def dInD (x y : D) (h : LH) : Res D := match inDB x y h with
  | some b => .ok (.bl b) h
  | none => .bad
def dNotInD (x y : D) (h : LH) : Res D := match inDB x y h with
  | some b => .ok (.bl (!b)) h
  | none => .bad
theorem hu65 {A : Around} {k : Nat} (hr : Room k A) : A.units + 65 < cLine := by have := hr.un; omega
section
variable {X : Cx}
theorem inDB_ok {K : PySem.W.Frag} {mg : Str → Option Value} {φ : Nat → Addr} {lh : LH} {H : Hp} {x y : D} {v w : V} {b : Bool} (hr : HR K mg φ lh H) (rx : RD K φ lh.length H x v) (ry : RD K φ lh.length H y w) (h : inDB x y lh = some b) :
    ∃ d ds, Dp K H v d ∧ Dp K H w (.list ds) ∧ SeqAt.shaped d = true ∧ SeqAt.shaped (.list ds) = true ∧ (ds.any fun z => PyData.eqv z d) = b := by
  unfold inDB at h
  split at h
  · rename_i d ds e1 e2
    split at h
    · rename_i c
      cases h
      rw [Bool.and_eq_true] at c
      exact ⟨d, ds, toP_ok hr rx e1, toP_ok hr ry e2, c.1, c.2, rfl⟩
    · cases h
  · cases h
theorem opm_inD (hu : X.A.units + 65 < cLine) : OpM X (compareOp .In) dInD := by
  refine ⟨_, op_inD hu, fun W σ φ lh H x y v w Q hr rx ry q => ?_⟩
  unfold dInD at q
  split at q
  · rename_i b e
    obtain ⟨d, ds, h1, h2, h3, h4, rfl⟩ := inDB_ok hr rx ry e
    exact ⟨d, ds, h1, h2, h3, h4, wp_ok q (.refl hr) (.bl _)⟩
  · exact q.elim
theorem opm_notInD (hu : X.A.units + 65 < cLine) : OpM X (compareOp .NotIn) dNotInD := by
  refine ⟨_, op_notInD hu, fun W σ φ lh H x y v w Q hr rx ry q => ?_⟩
  unfold dNotInD at q
  split at q
  · rename_i b e
    obtain ⟨d, ds, h1, h2, h3, h4, rfl⟩ := inDB_ok hr rx ry e
    exact ⟨d, ds, h1, h2, h3, h4, wp_ok q (.refl hr) (.bl _)⟩
  · exact q.elim
end
end HM
set_option Elab.async false
set_option linter.all false
set_option maxRecDepth 100000
set_option maxHeartbeats 4000000

namespace L
open PySem L2 HM
def fuel : Nat := 100000000
abbrev FUEL : Nat := 24
def b_is_printable : MS := (sSeq (sIf (mTNot (mTru (mIsI .str (mVar 0)))) (sRet (mC (.bl false))) sNil)
    (sSeq (sFor (iAny (mVar 0)) (.nm 1) (sSeq (sSet 2 (mApp dOrd (mCons (mVar 1) mNil)))
    (sIf (mTOr (mTst (mOp dLt (mVar 2) (mC (.int 32)))) (mTOr (mTst (mOp dGt (mVar 2) (mC (.int 126)))) (mTst (mOp dEq (mVar 2) (mC (.int 37)))))) (sRet (mC (.bl false))) sNil)))
    (sRet (mC (.bl true)))))
def f_is_printable : MF := mkF 1 3 b_is_printable
def b_is_integer : MS := (sSeq (sIf (mTOr (mTNot (mTru (mIsI .int (mVar 0)))) (mTru (mIsI .bool (mVar 0)))) (sRet (mC (.bl false))) sNil)
    (sRet (mChain dLe dLe (mVar 1) (mVar 0) (mVar 2))))
def f_is_integer : MF := mkF 3 3 b_is_integer
def b__law_cell : MS := (sSeq (sIf (mTst (mOp dLt (mVar 1) (mApp dLen (mCons (mVar 0) mNil)))) (sRet (mOp dIx (mVar 0) (mVar 1))) sNil)
    (sRet (mC (.int 0))))
def f__law_cell : MF := mkF 2 2 b__law_cell
def b__law_stream : MS := (sSeq (sIf (mTst (mOp dGe (mVar 0) (mOp dPow (mC (.int 10)) (mC (.int 18))))) (sRet (mLst (mCons (mVar 0) (mCons (mC (.int 1)) mNil)))) sNil)
    (sRet (mLst (mCons (mC (.int 0)) (mCons (mVar 0) mNil)))))
def f__law_stream : MF := mkF 1 1 b__law_stream
def b__law_take : MS := (sSeq (sIf (mTst (mOp dGt (mOp dIx (mVar 0) (mC (.int 0))) (mC (.int 0)))) (sSeq (sSet 2 (mOp dMod (mApp dInt (mCons (mOp dIx (mVar 0) (mC (.int 0))) mNil)) (mVar 1)))
    (sSeq (sSetL (mVar 0) (mC (.int 0)) (mOp dDiv (mOp dIx (mVar 0) (mC (.int 0))) (mVar 1)))
    (sRet (mVar 2)))) sNil)
    (sSeq (sSetL (mVar 0) (mC (.int 1)) (mOp dMod (mApp dInt (mCons (mOp dAdd (mOp dMul (mOp dIx (mVar 0) (mC (.int 1))) (mC (.int 48271))) (mC (.int 69621))) mNil)) (mC (.int 2147483647))))
    (sRet (mOp dMod (mApp dInt (mCons (mOp dAdd (mOp dDiv (mOp dMul (mOp dIx (mVar 0) (mC (.int 1))) (mOp dIx (mVar 0) (mC (.int 1)))) (mC (.int 1009))) (mOp dDiv (mOp dIx (mVar 0) (mC (.int 1))) (mC (.int 7)))) mNil)) (mVar 1)))))
def f__law_take : MF := mkF 2 3 b__law_take
def b__law_char : MS := (sSeq (sSet 1 (mC (S " !\"#$&'()*+,-./0123456789:;<=>?@ABCDEFGHIJKLMNOPQRSTUVWXYZ[\\]^_`")))
    (sSeq (sSet 1 (mOp dAdd (mVar 1) (mC (S "abcdefghijklmnopqrstuvwxyz{|}~"))))
    (sRet (mOp dIx (mVar 1) (mVar 0)))))
def f__law_char : MF := mkF 1 2 b__law_char
def b__law_string : MS := (sSeq (sSet 2 (mApp f__law_take (mCons (mVar 0) (mCons (mOp dAdd (mVar 1) (mC (.int 1))) mNil))))
    (sRet (mMet isStr dJoin (mC (S "")) (mCons (mLc (iRng1M (mCons (mVar 2) mNil)) (.nm 3) mYes (mApp f__law_char (mCons (mApp f__law_take (mCons (mVar 0) (mCons (mC (.int 94)) mNil))) mNil)) [3]) mNil))))
def f__law_string : MF := mkF 2 4 b__law_string
def b__law_says : MS := (sRet (mAnd (mIsI .bool (mVar 0)) (mOp dEq (mVar 0) (mVar 1))))
def f__law_says : MF := mkF 2 2 b__law_says
def b_digest : MS := (sSeq (sSet 1 (mOp dAdd (mApp dLen (mCons (mVar 0) mNil)) (mC (.int 1))))
    (sSeq (sFor (iAny (mVar 0)) (.nm 2) (sSet 1 (mOp dMod (mOp dAdd (mOp dMul (mVar 1) (mC (.int 65599))) (mApp dOrd (mCons (mVar 2) mNil))) (mC (.int 2361183241434822606617)))))
    (sRet (mUn dHex (mVar 1)))))
def f_digest : MF := mkF 1 3 b_digest
def b__law_number : MS := (sSeq (sSet 1 (mOp dAdd (mApp dLen (mCons (mVar 0) mNil)) (mC (.int 1))))
    (sSeq (sFor (iAny (mVar 0)) (.nm 2) (sSet 1 (mOp dAdd (mOp dMul (mVar 1) (mC (.int 65599))) (mApp dOrd (mCons (mVar 2) mNil)))))
    (sRet (mOp dMod (mApp dInt (mCons (mVar 1) mNil)) (mOp dSub (mOp dMul (mOp dPow (mC (.int 2)) (mC (.int 64))) (mC (.int 128))) (mC (.int 231)))))))
def f__law_number : MF := mkF 1 3 b__law_number
def b__law_row : MS := (sRet (mMet isStr dJoin (mC (S "")) (mCons (mLc (iRng2M (mCons (mC (.int 1)) (mCons (mC (.int 94)) mNil))) (.nm 0) mYes (mApp f__law_char (mCons (mVar 0) mNil)) [0]) mNil)))
def f__law_row : MF := mkF 0 1 b__law_row
def b__law_short : MS := (sRet (mMet isStr dJoin (mC (S "")) (mCons (mLc (iRng1M (mCons (mApp f__law_take (mCons (mVar 0) (mCons (mC (.int 5)) mNil))) mNil)) (.nm 1) mYes (mOp dIx (mOp dAdd (mOp dAdd (mApp f__law_char (mCons (mC (.int 0)) mNil)) (mC (S "\n\t"))) (mApp0 f__law_row)) (mApp f__law_take (mCons (mVar 0) (mCons (mC (.int 96)) mNil)))) [1]) mNil)))
def f__law_short : MF := mkF 1 2 b__law_short
def b_made_of : MS := (sSeq (sFor (iAny (mVar 0)) (.nm 2) (sIf (mTst (mOp dNotIn (mVar 2) (mVar 1))) (sRet (mC (.bl false))) sNil))
    (sRet (mC (.bl true))))
def f_made_of : MF := mkF 2 3 b_made_of
def b_is_list_name : MS := (sRet (mAnd (mIsI .str (mVar 0)) (mAnd (mChain dLe dLe (mC (.int 1)) (mApp dLen (mCons (mVar 0) mNil)) (mC (.int 12))) (mApp f_made_of (mCons (mVar 0) (mCons (mC (S "abcdefghijklmnopqrstuvwxyz")) mNil))))))
def f_is_list_name : MF := mkF 1 1 b_is_list_name
def b_is_key : MS := (sSeq (sIf (mTOr (mTNot (mTru (mIsI .str (mVar 0)))) (mTNot (mTst (mChain dLe dLe (mC (.int 2)) (mApp dLen (mCons (mVar 0) mNil)) (mC (.int 12)))))) (sRet (mC (.bl false))) sNil)
    (sRet (mAnd (mOp dEq (mOp dIx (mVar 0) (mC (.int 0))) (mC (S "k"))) (mApp f_made_of (mCons (mSl (mVar 0) (mPart (mC (.int 1))) mNoP) (mCons (mC (S "0123456789")) mNil))))))
def f_is_key : MF := mkF 1 1 b_is_key
def b__law_all : MS := (sSeq (sFor (iAny (mVar 0)) (.nm 2) (sIf (mTst (mOp dNotIn (mVar 2) (mVar 1))) (sRet (mC (.bl false))) sNil))
    (sRet (mC (.bl true))))
def f__law_all : MF := mkF 2 3 b__law_all
def b_has_parts : MS := (sSeq (sIf (mTOr (mTNot (mTru (mIsI .str (mVar 0)))) (mTst (mOp dGt (mApp dLen (mCons (mVar 0) mNil)) (mC (.int 60))))) (sRet (mC (.bl false))) sNil)
    (sSeq (sSet 2 (mMet isStr dSplit (mVar 0) (mCons (mC (S "/")) mNil)))
    (sSeq (sIf (mTst (mOp dGt (mApp dLen (mCons (mVar 2) mNil)) (mC (.int 6)))) (sRet (mC (.bl false))) sNil)
    (sSeq (sFor (iAny (mVar 2)) (.nm 3) (sIf (mTOr (mTst (mOp dEq (mVar 3) (mC (S "")))) (mTNot (mTru (mApp f_made_of (mCons (mVar 3) (mCons (mVar 1) mNil)))))) (sRet (mC (.bl false))) sNil))
    (sRet (mC (.bl true)))))))
def f_has_parts : MF := mkF 2 4 b_has_parts
def b_is_path : MS := (sRet (mApp f_has_parts (mCons (mVar 0) (mCons (mC (S "abcdefghijklmnopqrstuvwxyz0123456789.-_")) mNil))))
def f_is_path : MF := mkF 1 1 b_is_path
def b_is_pattern : MS := (sRet (mApp f_has_parts (mCons (mVar 0) (mCons (mC (S "abcdefghijklmnopqrstuvwxyz0123456789.-_*")) mNil))))
def f_is_pattern : MF := mkF 1 1 b_is_pattern
def b__law_parts : MS := (sSeq (sIf (mTst (mOp dGt (mApp dLen (mCons (mVar 0) mNil)) (mC (.int 60)))) (sRet (mC (.bl false))) sNil)
    (sSeq (sSet 2 (mC (.int 1)))
    (sSeq (sSet 3 (mC (.int 0)))
    (sSeq (sFor (iAny (mVar 0)) (.nm 4) (sIf (mTst (mOp dEq (mVar 4) (mC (S "/")))) (sSeq (sIf (mTst (mOp dEq (mVar 3) (mC (.int 0)))) (sRet (mC (.bl false))) sNil)
    (sSeq (sSet 2 (mOp dAdd (mVar 2) (mC (.int 1))))
    (sSet 3 (mC (.int 0))))) (sIf (mTst (mOp dIn (mVar 4) (mVar 1))) (sSet 3 (mOp dAdd (mVar 3) (mC (.int 1)))) (sRet (mC (.bl false))))))
    (sRet (mAnd (mOp dGt (mVar 3) (mC (.int 0))) (mOp dLe (mVar 2) (mC (.int 6)))))))))
def f__law_parts : MF := mkF 2 5 b__law_parts
def b__law_part : MS := (sSeq (sSet 3 (mApp f__law_take (mCons (mVar 0) (mCons (mOp dAdd (mVar 1) (mC (.int 1))) mNil))))
    (sRet (mMet isStr dJoin (mC (S "")) (mCons (mLc (iRng1M (mCons (mVar 3) mNil)) (.nm 4) mYes (mOp dIx (mVar 2) (mApp f__law_take (mCons (mVar 0) (mCons (mApp dLen (mCons (mVar 2) mNil)) mNil)))) [4]) mNil))))
def f__law_part : MF := mkF 3 5 b__law_part
def b_ends_behind : MS := (sSeq (sIf (mTst (mOp dNe (mVar 1) (mC (S "*")))) (sRet (mLc (iAny (mVar 0)) (.nm 3) (mTst (mOp dEq (mSl (mVar 2) (mPart (mVar 3)) (mPart (mOp dAdd (mVar 3) (mC (.int 1))))) (mVar 1))) (mOp dAdd (mVar 3) (mC (.int 1))) [3])) sNil)
    (sSeq (sIf (mTst (mOp dEq (mVar 0) (mLst mNil))) (sRet (mLst mNil)) sNil)
    (sRet (mLRg (mOp dIx (mVar 0) (mC (.int 0))) (mOp dAdd (mApp dLen (mCons (mVar 2) mNil)) (mC (.int 1)))))))
def f_ends_behind : MF := mkF 3 4 b_ends_behind
def b_part_matches : MS := (sSeq (sSet 2 (mLst (mCons (mC (.int 0)) mNil)))
    (sSeq (sFor (iAny (mVar 0)) (.nm 3) (sSet 2 (mApp f_ends_behind (mCons (mVar 2) (mCons (mVar 3) (mCons (mVar 1) mNil))))))
    (sRet (mOp dIn (mApp dLen (mCons (mVar 1) mNil)) (mVar 2)))))
def f_part_matches : MF := mkF 2 4 b_part_matches
def b_matches : MS := (sSeq (sSet 2 (mMet isStr dSplit (mVar 0) (mCons (mC (S "/")) mNil)))
    (sSeq (sSet 3 (mMet isStr dSplit (mVar 1) (mCons (mC (S "/")) mNil)))
    (sSeq (sIf (mTst (mOp dNe (mApp dLen (mCons (mVar 2) mNil)) (mApp dLen (mCons (mVar 3) mNil)))) (sRet (mC (.bl false))) sNil)
    (sSeq (sFor (iRng1M (mCons (mApp dLen (mCons (mVar 3) mNil)) mNil)) (.nm 4) (sIf (mTNot (mTru (mApp f_part_matches (mCons (mOp dIx (mVar 2) (mVar 4)) (mCons (mOp dIx (mVar 3) (mVar 4)) mNil))))) (sRet (mC (.bl false))) sNil))
    (sRet (mC (.bl true)))))))
def f_matches : MF := mkF 2 5 b_matches
def b__law_part_matches : MS := (sSeq (sSet 2 (mLc (iRng1M (mCons (mOp dAdd (mApp dLen (mCons (mVar 1) mNil)) (mC (.int 1))) mNil)) (.nm 7) mYes (mOp dEq (mVar 7) (mApp dLen (mCons (mVar 1) mNil))) [7]))
    (sSeq (sFor (iRng1M (mCons (mApp dLen (mCons (mVar 0) mNil)) mNil)) (.nm 3) (sSeq (sSet 4 (mOp dIx (mVar 0) (mOp dSub (mOp dSub (mApp dLen (mCons (mVar 0) mNil)) (mC (.int 1))) (mVar 3))))
    (sSeq (sSet 5 (mLc (iRng1M (mCons (mOp dAdd (mApp dLen (mCons (mVar 1) mNil)) (mC (.int 1))) mNil)) (.nm 7) mYes (mC (.bl false)) [7]))
    (sSeq (sFor (iRng1M (mCons (mOp dAdd (mApp dLen (mCons (mVar 1) mNil)) (mC (.int 1))) mNil)) (.nm 6) (sSeq (sSet 7 (mOp dSub (mApp dLen (mCons (mVar 1) mNil)) (mVar 6)))
    (sIf (mTst (mOp dEq (mVar 4) (mC (S "*")))) (sSetL (mVar 5) (mVar 7) (mOr (mOp dIx (mVar 2) (mVar 7)) (mAnd (mOp dGt (mVar 6) (mC (.int 0))) (mOp dIx (mVar 5) (mOp dAdd (mVar 7) (mC (.int 1))))))) (sIf (mTst (mOp dGt (mVar 6) (mC (.int 0)))) (sSetL (mVar 5) (mVar 7) (mAnd (mOp dEq (mOp dIx (mVar 1) (mVar 7)) (mVar 4)) (mOp dIx (mVar 2) (mOp dAdd (mVar 7) (mC (.int 1)))))) sNil))))
    (sSet 2 (mVar 5))))))
    (sRet (mOp dIx (mVar 2) (mC (.int 0))))))
def f__law_part_matches : MF := mkF 2 8 b__law_part_matches
def b__law_like : MS := (sSeq (sSet 3 (mC (S "")))
    (sSeq (sFor (iAny (mVar 1)) (.nm 4) (sIf (mTst (mOp dNe (mVar 4) (mC (S "*")))) (sSet 3 (mOp dAdd (mVar 3) (mVar 4))) (sIf (mTst (mOp dEq (mApp f__law_take (mCons (mVar 0) (mCons (mC (.int 2)) mNil))) (mC (.int 0)))) (sSet 3 (mOp dAdd (mVar 3) (mOp dIx (mVar 2) (mApp f__law_take (mCons (mVar 0) (mCons (mApp dLen (mCons (mVar 2) mNil)) mNil)))))) sNil)))
    (sSeq (sIf (mTAnd (mTst (mOp dEq (mApp f__law_take (mCons (mVar 0) (mCons (mC (.int 3)) mNil))) (mC (.int 0)))) (mTst (mOp dGt (mApp dLen (mCons (mVar 3) mNil)) (mC (.int 0))))) (sSeq (sSet 5 (mApp f__law_take (mCons (mVar 0) (mCons (mApp dLen (mCons (mVar 3) mNil)) mNil))))
    (sSet 3 (mOp dAdd (mOp dAdd (mSl (mVar 3) mNoP (mPart (mVar 5))) (mOp dIx (mVar 2) (mApp f__law_take (mCons (mVar 0) (mCons (mApp dLen (mCons (mVar 2) mNil)) mNil))))) (mSl (mVar 3) (mPart (mOp dAdd (mVar 5) (mC (.int 1)))) mNoP)))) sNil)
    (sSeq (sIf (mTst (mOp dEq (mVar 3) (mC (S "")))) (sRet (mC (S "a"))) sNil)
    (sRet (mVar 3))))))
def f__law_like : MF := mkF 3 6 b__law_like
def b_encode_value (R : Nat → MF) : MS := (sSeq (sIf (mTru (mApp f_is_printable (mCons (mVar 0) mNil))) (sSet 2 (mOp dAdd (mOp dAdd (mApp dStr (mCons (mApp dLen (mCons (mVar 0) mNil)) mNil)) (mC (S ":"))) (mVar 0))) (sIf (mTru (mApp f_is_integer (mCons (mVar 0) (mCons (mC (.int 0)) (mCons (mC (.int 99999999999999999999)) mNil))))) (sSet 2 (mOp dAdd (mApp dStr (mCons (mVar 0) mNil)) (mC (S ".")))) (sIf (mTAnd (mTru (mIsI .tuple (mVar 0))) (mTst (mOp dGt (mVar 1) (mC (.int 0))))) (sSet 2 (mOp dAdd (mOp dAdd (mC (S "[")) (mApp (R 1) (mCons (mVar 0) (mCons (mOp dSub (mVar 1) (mC (.int 1))) mNil)))) (mC (S "]")))) (sRaise "BadText"))))
    (sSeq (sIf (mTst (mOp dGt (mApp dLen (mCons (mVar 2) mNil)) (mC (.int 100000)))) (sRaise "BadText") sNil)
    (sRet (mVar 2))))
def b_encode_items (R : Nat → MF) : MS := (sSeq (sSet 2 (mLst mNil))
    (sSeq (sSet 3 (mC (.int 0)))
    (sSeq (sFor (iAny (mVar 0)) (.nm 4) (sSeq (sSet 5 (mApp (R 0) (mCons (mVar 4) (mCons (mVar 1) mNil))))
    (sSeq (sAug dIAdd 3 (mApp dLen (mCons (mVar 5) mNil)))
    (sSeq (sIf (mTst (mOp dGt (mVar 3) (mC (.int 100000)))) (sRaise "BadText") sNil)
    (sExpr (mMet isLst dAppend (mVar 2) (mCons (mVar 5) mNil)))))))
    (sRet (mMet isStr dJoin (mC (S "")) (mCons (mVar 2) mNil))))))
def F_encode_value : Nat → Nat → MF
  | 0, _ => fun _ _ => .bad
  | n + 1, 0 => mkF 2 3 (b_encode_value (F_encode_value n))
  | n + 1, _ => mkF 2 6 (b_encode_items (F_encode_value n))
def f_encode_value : MF := F_encode_value FUEL 0
def f_encode_items : MF := F_encode_value FUEL 1
def b_encode : MS := (sRet (mApp f_encode_value (mCons (mVar 0) (mCons (mC (.int 8)) mNil))))
def f_encode : MF := mkF 1 1 b_encode
def b_decode_number : MS := (sSeq (sSet 2 (mVar 1))
    (sSeq (sWhile fuel (mTAnd (mTst (mOp dLt (mVar 2) (mApp dLen (mCons (mVar 0) mNil)))) (mTst (mOp dIn (mOp dIx (mVar 0) (mVar 2)) (mC (S "0123456789"))))) (sAug dIAdd 2 (mC (.int 1))))
    (sSeq (sSet 3 (mOp dSub (mVar 2) (mVar 1)))
    (sSeq (sIf (mTOr (mTst (mOp dEq (mVar 3) (mC (.int 0)))) (mTst (mOp dGt (mVar 3) (mC (.int 20))))) (sRaise "BadText") sNil)
    (sSeq (sIf (mTAnd (mTst (mOp dEq (mOp dIx (mVar 0) (mVar 1)) (mC (S "0")))) (mTst (mOp dGt (mVar 3) (mC (.int 1))))) (sRaise "BadText") sNil)
    (sRet (mTup (mCons (mApp dIntS (mCons (mSl (mVar 0) (mPart (mVar 1)) (mPart (mVar 2))) mNil)) (mCons (mVar 2) mNil)))))))))
def f_decode_number : MF := mkF 2 4 b_decode_number
def b_decode_value (R : Nat → MF) : MS := (sSeq (sIf (mTst (mOp dEq (mSl (mVar 0) (mPart (mVar 1)) (mPart (mOp dAdd (mVar 1) (mC (.int 1))))) (mC (S "[")))) (sSeq (sIf (mTst (mOp dEq (mVar 2) (mC (.int 0)))) (sRaise "BadText") sNil)
    (sRet (mApp (R 1) (mCons (mVar 0) (mCons (mOp dAdd (mVar 1) (mC (.int 1))) (mCons (mOp dSub (mVar 2) (mC (.int 1))) mNil)))))) sNil)
    (sSeq (sTup [3, 4] (mApp f_decode_number (mCons (mVar 0) (mCons (mVar 1) mNil))))
    (sSeq (sSet 5 (mSl (mVar 0) (mPart (mVar 4)) (mPart (mOp dAdd (mVar 4) (mC (.int 1))))))
    (sSeq (sIf (mTst (mOp dEq (mVar 5) (mC (S ".")))) (sRet (mTup (mCons (mVar 3) (mCons (mOp dAdd (mVar 4) (mC (.int 1))) mNil)))) sNil)
    (sSeq (sIf (mTOr (mTst (mOp dNe (mVar 5) (mC (S ":")))) (mTst (mOp dGt (mOp dAdd (mOp dAdd (mVar 4) (mC (.int 1))) (mVar 3)) (mApp dLen (mCons (mVar 0) mNil))))) (sRaise "BadText") sNil)
    (sSeq (sSet 6 (mSl (mVar 0) (mPart (mOp dAdd (mVar 4) (mC (.int 1)))) (mPart (mOp dAdd (mOp dAdd (mVar 4) (mC (.int 1))) (mVar 3)))))
    (sSeq (sIf (mTNot (mTru (mApp f_is_printable (mCons (mVar 6) mNil)))) (sRaise "BadText") sNil)
    (sRet (mTup (mCons (mVar 6) (mCons (mOp dAdd (mOp dAdd (mVar 4) (mC (.int 1))) (mVar 3)) mNil)))))))))))
def b_decode_items (R : Nat → MF) : MS := (sSeq (sSet 3 (mLst mNil))
    (sSeq (sSet 4 (mVar 1))
    (sSeq (sWhile fuel (mTst (mOp dNe (mSl (mVar 0) (mPart (mVar 4)) (mPart (mOp dAdd (mVar 4) (mC (.int 1))))) (mC (S "]")))) (sSeq (sTup [5, 4] (mApp (R 0) (mCons (mVar 0) (mCons (mVar 4) (mCons (mVar 2) mNil)))))
    (sExpr (mMet isLst dAppend (mVar 3) (mCons (mVar 5) mNil)))))
    (sRet (mTup (mCons (mApp dTuple (mCons (mVar 3) mNil)) (mCons (mOp dAdd (mVar 4) (mC (.int 1))) mNil)))))))
def F_decode_value : Nat → Nat → MF
  | 0, _ => fun _ _ => .bad
  | n + 1, 0 => mkF 3 7 (b_decode_value (F_decode_value n))
  | n + 1, _ => mkF 3 6 (b_decode_items (F_decode_value n))
def f_decode_value : MF := F_decode_value FUEL 0
def f_decode_items : MF := F_decode_value FUEL 1
def b_decode : MS := (sSeq (sIf (mTOr (mTNot (mTru (mIsI .str (mVar 0)))) (mTst (mOp dGt (mApp dLen (mCons (mVar 0) mNil)) (mC (.int 100000))))) (sRaise "BadText") sNil)
    (sSeq (sTup [1, 2] (mApp f_decode_value (mCons (mVar 0) (mCons (mC (.int 0)) (mCons (mC (.int 8)) mNil)))))
    (sSeq (sIf (mTst (mOp dNe (mVar 2) (mApp dLen (mCons (mVar 0) mNil)))) (sRaise "BadText") sNil)
    (sRet (mVar 1)))))
def f_decode : MF := mkF 1 3 b_decode
def b__law_value (R : Nat → MF) : MS := (sSeq (sSetL (mVar 2) (mC (.int 0)) (mOp dSub (mOp dIx (mVar 2) (mC (.int 0))) (mC (.int 1))))
    (sSeq (sSet 3 (mApp f__law_take (mCons (mVar 0) (mCons (mC (.int 5)) mNil))))
    (sSeq (sIf (mTAnd (mTst (mOp dGt (mVar 3) (mC (.int 2)))) (mTAnd (mTst (mOp dGt (mVar 1) (mC (.int 0)))) (mTst (mOp dGt (mOp dIx (mVar 2) (mC (.int 0))) (mC (.int 0)))))) (sSeq (sSet 4 (mApp f__law_take (mCons (mVar 0) (mCons (mC (.int 4)) mNil))))
    (sRet (mApp dTuple (mCons (mLc (iRng1M (mCons (mVar 4) mNil)) (.nm 5) mYes (mApp (R 0) (mCons (mVar 0) (mCons (mOp dSub (mVar 1) (mC (.int 1))) (mCons (mVar 2) mNil)))) [5]) mNil)))) sNil)
    (sSeq (sIf (mTOr (mTst (mOp dEq (mVar 3) (mC (.int 0)))) (mTst (mOp dEq (mVar 3) (mC (.int 3))))) (sRet (mApp f__law_take (mCons (mVar 0) (mCons (mC (.int 120)) mNil)))) sNil)
    (sSeq (sIf (mTst (mOp dEq (mVar 3) (mC (.int 1)))) (sRet (mApp f__law_take (mCons (mVar 0) (mCons (mOp dPow (mC (.int 10)) (mC (.int 20))) mNil)))) sNil)
    (sRet (mApp f__law_string (mCons (mVar 0) (mCons (mOp dIx (mLst (mCons (mC (.int 3)) (mCons (mC (.int 12)) (mCons (mC (.int 3)) (mCons (mC (.int 3)) (mCons (mC (.int 105)) mNil)))))) (mApp f__law_take (mCons (mVar 0) (mCons (mC (.int 5)) mNil)))) mNil)))))))))
def F__law_value : Nat → Nat → MF
  | 0, _ => fun _ _ => .bad
  | n + 1, _ => mkF 3 6 (b__law_value (F__law_value n))
def f__law_value : MF := F__law_value FUEL 0
def b__law_deep_value : MS := (sSeq (sSet 1 (mApp f__law_take (mCons (mVar 0) (mCons (mC (.int 9)) mNil))))
    (sSeq (sSet 2 (mApp f__law_value (mCons (mVar 0) (mCons (mVar 1) (mCons (mLst (mCons (mC (.int 40)) mNil)) mNil)))))
    (sSeq (sFor (iRng1M (mCons (mApp f__law_take (mCons (mVar 0) (mCons (mOp dSub (mC (.int 9)) (mVar 1)) mNil))) mNil)) (.nm 3) (sSet 2 (mTup (mCons (mVar 2) mNil))))
    (sRet (mVar 2)))))
def f__law_deep_value : MF := mkF 1 4 b__law_deep_value
def b__law_text (R : Nat → MF) : MS := (sSeq (sIf (mTru (mIsI .tuple (mVar 0))) (sRet (mOp dAdd (mOp dAdd (mC (S "[")) (mMet isStr dJoin (mC (S "")) (mCons (mLc (iAny (mVar 0)) (.nm 1) mYes (mApp (R 0) (mCons (mVar 1) mNil)) [1]) mNil))) (mC (S "]")))) sNil)
    (sSeq (sIf (mTru (mIsI .str (mVar 0))) (sRet (mOp dAdd (mOp dAdd (mApp dStr (mCons (mApp dLen (mCons (mVar 0) mNil)) mNil)) (mC (S ":"))) (mVar 0))) sNil)
    (sRet (mOp dAdd (mApp dStr (mCons (mVar 0) mNil)) (mC (S "."))))))
def F__law_text : Nat → Nat → MF
  | 0, _ => fun _ _ => .bad
  | n + 1, _ => mkF 1 2 (b__law_text (F__law_text n))
def f__law_text : MF := F__law_text FUEL 0
def b__law_same (R : Nat → MF) : MS := (sSeq (sIf (mTru (mIsI .tuple (mVar 1))) (sSeq (sIf (mTOr (mTNot (mTru (mIsI .tuple (mVar 0)))) (mTst (mOp dNe (mApp dLen (mCons (mVar 0) mNil)) (mApp dLen (mCons (mVar 1) mNil))))) (sRet (mC (.bl false))) sNil)
    (sSeq (sFor (iRng1M (mCons (mApp dLen (mCons (mVar 1) mNil)) mNil)) (.nm 2) (sIf (mTNot (mTru (mApp (R 0) (mCons (mOp dIx (mVar 0) (mVar 2)) (mCons (mOp dIx (mVar 1) (mVar 2)) mNil))))) (sRet (mC (.bl false))) sNil))
    (sRet (mC (.bl true))))) sNil)
    (sSeq (sIf (mTst (mOp dIs (mVar 1) (mC .non))) (sRet (mOp dIs (mVar 0) (mC .non))) sNil)
    (sSeq (sIf (mTru (mIsI .str (mVar 1))) (sRet (mAnd (mIsI .str (mVar 0)) (mOp dEq (mVar 0) (mVar 1)))) sNil)
    (sRet (mAnd (mIsI .int (mVar 0)) (mAnd (mNot (mIsI .bool (mVar 0))) (mOp dEq (mVar 0) (mVar 1))))))))
def F__law_same : Nat → Nat → MF
  | 0, _ => fun _ _ => .bad
  | n + 1, _ => mkF 2 3 (b__law_same (F__law_same n))
def f__law_same : MF := F__law_same FUEL 0
def b__law_printable : MS := (sSeq (sFor (iAny (mVar 0)) (.nm 1) (sIf (mTOr (mTst (mOp dLt (mApp dOrd (mCons (mVar 1) mNil)) (mC (.int 32)))) (mTOr (mTst (mOp dGt (mApp dOrd (mCons (mVar 1) mNil)) (mC (.int 126)))) (mTst (mOp dEq (mApp dOrd (mCons (mVar 1) mNil)) (mC (.int 37)))))) (sRet (mC (.bl false))) sNil))
    (sRet (mC (.bl true))))
def f__law_printable : MF := mkF 1 2 b__law_printable
def b__law_plain (R : Nat → MF) : MS := (sSeq (sIf (mTru (mIsI .tuple (mVar 0))) (sSeq (sIf (mTst (mOp dEq (mVar 1) (mC (.int 0)))) (sRet (mC (.bl false))) sNil)
    (sSeq (sFor (iAny (mVar 0)) (.nm 2) (sIf (mTNot (mTru (mApp (R 0) (mCons (mVar 2) (mCons (mOp dSub (mVar 1) (mC (.int 1))) mNil))))) (sRet (mC (.bl false))) sNil))
    (sRet (mC (.bl true))))) sNil)
    (sSeq (sIf (mTru (mIsI .str (mVar 0))) (sRet (mApp f__law_printable (mCons (mVar 0) mNil))) sNil)
    (sRet (mAnd (mIsI .int (mVar 0)) (mAnd (mNot (mIsI .bool (mVar 0))) (mAnd (mOp dLe (mC (.int 0)) (mVar 0)) (mOp dLt (mVar 0) (mOp dPow (mC (.int 10)) (mC (.int 20))))))))))
def F__law_plain : Nat → Nat → MF
  | 0, _ => fun _ _ => .bad
  | n + 1, _ => mkF 2 3 (b__law_plain (F__law_plain n))
def f__law_plain : MF := F__law_plain FUEL 0
def b__law_sign : MS := (sRet (mOp dIx (mC (S "0123456789.:[]a \n")) (mApp f__law_take (mCons (mVar 0) (mCons (mC (.int 17)) mNil)))))
def f__law_sign : MF := mkF 1 1 b__law_sign
def b__law_edited : MS := (sSeq (sFor (iRng1M (mCons (mApp f__law_take (mCons (mVar 0) (mCons (mC (.int 4)) mNil))) mNil)) (.nm 2) (sSeq (sSet 3 (mApp f__law_take (mCons (mVar 0) (mCons (mOp dAdd (mApp dLen (mCons (mVar 1) mNil)) (mC (.int 1))) mNil))))
    (sSeq (sSet 4 (mApp f__law_take (mCons (mVar 0) (mCons (mC (.int 3)) mNil))))
    (sSeq (sIf (mTst (mOp dEq (mVar 4) (mC (.int 0)))) (sSet 1 (mOp dAdd (mOp dAdd (mSl (mVar 1) mNoP (mPart (mVar 3))) (mApp f__law_sign (mCons (mVar 0) mNil))) (mSl (mVar 1) (mPart (mVar 3)) mNoP))) sNil)
    (sSeq (sIf (mTst (mOp dEq (mVar 4) (mC (.int 1)))) (sSet 1 (mOp dAdd (mSl (mVar 1) mNoP (mPart (mVar 3))) (mSl (mVar 1) (mPart (mOp dAdd (mVar 3) (mC (.int 1)))) mNoP))) sNil)
    (sIf (mTst (mOp dEq (mVar 4) (mC (.int 2)))) (sSet 1 (mOp dAdd (mOp dAdd (mSl (mVar 1) mNoP (mPart (mVar 3))) (mApp f__law_sign (mCons (mVar 0) mNil))) (mSl (mVar 1) (mPart (mOp dAdd (mVar 3) (mC (.int 1)))) mNoP))) sNil))))))
    (sRet (mVar 1)))
def f__law_edited : MF := mkF 2 5 b__law_edited
def b__law_near : MS := (sSeq (sIf (mTst (mOp dEq (mVar 2) (mC (.int 0)))) (sRet (mVar 1)) sNil)
    (sSeq (sIf (mTst (mOp dEq (mVar 2) (mC (.int 1)))) (sRet (mTup (mCons (mVar 1) mNil))) sNil)
    (sSeq (sIf (mTru (mIsI .tuple (mVar 1))) (sRet (mOp dIx (mLst (mCons (mOp dAdd (mVar 1) (mTup (mCons (mC (.int 0)) mNil))) (mCons (mSl (mVar 1) mNoP (mPart (mUn dNeg (mC (.int 1))))) (mCons (mOp dAdd (mVar 1) (mTup (mCons (mTup mNil) mNil))) (mCons (mSl (mVar 1) (mPart (mC (.int 1))) mNoP) mNil))))) (mApp f__law_take (mCons (mVar 0) (mCons (mC (.int 4)) mNil))))) sNil)
    (sSeq (sIf (mTru (mIsI .str (mVar 1))) (sRet (mOp dIx (mLst (mCons (mOp dAdd (mVar 1) (mC (S "0"))) (mCons (mSl (mVar 1) mNoP (mPart (mUn dNeg (mC (.int 1))))) (mCons (mOp dAdd (mC (S "1:")) (mVar 1)) (mCons (mSl (mVar 1) (mPart (mC (.int 1))) mNoP) mNil))))) (mApp f__law_take (mCons (mVar 0) (mCons (mC (.int 4)) mNil))))) sNil)
    (sRet (mOp dIx (mLst (mCons (mOp dDiv (mVar 1) (mC (.int 10))) (mCons (mApp dStr (mCons (mVar 1) mNil)) (mCons (mTup (mCons (mVar 1) mNil)) (mCons (mC (.int 0)) mNil))))) (mApp f__law_take (mCons (mVar 0) (mCons (mC (.int 4)) mNil)))))))))
def f__law_near : MF := mkF 3 3 b__law_near
def b_is_row : MS := (sRet (mAnd (mIsI .tuple (mVar 0)) (mOp dEq (mApp dLen (mCons (mVar 0) mNil)) (mVar 1))))
def f_is_row : MF := mkF 2 2 b_is_row
def b_is_table : MS := (sRet (mAnd (mIsI .tuple (mVar 0)) (mOp dLe (mApp dLen (mCons (mVar 0) mNil)) (mVar 1))))
def f_is_table : MF := mkF 2 2 b_is_table
def b_is_ascending : MS := (sSeq (sFor (iRng2M (mCons (mC (.int 1)) (mCons (mApp dLen (mCons (mVar 0) mNil)) mNil))) (.nm 1) (sIf (mTst (mOp dGe (mOp dIx (mVar 0) (mOp dSub (mVar 1) (mC (.int 1)))) (mOp dIx (mVar 0) (mVar 1)))) (sRet (mC (.bl false))) sNil))
    (sRet (mC (.bl true))))
def f_is_ascending : MF := mkF 1 2 b_is_ascending
def b_is_role : MS := (sSeq (sIf (mTOr (mTNot (mTru (mApp f_is_row (mCons (mVar 0) (mCons (mC (.int 2)) mNil))))) (mTNot (mTru (mApp f_is_table (mCons (mOp dIx (mVar 0) (mC (.int 1))) (mCons (mC (.int 16)) mNil)))))) (sRet (mC (.bl false))) sNil)
    (sSeq (sFor (iAny (mOp dIx (mVar 0) (mC (.int 1)))) (.nm 1) (sIf (mTNot (mTru (mApp f_is_key (mCons (mVar 1) mNil)))) (sRet (mC (.bl false))) sNil))
    (sRet (mAnd (mApp f_is_ascending (mCons (mOp dIx (mVar 0) (mC (.int 1))) mNil)) (mApp f_is_integer (mCons (mOp dIx (mVar 0) (mC (.int 0))) (mCons (mC (.int 1)) (mCons (mApp dLen (mCons (mOp dIx (mVar 0) (mC (.int 1))) mNil)) mNil))))))))
def f_is_role : MF := mkF 1 2 b_is_role
def b__law_key : MS := (sSeq (sIf (mTst (mOp dGt (mApp f__law_take (mCons (mVar 0) (mCons (mC (.int 4)) mNil))) (mC (.int 0)))) (sRet (mOp dAdd (mC (S "k")) (mOp dIx (mLst (mCons (mC (S "0")) (mCons (mC (S "1")) (mCons (mC (S "2")) (mCons (mC (S "00")) (mCons (mC (S "10")) (mCons (mC (S "7")) mNil))))))) (mApp f__law_take (mCons (mVar 0) (mCons (mC (.int 6)) mNil)))))) sNil)
    (sRet (mOp dAdd (mC (S "k")) (mMet isStr dJoin (mC (S "")) (mCons (mLc (iRng1M (mCons (mOp dAdd (mC (.int 1)) (mApp f__law_take (mCons (mVar 0) (mCons (mC (.int 11)) mNil)))) mNil)) (.nm 1) mYes (mOp dIx (mC (S "0123456789")) (mApp f__law_take (mCons (mVar 0) (mCons (mC (.int 10)) mNil)))) [1]) mNil)))))
def f__law_key : MF := mkF 1 2 b__law_key
def b__law_once : MS := (sSeq (sSet 1 (mLst mNil))
    (sSeq (sFor (iAny (mApp dSorted (mCons (mVar 0) mNil))) (.nm 2) (sIf (mTOr (mTst (mOp dEq (mVar 1) (mLst mNil))) (mTst (mOp dNe (mOp dIx (mVar 1) (mOp dSub (mApp dLen (mCons (mVar 1) mNil)) (mC (.int 1)))) (mVar 2)))) (sExpr (mMet isLst dAppend (mVar 1) (mCons (mVar 2) mNil))) sNil))
    (sRet (mVar 1))))
def f__law_once : MF := mkF 1 3 b__law_once
def b__law_role : MS := (sSeq (sSet 1 (mOp dIx (mLst (mCons (mC (.int 2)) (mCons (mC (.int 4)) (mCons (mC (.int 16)) mNil)))) (mApp f__law_take (mCons (mVar 0) (mCons (mC (.int 3)) mNil)))))
    (sSeq (sSet 2 (mApp f__law_once (mCons (mLc (iRng1M (mCons (mOp dAdd (mC (.int 1)) (mApp f__law_take (mCons (mVar 0) (mCons (mVar 1) mNil)))) mNil)) (.nm 3) mYes (mApp f__law_key (mCons (mVar 0) mNil)) [3]) mNil)))
    (sRet (mTup (mCons (mOp dAdd (mC (.int 1)) (mApp f__law_take (mCons (mVar 0) (mCons (mApp dLen (mCons (mVar 2) mNil)) mNil)))) (mCons (mApp dTuple (mCons (mVar 2) mNil)) mNil))))))
def f__law_role : MF := mkF 1 4 b__law_role
def b__law_number_v2 : MS := (sRet (mAnd (mIsI .int (mVar 0)) (mAnd (mNot (mIsI .bool (mVar 0))) (mAnd (mOp dLe (mVar 1) (mVar 0)) (mOp dLe (mVar 0) (mOp dPow (mC (.int 10)) (mC (.int 12))))))))
def f__law_number_v2 : MF := mkF 2 2 b__law_number_v2
def b__law_tuple : MS := (sRet (mAnd (mIsI .tuple (mVar 0)) (mAnd (mOp dLe (mVar 1) (mApp dLen (mCons (mVar 0) mNil))) (mOp dLe (mApp dLen (mCons (mVar 0) mNil)) (mVar 2)))))
def f__law_tuple : MF := mkF 3 3 b__law_tuple
def b__law_rising : MS := (sSeq (sFor (iRng1M (mCons (mOp dSub (mApp dLen (mCons (mVar 0) mNil)) (mC (.int 1))) mNil)) (.nm 1) (sIf (mTNot (mTst (mOp dLt (mOp dIx (mVar 0) (mVar 1)) (mOp dIx (mVar 0) (mOp dAdd (mVar 1) (mC (.int 1))))))) (sRet (mC (.bl false))) sNil))
    (sRet (mC (.bl true))))
def f__law_rising : MF := mkF 1 2 b__law_rising
def b__law_is_key : MS := (sSeq (sIf (mTOr (mTNot (mTru (mIsI .str (mVar 0)))) (mTOr (mTst (mOp dLt (mApp dLen (mCons (mVar 0) mNil)) (mC (.int 2)))) (mTst (mOp dGt (mApp dLen (mCons (mVar 0) mNil)) (mC (.int 12)))))) (sRet (mC (.bl false))) sNil)
    (sRet (mAnd (mOp dEq (mOp dIx (mVar 0) (mC (.int 0))) (mC (S "k"))) (mApp f__law_all (mCons (mSl (mVar 0) (mPart (mC (.int 1))) mNoP) (mCons (mC (S "0123456789")) mNil))))))
def f__law_is_key : MF := mkF 1 1 b__law_is_key
def b__law_is_role : MS := (sSeq (sIf (mTOr (mTNot (mTru (mApp f__law_tuple (mCons (mVar 0) (mCons (mC (.int 2)) (mCons (mC (.int 2)) mNil)))))) (mTOr (mTNot (mTru (mApp f__law_tuple (mCons (mOp dIx (mVar 0) (mC (.int 1))) (mCons (mC (.int 1)) (mCons (mC (.int 16)) mNil)))))) (mTNot (mTru (mApp f__law_number_v2 (mCons (mOp dIx (mVar 0) (mC (.int 0))) (mCons (mC (.int 1)) mNil))))))) (sRet (mC (.bl false))) sNil)
    (sSeq (sFor (iAny (mOp dIx (mVar 0) (mC (.int 1)))) (.nm 1) (sIf (mTNot (mTru (mApp f__law_is_key (mCons (mVar 1) mNil)))) (sRet (mC (.bl false))) sNil))
    (sRet (mAnd (mApp f__law_rising (mCons (mOp dIx (mVar 0) (mC (.int 1))) mNil)) (mOp dLe (mOp dIx (mVar 0) (mC (.int 0))) (mApp dLen (mCons (mOp dIx (mVar 0) (mC (.int 1))) mNil)))))))
def f__law_is_role : MF := mkF 1 2 b__law_is_role
def b__law_odd : MS := (sSeq (sIf (mTAnd (mTru (mIsI .tuple (mVar 1))) (mTst (mOp dEq (mApp f__law_take (mCons (mVar 0) (mCons (mC (.int 2)) mNil))) (mC (.int 0))))) (sSeq (sSet 2 (mLst (mCons (mOp dAdd (mVar 1) (mVar 1)) (mCons (mSl (mVar 1) mNoP (mPart (mUn dNeg (mC (.int 1))))) (mCons (mSl (mVar 1) (mPart (mC (.int 1))) mNoP) (mCons (mUn dRevT (mVar 1)) (mCons (mApp dList (mCons (mVar 1) mNil)) (mCons (mOp dAdd (mVar 1) (mSl (mVar 1) mNoP (mPart (mC (.int 1))))) (mCons (mTup (mCons (mVar 1) mNil)) mNil)))))))))
    (sRet (mOp dIx (mVar 2) (mApp f__law_take (mCons (mVar 0) (mCons (mC (.int 7)) mNil)))))) sNil)
    (sSeq (sIf (mTAnd (mTru (mIsI .str (mVar 1))) (mTst (mOp dEq (mApp f__law_take (mCons (mVar 0) (mCons (mC (.int 2)) mNil))) (mC (.int 0))))) (sSeq (sSet 2 (mLst (mCons (mOp dAdd (mVar 1) (mC (S "a"))) (mCons (mSl (mVar 1) mNoP (mPart (mUn dNeg (mC (.int 1))))) (mCons (mSl (mVar 1) (mPart (mC (.int 1))) mNoP) (mCons (mOp dAdd (mVar 1) (mC (S " "))) (mCons (mUn dUpper (mVar 1)) (mCons (mOp dAdd (mVar 1) (mC (S "0"))) (mCons (mOp dAdd (mVar 1) (mC (S "/"))) (mCons (mOp dMulX (mVar 1) (mC (.int 8))) mNil))))))))))
    (sRet (mOp dIx (mVar 2) (mApp f__law_take (mCons (mVar 0) (mCons (mC (.int 8)) mNil)))))) sNil)
    (sSeq (sIf (mTAnd (mTru (mIsI .int (mVar 1))) (mTst (mOp dEq (mApp f__law_take (mCons (mVar 0) (mCons (mC (.int 2)) mNil))) (mC (.int 0))))) (sRet (mOp dIx (mLst (mCons (mOp dAdd (mVar 1) (mC (.int 1))) (mCons (mOp dSub (mVar 1) (mC (.int 1))) (mCons (mOp dSub (mUn dNeg (mC (.int 1))) (mVar 1)) (mCons (mApp dStr (mCons (mApp dInt (mCons (mVar 1) mNil)) mNil)) (mCons (mTup (mCons (mVar 1) mNil)) (mCons (mOp dAdd (mOp dMulX (mVar 1) (mC (.int 10))) (mC (.int 17))) mNil))))))) (mApp f__law_take (mCons (mVar 0) (mCons (mC (.int 6)) mNil))))) sNil)
    (sSeq (sSet 2 (mLst (mCons (mC .non) (mCons (mC (.bl true)) (mCons (mC (.bl false)) (mCons (mC (.int 0)) (mCons (mC (.int 1)) (mCons (mC (.int 2)) (mCons (mC (.int 17)) (mCons (mOp dPow (mC (.int 10)) (mC (.int 12))) (mCons (mOp dAdd (mOp dPow (mC (.int 10)) (mC (.int 12))) (mC (.int 1))) (mCons (mC (S "")) (mCons (mC (S "k1")) (mCons (mC (S "list")) (mCons (mC (S "stamp")) (mCons (mOp dMulS (mC (S "g")) (mC (.int 18))) (mCons (mOp dMulS (mC (S "0")) (mC (.int 18))) (mCons (mTup mNil) (mCons (mLst (mCons (mC (.int 1)) mNil)) mNil)))))))))))))))))))
    (sRet (mOp dIx (mVar 2) (mApp f__law_take (mCons (mVar 0) (mCons (mC (.int 17)) mNil)))))))))
def f__law_odd : MF := mkF 2 3 b__law_odd
def b__law_spoilt (R : Nat → MF) : MS := (sSeq (sIf (mTAnd (mTru (mIsI .tuple (mVar 1))) (mTAnd (mTst (mOp dNe (mVar 1) (mTup mNil))) (mTst (mOp dGt (mApp f__law_take (mCons (mVar 0) (mCons (mC (.int 5)) mNil))) (mC (.int 0)))))) (sSeq (sSet 2 (mApp f__law_take (mCons (mVar 0) (mCons (mApp dLen (mCons (mVar 1) mNil)) mNil))))
    (sRet (mOp dAdd (mOp dAdd (mSl (mVar 1) mNoP (mPart (mVar 2))) (mTup (mCons (mApp (R 0) (mCons (mVar 0) (mCons (mOp dIx (mVar 1) (mVar 2)) mNil))) mNil))) (mSl (mVar 1) (mPart (mOp dAdd (mVar 2) (mC (.int 1)))) mNoP)))) sNil)
    (sRet (mApp f__law_odd (mCons (mVar 0) (mCons (mVar 1) mNil)))))
def F__law_spoilt : Nat → Nat → MF
  | 0, _ => fun _ _ => .bad
  | n + 1, _ => mkF 2 3 (b__law_spoilt (F__law_spoilt n))
def f__law_spoilt : MF := F__law_spoilt FUEL 0
def b_is_digest : MS := (sSeq (sIf (mTOr (mTNot (mTru (mIsI .str (mVar 0)))) (mTst (mOp dNe (mApp dLen (mCons (mVar 0) mNil)) (mC (.int 18))))) (sRet (mC (.bl false))) sNil)
    (sSeq (sFor (iAny (mVar 0)) (.nm 1) (sIf (mTst (mOp dNotIn (mVar 1) (mC (S "0123456789abcdef")))) (sRet (mC (.bl false))) sNil))
    (sRet (mC (.bl true)))))
def f_is_digest : MF := mkF 1 2 b_is_digest
def b_is_grant : MS := (sSeq (sIf (mTOr (mTNot (mTru (mApp f_is_row (mCons (mVar 0) (mCons (mC (.int 4)) mNil))))) (mTOr (mTNot (mTru (mApp f_is_list_name (mCons (mOp dIx (mVar 0) (mC (.int 0))) mNil)))) (mTst (mOp dEq (mOp dIx (mVar 0) (mC (.int 0))) (mC (S "list")))))) (sRet (mC (.bl false))) sNil)
    (sSeq (sIf (mTOr (mTNot (mTru (mApp f_is_role (mCons (mOp dIx (mVar 0) (mC (.int 1))) mNil)))) (mTOr (mTNot (mTru (mApp f_is_table (mCons (mOp dIx (mVar 0) (mC (.int 2))) (mCons (mC (.int 8)) mNil))))) (mTst (mOp dEq (mOp dIx (mVar 0) (mC (.int 2))) (mTup mNil))))) (sRet (mC (.bl false))) sNil)
    (sSeq (sFor (iAny (mOp dIx (mVar 0) (mC (.int 2)))) (.nm 1) (sIf (mTNot (mTru (mApp f_is_pattern (mCons (mVar 1) mNil)))) (sRet (mC (.bl false))) sNil))
    (sRet (mApp f_is_integer (mCons (mOp dIx (mVar 0) (mC (.int 3))) (mCons (mC (.int 0)) (mCons (mC (.int 1)) mNil))))))))
def f_is_grant : MF := mkF 1 2 b_is_grant
def b__law_name : MS := (sSeq (sSet 1 (mOp dAdd (mC (.int 1)) (mApp f__law_take (mCons (mVar 0) (mCons (mOp dIx (mLst (mCons (mC (.int 1)) (mCons (mC (.int 3)) (mCons (mC (.int 12)) mNil)))) (mApp f__law_take (mCons (mVar 0) (mCons (mC (.int 3)) mNil)))) mNil)))))
    (sRet (mMet isStr dJoin (mC (S "")) (mCons (mLc (iRng1M (mCons (mVar 1) mNil)) (.nm 2) mYes (mOp dIx (mC (S "abcdefghijklmnopqrstuvwxyz")) (mApp f__law_take (mCons (mVar 0) (mCons (mC (.int 26)) mNil)))) [2]) mNil))))
def f__law_name : MF := mkF 1 3 b__law_name
def b__law_path : MS := (sSeq (sSet 2 (mLst mNil))
    (sSeq (sFor (iRng1M (mCons (mOp dAdd (mC (.int 1)) (mApp f__law_take (mCons (mVar 0) (mCons (mOp dIx (mLst (mCons (mC (.int 2)) (mCons (mC (.int 6)) mNil))) (mApp f__law_take (mCons (mVar 0) (mCons (mC (.int 2)) mNil)))) mNil)))) mNil)) (.nm 3) (sSeq (sSet 4 (mOp dAdd (mC (.int 1)) (mApp f__law_take (mCons (mVar 0) (mCons (mC (.int 4)) mNil)))))
    (sExpr (mMet isLst dAppend (mVar 2) (mCons (mMet isStr dJoin (mC (S "")) (mCons (mLc (iRng1M (mCons (mVar 4) mNil)) (.nm 5) mYes (mOp dIx (mVar 1) (mApp f__law_take (mCons (mVar 0) (mCons (mApp dLen (mCons (mVar 1) mNil)) mNil)))) [5]) mNil)) mNil)))))
    (sRet (mMet isStr dJoin (mC (S "/")) (mCons (mVar 2) mNil)))))
def f__law_path : MF := mkF 2 6 b__law_path
def b__law_grant : MS := (sSeq (sSet 2 (mOp dIx (mLst (mCons (mC (S "ab*")) (mCons (mC (S "abcdefghijklmnopqrstuvwxyz0123456789.-_***")) mNil))) (mApp f__law_take (mCons (mVar 0) (mCons (mC (.int 2)) mNil)))))
    (sSeq (sSet 3 (mLc (iRng1M (mCons (mOp dAdd (mC (.int 1)) (mApp f__law_take (mCons (mVar 0) (mCons (mOp dIx (mLst (mCons (mC (.int 2)) (mCons (mC (.int 8)) mNil))) (mApp f__law_take (mCons (mVar 0) (mCons (mC (.int 2)) mNil)))) mNil)))) mNil)) (.nm 4) mYes (mApp f__law_path (mCons (mVar 0) (mCons (mVar 2) mNil))) [4]))
    (sRet (mTup (mCons (mVar 1) (mCons (mApp f__law_role (mCons (mVar 0) mNil)) (mCons (mApp dTuple (mCons (mVar 3) mNil)) (mCons (mApp f__law_take (mCons (mVar 0) (mCons (mC (.int 2)) mNil))) mNil))))))))
def f__law_grant : MF := mkF 2 5 b__law_grant
def b__law_hex : MS := (sRet (mMet isStr dJoin (mC (S "")) (mCons (mLc (iRng1M (mCons (mC (.int 18)) mNil)) (.nm 1) mYes (mOp dIx (mC (S "0123456789abcdef")) (mApp f__law_take (mCons (mVar 0) (mCons (mC (.int 16)) mNil)))) [1]) mNil)))
def f__law_hex : MF := mkF 1 2 b__law_hex
def b__law_hexed : MS := (sRet (mAnd (mIsI .str (mVar 0)) (mAnd (mOp dEq (mApp dLen (mCons (mVar 0) mNil)) (mC (.int 18))) (mApp f__law_all (mCons (mVar 0) (mCons (mC (S "0123456789abcdef")) mNil))))))
def f__law_hexed : MF := mkF 1 1 b__law_hexed
def b__law_is_name : MS := (sSeq (sIf (mTOr (mTNot (mTru (mIsI .str (mVar 0)))) (mTOr (mTst (mOp dLt (mApp dLen (mCons (mVar 0) mNil)) (mC (.int 1)))) (mTst (mOp dGt (mApp dLen (mCons (mVar 0) mNil)) (mC (.int 12)))))) (sRet (mC (.bl false))) sNil)
    (sRet (mApp f__law_all (mCons (mVar 0) (mCons (mC (S "abcdefghijklmnopqrstuvwxyz")) mNil)))))
def f__law_is_name : MF := mkF 1 1 b__law_is_name
def b__law_is_path : MS := (sSeq (sIf (mTOr (mTNot (mTru (mIsI .str (mVar 0)))) (mTst (mOp dGt (mApp dLen (mCons (mVar 0) mNil)) (mC (.int 60))))) (sRet (mC (.bl false))) sNil)
    (sSeq (sSet 2 (mMet isStr dSplit (mVar 0) (mCons (mC (S "/")) mNil)))
    (sSeq (sFor (iAny (mVar 2)) (.nm 3) (sIf (mTOr (mTst (mOp dEq (mVar 3) (mC (S "")))) (mTNot (mTru (mApp f__law_all (mCons (mVar 3) (mCons (mOp dAdd (mC (S "abcdefghijklmnopqrstuvwxyz0123456789.-_")) (mVar 1)) mNil)))))) (sRet (mC (.bl false))) sNil))
    (sRet (mOp dLe (mApp dLen (mCons (mVar 2) mNil)) (mC (.int 6)))))))
def f__law_is_path : MF := mkF 2 4 b__law_is_path
def b__law_is_grant : MS := (sSeq (sIf (mTOr (mTNot (mTru (mApp f__law_tuple (mCons (mVar 0) (mCons (mC (.int 4)) (mCons (mC (.int 4)) mNil)))))) (mTOr (mTNot (mTru (mApp f__law_is_name (mCons (mOp dIx (mVar 0) (mC (.int 0))) mNil)))) (mTst (mOp dEq (mOp dIx (mVar 0) (mC (.int 0))) (mC (S "list")))))) (sRet (mC (.bl false))) sNil)
    (sSeq (sIf (mTOr (mTNot (mTru (mApp f__law_is_role (mCons (mOp dIx (mVar 0) (mC (.int 1))) mNil)))) (mTNot (mTru (mApp f__law_tuple (mCons (mOp dIx (mVar 0) (mC (.int 2))) (mCons (mC (.int 1)) (mCons (mC (.int 8)) mNil))))))) (sRet (mC (.bl false))) sNil)
    (sSeq (sFor (iAny (mOp dIx (mVar 0) (mC (.int 2)))) (.nm 1) (sIf (mTNot (mTru (mApp f__law_is_path (mCons (mVar 1) (mCons (mC (S "*")) mNil))))) (sRet (mC (.bl false))) sNil))
    (sRet (mAnd (mApp f__law_number_v2 (mCons (mOp dIx (mVar 0) (mC (.int 3))) (mCons (mC (.int 0)) mNil))) (mOp dLe (mOp dIx (mVar 0) (mC (.int 3))) (mC (.int 1))))))))
def f__law_is_grant : MF := mkF 1 2 b__law_is_grant
def b_is_version : MS := (sRet (mApp f_is_integer (mCons (mVar 0) (mCons (mC (.int 1)) (mCons (mC (.int 1000000000000)) mNil)))))
def f_is_version : MF := mkF 1 1 b_is_version
def b_is_amount : MS := (sRet (mApp f_is_integer (mCons (mVar 0) (mCons (mC (.int 0)) (mCons (mC (.int 1000000000000)) mNil)))))
def f_is_amount : MF := mkF 1 1 b_is_amount
def b_is_sum : MS := (sRet (mAnd (mApp f_is_row (mCons (mVar 0) (mCons (mC (.int 3)) mNil))) (mAnd (mApp f_is_version (mCons (mOp dIx (mVar 0) (mC (.int 0))) mNil)) (mAnd (mApp f_is_amount (mCons (mOp dIx (mVar 0) (mC (.int 1))) mNil)) (mApp f_is_digest (mCons (mOp dIx (mVar 0) (mC (.int 2))) mNil))))))
def f_is_sum : MF := mkF 1 1 b_is_sum
def b_has_head : MS := (sRet (mAnd (mOp dEq (mOp dIx (mVar 0) (mC (.int 0))) (mVar 1)) (mAnd (mApp f_is_version (mCons (mOp dIx (mVar 0) (mVar 2)) mNil)) (mApp f_is_amount (mCons (mOp dIx (mVar 0) (mOp dAdd (mVar 2) (mC (.int 1)))) mNil)))))
def f_has_head : MF := mkF 3 3 b_has_head
def b_is_charter : MS := (sSeq (sIf (mTOr (mTNot (mTru (mApp f_is_row (mCons (mVar 0) (mCons (mC (.int 4)) mNil))))) (mTOr (mTNot (mTru (mApp f_has_head (mCons (mVar 0) (mCons (mC (S "charter")) (mCons (mC (.int 1)) mNil)))))) (mTNot (mTru (mApp f_is_row (mCons (mOp dIx (mVar 0) (mC (.int 3))) (mCons (mC (.int 4)) mNil))))))) (sRet (mC (.bl false))) sNil)
    (sSeq (sFor (iAny (mOp dIx (mVar 0) (mC (.int 3)))) (.nm 1) (sIf (mTNot (mTru (mApp f_is_role (mCons (mVar 1) mNil)))) (sRet (mC (.bl false))) sNil))
    (sRet (mC (.bl true)))))
def f_is_charter : MF := mkF 1 2 b_is_charter
def b_is_stamp : MS := (sRet (mAnd (mApp f_is_row (mCons (mVar 0) (mCons (mC (.int 4)) mNil))) (mAnd (mApp f_has_head (mCons (mVar 0) (mCons (mC (S "stamp")) (mCons (mC (.int 1)) mNil)))) (mApp f_is_sum (mCons (mOp dIx (mVar 0) (mC (.int 3))) mNil)))))
def f_is_stamp : MF := mkF 1 1 b_is_stamp
def b_is_shelf : MS := (sSeq (sIf (mTOr (mTNot (mTru (mApp f_is_row (mCons (mVar 0) (mCons (mC (.int 4)) mNil))))) (mTOr (mTNot (mTru (mApp f_has_head (mCons (mVar 0) (mCons (mC (S "shelf")) (mCons (mC (.int 1)) mNil)))))) (mTNot (mTru (mApp f_is_table (mCons (mOp dIx (mVar 0) (mC (.int 3))) (mCons (mC (.int 32)) mNil))))))) (sRet (mC (.bl false))) sNil)
    (sSeq (sFor (iAny (mOp dIx (mVar 0) (mC (.int 3)))) (.nm 1) (sIf (mTOr (mTNot (mTru (mApp f_is_row (mCons (mVar 1) (mCons (mC (.int 4)) mNil))))) (mTOr (mTNot (mTru (mApp f_is_list_name (mCons (mOp dIx (mVar 1) (mC (.int 0))) mNil)))) (mTNot (mTru (mApp f_is_sum (mCons (mSl (mVar 1) (mPart (mC (.int 1))) mNoP) mNil)))))) (sRet (mC (.bl false))) sNil))
    (sSeq (sSet 2 (mLc (iAny (mOp dIx (mVar 0) (mC (.int 3)))) (.nm 1) mYes (mOp dIx (mVar 1) (mC (.int 0))) [1]))
    (sRet (mAnd (mApp f_is_ascending (mCons (mVar 2) mNil)) (mOp dIn (mC (S "list")) (mVar 2)))))))
def f_is_shelf : MF := mkF 1 3 b_is_shelf
def b_are_goods : MS := (sSeq (sIf (mTNot (mTru (mApp f_is_table (mCons (mVar 0) (mCons (mC (.int 64)) mNil))))) (sRet (mC (.bl false))) sNil)
    (sSeq (sFor (iAny (mVar 0)) (.nm 1) (sIf (mTOr (mTNot (mTru (mApp f_is_row (mCons (mVar 1) (mCons (mC (.int 3)) mNil))))) (mTOr (mTNot (mTru (mApp f_is_path (mCons (mOp dIx (mVar 1) (mC (.int 0))) mNil)))) (mTOr (mTNot (mTru (mApp f_is_amount (mCons (mOp dIx (mVar 1) (mC (.int 1))) mNil)))) (mTNot (mTru (mApp f_is_digest (mCons (mOp dIx (mVar 1) (mC (.int 2))) mNil))))))) (sRet (mC (.bl false))) sNil))
    (sRet (mApp f_is_ascending (mCons (mLc (iAny (mVar 0)) (.nm 1) mYes (mOp dIx (mVar 1) (mC (.int 0))) [1]) mNil)))))
def f_are_goods : MF := mkF 1 2 b_are_goods
def b_are_grants : MS := (sSeq (sIf (mTNot (mTru (mApp f_is_table (mCons (mVar 0) (mCons (mC (.int 32)) mNil))))) (sRet (mC (.bl false))) sNil)
    (sSeq (sSet 2 (mLst (mCons (mVar 1) mNil)))
    (sSeq (sFor (iAny (mVar 0)) (.nm 3) (sSeq (sIf (mTOr (mTNot (mTru (mApp f_is_grant (mCons (mVar 3) mNil)))) (mTst (mOp dIn (mOp dIx (mVar 3) (mC (.int 0))) (mVar 2)))) (sRet (mC (.bl false))) sNil)
    (sExpr (mMet isLst dAppend (mVar 2) (mCons (mOp dIx (mVar 3) (mC (.int 0))) mNil)))))
    (sRet (mC (.bl true))))))
def f_are_grants : MF := mkF 2 4 b_are_grants
def b_is_list : MS := (sSeq (sIf (mTOr (mTNot (mTru (mApp f_is_row (mCons (mVar 0) (mCons (mC (.int 6)) mNil))))) (mTOr (mTNot (mTru (mApp f_has_head (mCons (mVar 0) (mCons (mC (S "list")) (mCons (mC (.int 2)) mNil)))))) (mTNot (mTru (mApp f_is_list_name (mCons (mOp dIx (mVar 0) (mC (.int 1))) mNil)))))) (sRet (mC (.bl false))) sNil)
    (sRet (mAnd (mApp f_are_goods (mCons (mOp dIx (mVar 0) (mC (.int 4))) mNil)) (mApp f_are_grants (mCons (mOp dIx (mVar 0) (mC (.int 5))) (mCons (mOp dIx (mVar 0) (mC (.int 1))) mNil))))))
def f_is_list : MF := mkF 1 1 b_is_list
def b__law_amount : MS := (sRet (mOp dIx (mLst (mCons (mC (.int 0)) (mCons (mC (.int 1)) (mCons (mC (.int 9)) (mCons (mOp dSub (mOp dPow (mC (.int 10)) (mC (.int 12))) (mC (.int 1))) (mCons (mOp dPow (mC (.int 10)) (mC (.int 12))) (mCons (mApp f__law_take (mCons (mVar 0) (mCons (mOp dPow (mC (.int 10)) (mC (.int 6))) mNil))) (mCons (mApp f__law_take (mCons (mVar 0) (mCons (mOp dPow (mC (.int 10)) (mC (.int 12))) mNil))) mNil)))))))) (mApp f__law_take (mCons (mVar 0) (mCons (mC (.int 7)) mNil)))))
def f__law_amount : MF := mkF 1 1 b__law_amount
def b__law_charter : MS := (sSeq (sSet 1 (mApp dTuple (mCons (mLc (iRng1M (mCons (mC (.int 4)) mNil)) (.nm 2) mYes (mApp f__law_role (mCons (mVar 0) mNil)) [2]) mNil)))
    (sRet (mTup (mCons (mC (S "charter")) (mCons (mApp dMax2 (mCons (mC (.int 1)) (mCons (mApp f__law_amount (mCons (mVar 0) mNil)) mNil))) (mCons (mApp f__law_amount (mCons (mVar 0) mNil)) (mCons (mVar 1) mNil)))))))
def f__law_charter : MF := mkF 1 3 b__law_charter
def b__law_is_charter : MS := (sSeq (sIf (mTOr (mTNot (mTru (mApp f__law_tuple (mCons (mVar 0) (mCons (mC (.int 4)) (mCons (mC (.int 4)) mNil)))))) (mTOr (mTst (mOp dNe (mOp dIx (mVar 0) (mC (.int 0))) (mC (S "charter")))) (mTNot (mTru (mApp f__law_tuple (mCons (mOp dIx (mVar 0) (mC (.int 3))) (mCons (mC (.int 4)) (mCons (mC (.int 4)) mNil)))))))) (sRet (mC (.bl false))) sNil)
    (sSeq (sFor (iAny (mOp dIx (mVar 0) (mC (.int 3)))) (.nm 1) (sIf (mTNot (mTru (mApp f__law_is_role (mCons (mVar 1) mNil)))) (sRet (mC (.bl false))) sNil))
    (sRet (mAnd (mApp f__law_number_v2 (mCons (mOp dIx (mVar 0) (mC (.int 1))) (mCons (mC (.int 1)) mNil))) (mApp f__law_number_v2 (mCons (mOp dIx (mVar 0) (mC (.int 2))) (mCons (mC (.int 0)) mNil)))))))
def f__law_is_charter : MF := mkF 1 2 b__law_is_charter
def b__law_sum : MS := (sRet (mTup (mCons (mApp dMax2 (mCons (mC (.int 1)) (mCons (mApp f__law_amount (mCons (mVar 0) mNil)) mNil))) (mCons (mApp f__law_amount (mCons (mVar 0) mNil)) (mCons (mApp f__law_hex (mCons (mVar 0) mNil)) mNil)))))
def f__law_sum : MF := mkF 1 1 b__law_sum
def b__law_stamp : MS := (sRet (mTup (mCons (mC (S "stamp")) (mCons (mApp dMax2 (mCons (mC (.int 1)) (mCons (mApp f__law_amount (mCons (mVar 0) mNil)) mNil))) (mCons (mApp f__law_amount (mCons (mVar 0) mNil)) (mCons (mApp f__law_sum (mCons (mVar 0) mNil)) mNil))))))
def f__law_stamp : MF := mkF 1 1 b__law_stamp
def b__law_is_sum : MS := (sRet (mAnd (mApp f__law_tuple (mCons (mVar 0) (mCons (mC (.int 3)) (mCons (mC (.int 3)) mNil)))) (mAnd (mApp f__law_number_v2 (mCons (mOp dIx (mVar 0) (mC (.int 0))) (mCons (mC (.int 1)) mNil))) (mAnd (mApp f__law_number_v2 (mCons (mOp dIx (mVar 0) (mC (.int 1))) (mCons (mC (.int 0)) mNil))) (mApp f__law_hexed (mCons (mOp dIx (mVar 0) (mC (.int 2))) mNil))))))
def f__law_is_sum : MF := mkF 1 1 b__law_is_sum
def b__law_is_stamp : MS := (sSeq (sIf (mTOr (mTNot (mTru (mApp f__law_tuple (mCons (mVar 0) (mCons (mC (.int 4)) (mCons (mC (.int 4)) mNil)))))) (mTOr (mTst (mOp dNe (mOp dIx (mVar 0) (mC (.int 0))) (mC (S "stamp")))) (mTNot (mTru (mApp f__law_is_sum (mCons (mOp dIx (mVar 0) (mC (.int 3))) mNil)))))) (sRet (mC (.bl false))) sNil)
    (sRet (mAnd (mApp f__law_number_v2 (mCons (mOp dIx (mVar 0) (mC (.int 1))) (mCons (mC (.int 1)) mNil))) (mApp f__law_number_v2 (mCons (mOp dIx (mVar 0) (mC (.int 2))) (mCons (mC (.int 0)) mNil))))))
def f__law_is_stamp : MF := mkF 1 1 b__law_is_stamp
def b__law_shelf : MS := (sSeq (sSet 1 (mLc (iRng1M (mCons (mApp f__law_take (mCons (mVar 0) (mCons (mOp dIx (mLst (mCons (mC (.int 4)) (mCons (mC (.int 32)) mNil))) (mApp dInt (mCons (mOp dEq (mApp f__law_take (mCons (mVar 0) (mCons (mC (.int 4)) mNil))) (mC (.int 0))) mNil))) mNil))) mNil)) (.nm 3) mYes (mApp f__law_name (mCons (mVar 0) mNil)) [3]))
    (sSeq (sSet 2 (mApp dTuple (mCons (mLc (iAny (mApp f__law_once (mCons (mOp dAdd (mVar 1) (mLst (mCons (mC (S "list")) mNil))) mNil))) (.nm 4) mYes (mOp dAdd (mTup (mCons (mVar 4) mNil)) (mApp f__law_sum (mCons (mVar 0) mNil))) [4]) mNil)))
    (sRet (mTup (mCons (mC (S "shelf")) (mCons (mApp dMax2 (mCons (mC (.int 1)) (mCons (mApp f__law_amount (mCons (mVar 0) mNil)) mNil))) (mCons (mApp f__law_amount (mCons (mVar 0) mNil)) (mCons (mVar 2) mNil))))))))
def f__law_shelf : MF := mkF 1 5 b__law_shelf
def b__law_is_shelf : MS := (sSeq (sIf (mTOr (mTNot (mTru (mApp f__law_tuple (mCons (mVar 0) (mCons (mC (.int 4)) (mCons (mC (.int 4)) mNil)))))) (mTOr (mTst (mOp dNe (mOp dIx (mVar 0) (mC (.int 0))) (mC (S "shelf")))) (mTNot (mTru (mApp f__law_tuple (mCons (mOp dIx (mVar 0) (mC (.int 3))) (mCons (mC (.int 1)) (mCons (mC (.int 32)) mNil)))))))) (sRet (mC (.bl false))) sNil)
    (sSeq (sFor (iAny (mOp dIx (mVar 0) (mC (.int 3)))) (.nm 1) (sIf (mTOr (mTNot (mTru (mApp f__law_tuple (mCons (mVar 1) (mCons (mC (.int 4)) (mCons (mC (.int 4)) mNil)))))) (mTOr (mTNot (mTru (mApp f__law_is_name (mCons (mOp dIx (mVar 1) (mC (.int 0))) mNil)))) (mTNot (mTru (mApp f__law_is_sum (mCons (mSl (mVar 1) (mPart (mC (.int 1))) mNoP) mNil)))))) (sRet (mC (.bl false))) sNil))
    (sSeq (sSet 2 (mLc (iAny (mOp dIx (mVar 0) (mC (.int 3)))) (.nm 1) mYes (mOp dIx (mVar 1) (mC (.int 0))) [1]))
    (sRet (mAnd (mOp dIn (mC (S "list")) (mVar 2)) (mAnd (mApp f__law_rising (mCons (mVar 2) mNil)) (mAnd (mApp f__law_number_v2 (mCons (mOp dIx (mVar 0) (mC (.int 1))) (mCons (mC (.int 1)) mNil))) (mApp f__law_number_v2 (mCons (mOp dIx (mVar 0) (mC (.int 2))) (mCons (mC (.int 0)) mNil))))))))))
def f__law_is_shelf : MF := mkF 1 3 b__law_is_shelf
def b__law_list : MS := (sSeq (sSet 1 (mOp dIx (mLst (mCons (mApp f__law_name (mCons (mVar 0) mNil)) (mCons (mC (S "list")) mNil))) (mApp f__law_take (mCons (mVar 0) (mCons (mC (.int 2)) mNil)))))
    (sSeq (sSet 2 (mOp dIx (mLst (mCons (mC (S "ab")) (mCons (mC (S "abcdefghijklmnopqrstuvwxyz0123456789.-_")) mNil))) (mApp f__law_take (mCons (mVar 0) (mCons (mC (.int 2)) mNil)))))
    (sSeq (sSet 3 (mLc (iRng1M (mCons (mApp f__law_take (mCons (mVar 0) (mCons (mOp dIx (mLst (mCons (mC (.int 5)) (mCons (mC (.int 65)) mNil))) (mApp dInt (mCons (mOp dEq (mApp f__law_take (mCons (mVar 0) (mCons (mC (.int 8)) mNil))) (mC (.int 0))) mNil))) mNil))) mNil)) (.nm 7) mYes (mApp f__law_path (mCons (mVar 0) (mCons (mVar 2) mNil))) [7]))
    (sSeq (sSet 4 (mApp dTuple (mCons (mLc (iAny (mApp f__law_once (mCons (mVar 3) mNil))) (.nm 8) mYes (mOp dAdd (mTup (mCons (mVar 8) mNil)) (mSl (mApp f__law_sum (mCons (mVar 0) mNil)) (mPart (mC (.int 1))) mNoP)) [8]) mNil)))
    (sSeq (sSet 5 (mApp f__law_once (mCons (mLc (iRng1M (mCons (mApp f__law_take (mCons (mVar 0) (mCons (mC (.int 4)) mNil))) mNil)) (.nm 7) mYes (mApp f__law_name (mCons (mVar 0) mNil)) [7]) mNil)))
    (sSeq (sIf (mTst (mOp dEq (mApp f__law_take (mCons (mVar 0) (mCons (mC (.int 2)) mNil))) (mC (.int 0)))) (sSet 5 (mUn dRevT (mVar 5))) sNil)
    (sSeq (sSet 6 (mApp dTuple (mCons (mLc (iAny (mVar 5)) (.nm 9) (mTAnd (mTst (mOp dNe (mVar 9) (mVar 1))) (mTst (mOp dNe (mVar 9) (mC (S "list"))))) (mApp f__law_grant (mCons (mVar 0) (mCons (mVar 9) mNil))) [9]) mNil)))
    (sRet (mTup (mCons (mC (S "list")) (mCons (mVar 1) (mCons (mApp dMax2 (mCons (mC (.int 1)) (mCons (mApp f__law_amount (mCons (mVar 0) mNil)) mNil))) (mCons (mApp f__law_amount (mCons (mVar 0) mNil)) (mCons (mVar 4) (mCons (mVar 6) mNil)))))))))))))))
def f__law_list : MF := mkF 1 10 b__law_list
def b__law_is_goods : MS := (sSeq (sIf (mTNot (mTru (mApp f__law_tuple (mCons (mVar 0) (mCons (mC (.int 0)) (mCons (mC (.int 64)) mNil)))))) (sRet (mC (.bl false))) sNil)
    (sSeq (sFor (iAny (mVar 0)) (.nm 1) (sIf (mTOr (mTNot (mTru (mApp f__law_tuple (mCons (mVar 1) (mCons (mC (.int 3)) (mCons (mC (.int 3)) mNil)))))) (mTOr (mTNot (mTru (mApp f__law_is_path (mCons (mOp dIx (mVar 1) (mC (.int 0))) (mCons (mC (S "")) mNil))))) (mTNot (mTru (mApp f__law_is_sum (mCons (mOp dAdd (mTup (mCons (mC (.int 1)) mNil)) (mSl (mVar 1) (mPart (mC (.int 1))) mNoP)) mNil)))))) (sRet (mC (.bl false))) sNil))
    (sRet (mApp f__law_rising (mCons (mLc (iAny (mVar 0)) (.nm 1) mYes (mOp dIx (mVar 1) (mC (.int 0))) [1]) mNil)))))
def f__law_is_goods : MF := mkF 1 2 b__law_is_goods
def b__law_is_list : MS := (sSeq (sIf (mTOr (mTNot (mTru (mApp f__law_tuple (mCons (mVar 0) (mCons (mC (.int 6)) (mCons (mC (.int 6)) mNil)))))) (mTOr (mTst (mOp dNe (mOp dIx (mVar 0) (mC (.int 0))) (mC (S "list")))) (mTNot (mTru (mApp f__law_is_name (mCons (mOp dIx (mVar 0) (mC (.int 1))) mNil)))))) (sRet (mC (.bl false))) sNil)
    (sSeq (sIf (mTOr (mTNot (mTru (mApp f__law_number_v2 (mCons (mOp dIx (mVar 0) (mC (.int 2))) (mCons (mC (.int 1)) mNil))))) (mTOr (mTNot (mTru (mApp f__law_number_v2 (mCons (mOp dIx (mVar 0) (mC (.int 3))) (mCons (mC (.int 0)) mNil))))) (mTNot (mTru (mApp f__law_tuple (mCons (mOp dIx (mVar 0) (mC (.int 5))) (mCons (mC (.int 0)) (mCons (mC (.int 32)) mNil)))))))) (sRet (mC (.bl false))) sNil)
    (sSeq (sSet 1 (mLst (mCons (mOp dIx (mVar 0) (mC (.int 1))) mNil)))
    (sSeq (sFor (iAny (mOp dIx (mVar 0) (mC (.int 5)))) (.nm 2) (sSeq (sIf (mTOr (mTNot (mTru (mApp f__law_is_grant (mCons (mVar 2) mNil)))) (mTst (mOp dIn (mOp dIx (mVar 2) (mC (.int 0))) (mVar 1)))) (sRet (mC (.bl false))) sNil)
    (sExpr (mMet isLst dAppend (mVar 1) (mCons (mOp dIx (mVar 2) (mC (.int 0))) mNil)))))
    (sRet (mApp f__law_is_goods (mCons (mOp dIx (mVar 0) (mC (.int 4))) mNil)))))))
def f__law_is_list : MF := mkF 1 3 b__law_is_list
def b_covers : MS := (sSeq (sFor (iAny (mOp dIx (mVar 0) (mC (.int 2)))) (.nm 2) (sIf (mTru (mApp f_matches (mCons (mVar 2) (mCons (mVar 1) mNil)))) (sRet (mC (.bl true))) sNil))
    (sRet (mC (.bl false))))
def f_covers : MF := mkF 2 3 b_covers
def b__law_matches : MS := (sSeq (sSet 2 (mMet isStr dSplit (mVar 0) (mCons (mC (S "/")) mNil)))
    (sSeq (sSet 3 (mMet isStr dSplit (mVar 1) (mCons (mC (S "/")) mNil)))
    (sSeq (sIf (mTst (mOp dNe (mApp dLen (mCons (mVar 2) mNil)) (mApp dLen (mCons (mVar 3) mNil)))) (sRet (mC (.bl false))) sNil)
    (sSeq (sFor (iRng1M (mCons (mApp dLen (mCons (mVar 3) mNil)) mNil)) (.nm 4) (sIf (mTNot (mTru (mApp f__law_part_matches (mCons (mOp dIx (mVar 2) (mVar 4)) (mCons (mOp dIx (mVar 3) (mVar 4)) mNil))))) (sRet (mC (.bl false))) sNil))
    (sRet (mC (.bl true)))))))
def f__law_matches : MF := mkF 2 5 b__law_matches
def b__law_like_v2 : MS := (sSeq (sSet 3 (mC (S "")))
    (sSeq (sFor (iAny (mVar 1)) (.nm 4) (sSeq (sIf (mTst (mOp dEq (mVar 4) (mC (S "*")))) (sSet 4 (mOp dIx (mVar 2) (mApp f__law_take (mCons (mVar 0) (mCons (mApp dLen (mCons (mVar 2) mNil)) mNil))))) (sIf (mTAnd (mTst (mOp dNe (mVar 4) (mC (S "/")))) (mTst (mOp dEq (mApp f__law_take (mCons (mVar 0) (mCons (mC (.int 9)) mNil))) (mC (.int 0))))) (sSet 4 (mOp dIx (mVar 2) (mApp f__law_take (mCons (mVar 0) (mCons (mApp dLen (mCons (mVar 2) mNil)) mNil))))) sNil))
    (sSet 3 (mOp dAdd (mVar 3) (mVar 4)))))
    (sRet (mVar 3))))
def f__law_like_v2 : MF := mkF 3 5 b__law_like_v2
def b_good_of : MS := (sSeq (sFor (iAny (mOp dIx (mVar 0) (mC (.int 4)))) (.nm 2) (sIf (mTst (mOp dEq (mOp dIx (mVar 2) (mC (.int 0))) (mVar 1))) (sRet (mTup (mCons (mOp dIx (mVar 2) (mC (.int 1))) (mCons (mOp dIx (mVar 2) (mC (.int 2))) mNil)))) sNil))
    (sRet (mC .non)))
def f_good_of : MF := mkF 2 3 b_good_of
def b_entry_of : MS := (sSeq (sFor (iAny (mOp dIx (mVar 0) (mC (.int 3)))) (.nm 2) (sIf (mTst (mOp dEq (mOp dIx (mVar 2) (mC (.int 0))) (mVar 1))) (sRet (mTup (mCons (mOp dIx (mVar 2) (mC (.int 1))) (mCons (mOp dIx (mVar 2) (mC (.int 2))) (mCons (mOp dIx (mVar 2) (mC (.int 3))) mNil))))) sNil))
    (sRet (mC .non)))
def f_entry_of : MF := mkF 2 3 b_entry_of
def b__law_document : MS := (sSeq (sIf (mTst (mOp dEq (mVar 1) (mC (.int 0)))) (sRet (mApp f__law_charter (mCons (mVar 0) mNil))) sNil)
    (sSeq (sIf (mTst (mOp dEq (mVar 1) (mC (.int 1)))) (sRet (mApp f__law_stamp (mCons (mVar 0) mNil))) sNil)
    (sSeq (sIf (mTst (mOp dEq (mVar 1) (mC (.int 2)))) (sRet (mApp f__law_shelf (mCons (mVar 0) mNil))) sNil)
    (sRet (mApp f__law_list (mCons (mVar 0) mNil))))))
def f__law_document : MF := mkF 2 2 b__law_document
def b__law_row_v2 : MS := (sSeq (sFor (iAny (mVar 0)) (.nm 2) (sIf (mTst (mOp dEq (mOp dIx (mVar 2) (mC (.int 0))) (mVar 1))) (sRet (mSl (mVar 2) (mPart (mC (.int 1))) mNoP)) sNil))
    (sRet (mC .non)))
def f__law_row_v2 : MF := mkF 2 3 b__law_row_v2
def b_is_seal : MS := (sSeq (sIf (mTOr (mTNot (mTru (mIsI .tuple (mVar 0)))) (mTst (mOp dNe (mApp dLen (mCons (mVar 0) mNil)) (mC (.int 2))))) (sRet (mC (.bl false))) sNil)
    (sRet (mAnd (mApp f_is_key (mCons (mOp dIx (mVar 0) (mC (.int 0))) mNil)) (mAnd (mApp f_is_printable (mCons (mOp dIx (mVar 0) (mC (.int 1))) mNil)) (mOp dLe (mApp dLen (mCons (mOp dIx (mVar 0) (mC (.int 1))) mNil)) (mC (.int 40)))))))
def f_is_seal : MF := mkF 1 1 b_is_seal
def b_are_seals : MS := (sSeq (sIf (mTOr (mTNot (mTru (mIsI .tuple (mVar 0)))) (mTst (mOp dGt (mApp dLen (mCons (mVar 0) mNil)) (mC (.int 32))))) (sRet (mC (.bl false))) sNil)
    (sSeq (sSet 1 (mC (S "")))
    (sSeq (sFor (iAny (mVar 0)) (.nm 2) (sSeq (sIf (mTOr (mTNot (mTru (mApp f_is_seal (mCons (mVar 2) mNil)))) (mTst (mOp dLe (mOp dIx (mVar 2) (mC (.int 0))) (mVar 1)))) (sRet (mC (.bl false))) sNil)
    (sSet 1 (mOp dIx (mVar 2) (mC (.int 0))))))
    (sRet (mC (.bl true))))))
def f_are_seals : MF := mkF 1 3 b_are_seals
def b_opened : MS := (sSeq (sSet 1 (mApp f_decode (mCons (mVar 0) mNil)))
    (sSeq (sIf (mTOr (mTNot (mTru (mIsI .tuple (mVar 1)))) (mTst (mOp dNe (mApp dLen (mCons (mVar 1) mNil)) (mC (.int 2))))) (sRaise "BadText") sNil)
    (sSeq (sIf (mTOr (mTNot (mTru (mApp f_is_printable (mCons (mOp dIx (mVar 1) (mC (.int 0))) mNil)))) (mTNot (mTru (mApp f_are_seals (mCons (mOp dIx (mVar 1) (mC (.int 1))) mNil))))) (sRaise "BadText") sNil)
    (sRet (mVar 1)))))
def f_opened : MF := mkF 1 2 b_opened
def b__law_is_key_v2 : MS := (sSeq (sIf (mTOr (mTNot (mTru (mIsI .str (mVar 0)))) (mTOr (mTst (mOp dLt (mApp dLen (mCons (mVar 0) mNil)) (mC (.int 2)))) (mTOr (mTst (mOp dGt (mApp dLen (mCons (mVar 0) mNil)) (mC (.int 12)))) (mTst (mOp dNe (mOp dIx (mVar 0) (mC (.int 0))) (mC (S "k"))))))) (sRet (mC (.bl false))) sNil)
    (sSeq (sFor (iAny (mSl (mVar 0) (mPart (mC (.int 1))) mNoP)) (.nm 1) (sIf (mTst (mOp dNotIn (mVar 1) (mC (S "0123456789")))) (sRet (mC (.bl false))) sNil))
    (sRet (mC (.bl true)))))
def f__law_is_key_v2 : MF := mkF 1 2 b__law_is_key_v2
def b__law_sealed : MS := (sSeq (sIf (mTOr (mTNot (mTru (mIsI .tuple (mVar 0)))) (mTOr (mTst (mOp dNe (mApp dLen (mCons (mVar 0) mNil)) (mC (.int 2)))) (mTNot (mTru (mIsI .str (mOp dIx (mVar 0) (mC (.int 0)))))))) (sRet (mC (.bl false))) sNil)
    (sSeq (sIf (mTOr (mTNot (mTru (mIsI .tuple (mOp dIx (mVar 0) (mC (.int 1)))))) (mTst (mOp dGt (mApp dLen (mCons (mOp dIx (mVar 0) (mC (.int 1))) mNil)) (mC (.int 32))))) (sRet (mC (.bl false))) sNil)
    (sSeq (sSet 1 (mC (S "")))
    (sSeq (sFor (iAny (mOp dIx (mVar 0) (mC (.int 1)))) (.nm 2) (sSeq (sIf (mTOr (mTNot (mTru (mIsI .tuple (mVar 2)))) (mTOr (mTst (mOp dNe (mApp dLen (mCons (mVar 2) mNil)) (mC (.int 2)))) (mTOr (mTNot (mTru (mApp f__law_is_key_v2 (mCons (mOp dIx (mVar 2) (mC (.int 0))) mNil)))) (mTst (mOp dLe (mOp dIx (mVar 2) (mC (.int 0))) (mVar 1)))))) (sRet (mC (.bl false))) sNil)
    (sSeq (sIf (mTOr (mTNot (mTru (mIsI .str (mOp dIx (mVar 2) (mC (.int 1)))))) (mTst (mOp dGt (mApp dLen (mCons (mOp dIx (mVar 2) (mC (.int 1))) mNil)) (mC (.int 40))))) (sRet (mC (.bl false))) sNil)
    (sSet 1 (mOp dIx (mVar 2) (mC (.int 0)))))))
    (sRet (mC (.bl true)))))))
def f__law_sealed : MF := mkF 1 3 b__law_sealed
def b__law_odd_pair : MS := (sSeq (sIf (mTst (mOp dEq (mVar 2) (mC (.int 3)))) (sSeq (sSet 3 (mLst (mCons (mC (S "")) (mCons (mC (S "k")) (mCons (mC (S "K1")) (mCons (mC (S "k1 ")) (mCons (mC (S "kk")) (mCons (mC (S "k0123456789012")) (mCons (mC (S "1")) mNil)))))))))
    (sRet (mTup (mCons (mOp dIx (mVar 3) (mApp f__law_take (mCons (mVar 0) (mCons (mC (.int 7)) mNil)))) (mCons (mOp dIx (mVar 1) (mC (.int 1))) mNil))))) sNil)
    (sSeq (sIf (mTOr (mTst (mOp dEq (mVar 2) (mC (.int 4)))) (mTst (mOp dEq (mVar 2) (mC (.int 5))))) (sRet (mTup (mCons (mOp dIx (mVar 1) (mC (.int 0))) (mCons (mOp dMulS (mC (S "m")) (mOp dAdd (mC (.int 36)) (mVar 2))) mNil)))) sNil)
    (sSeq (sIf (mTst (mOp dEq (mVar 2) (mC (.int 6)))) (sRet (mOp dIx (mLst (mCons (mOp dAdd (mVar 1) (mTup (mCons (mC (S "m")) mNil))) (mCons (mSl (mVar 1) mNoP (mPart (mC (.int 1)))) (mCons (mTup (mCons (mVar 1) mNil)) (mCons (mTup mNil) mNil))))) (mApp f__law_take (mCons (mVar 0) (mCons (mC (.int 4)) mNil))))) sNil)
    (sSeq (sIf (mTst (mOp dEq (mVar 2) (mC (.int 7)))) (sRet (mOp dIx (mVar 1) (mC (.int 0)))) sNil)
    (sSeq (sIf (mTst (mOp dEq (mVar 2) (mC (.int 8)))) (sRet (mTup (mCons (mOp dIx (mVar 1) (mC (.int 0))) (mCons (mApp f__law_take (mCons (mVar 0) (mCons (mC (.int 50)) mNil))) mNil)))) sNil)
    (sSeq (sIf (mTst (mOp dEq (mVar 2) (mC (.int 9)))) (sRet (mTup (mCons (mApp f__law_take (mCons (mVar 0) (mCons (mC (.int 50)) mNil))) (mCons (mOp dIx (mVar 1) (mC (.int 1))) mNil)))) sNil)
    (sRet (mVar 1))))))))
def f__law_odd_pair : MF := mkF 3 4 b__law_odd_pair
def b__law_pair : MS := (sSeq (sSet 1 (mApp f__law_take (mCons (mVar 0) (mCons (mOp dIx (mLst (mCons (mC (.int 8)) (mCons (mC (.int 32)) mNil))) (mApp f__law_take (mCons (mVar 0) (mCons (mC (.int 2)) mNil)))) mNil))))
    (sSeq (sSet 2 (mApp f__law_take (mCons (mVar 0) (mCons (mC (.int 17)) mNil))))
    (sSeq (sIf (mTst (mOp dGt (mVar 2) (mC (.int 14)))) (sSet 1 (mOp dAdd (mC (.int 17)) (mVar 2))) sNil)
    (sSeq (sSet 3 (mLc (iRng1M (mCons (mVar 1) mNil)) (.nm 6) mYes (mTup (mCons (mOp dAdd (mC (S "k")) (mApp dStr (mCons (mOp dAdd (mOp dPow (mC (.int 10)) (mC (.int 7))) (mOp dMul (mC (.int 3)) (mVar 6))) mNil))) (mCons (mApp f__law_string (mCons (mVar 0) (mCons (mC (.int 40)) mNil))) mNil))) [6]))
    (sSeq (sIf (mTst (mOp dGt (mVar 1) (mC (.int 0)))) (sSeq (sSet 4 (mApp f__law_take (mCons (mVar 0) (mCons (mVar 1) mNil))))
    (sSeq (sSetL (mVar 3) (mVar 4) (mApp f__law_odd_pair (mCons (mVar 0) (mCons (mOp dIx (mVar 3) (mVar 4)) (mCons (mVar 2) mNil)))))
    (sSeq (sIf (mTst (mOp dEq (mVar 2) (mC (.int 1)))) (sSet 3 (mOp dAdd (mOp dAdd (mSl (mVar 3) mNoP (mPart (mVar 4))) (mSl (mVar 3) (mPart (mOp dAdd (mVar 4) (mC (.int 1)))) mNoP)) (mLst (mCons (mOp dIx (mVar 3) (mVar 4)) mNil)))) sNil)
    (sIf (mTst (mOp dEq (mVar 2) (mC (.int 2)))) (sExpr (mMet isLst dInsert (mVar 3) (mCons (mVar 4) (mCons (mOp dIx (mVar 3) (mVar 4)) mNil)))) sNil)))) sNil)
    (sSeq (sSet 5 (mApp f__law_string (mCons (mVar 0) (mCons (mC (.int 30)) mNil))))
    (sSeq (sIf (mTst (mOp dEq (mVar 2) (mC (.int 10)))) (sRet (mOp dIx (mLst (mCons (mTup (mCons (mC (.int 5)) (mCons (mApp dTuple (mCons (mVar 3) mNil)) mNil))) (mCons (mTup (mCons (mApp dTuple (mCons (mVar 3) mNil)) (mCons (mApp dTuple (mCons (mVar 3) mNil)) mNil))) (mCons (mTup (mCons (mVar 5) (mCons (mVar 5) mNil))) mNil)))) (mApp f__law_take (mCons (mVar 0) (mCons (mC (.int 3)) mNil))))) sNil)
    (sSeq (sIf (mTst (mOp dEq (mVar 2) (mC (.int 11)))) (sRet (mOp dIx (mLst (mCons (mTup (mCons (mVar 5) (mCons (mApp dTuple (mCons (mVar 3) mNil)) (mCons (mC (.int 0)) mNil)))) (mCons (mTup (mCons (mVar 5) mNil)) (mCons (mTup mNil) (mCons (mVar 5) (mCons (mC (.int 7)) (mCons (mTup (mCons (mApp dTuple (mCons (mVar 3) mNil)) (mCons (mVar 5) mNil))) mNil))))))) (mApp f__law_take (mCons (mVar 0) (mCons (mC (.int 6)) mNil))))) sNil)
    (sRet (mTup (mCons (mVar 5) (mCons (mApp dTuple (mCons (mVar 3) mNil)) mNil))))))))))))
def f__law_pair : MF := mkF 1 7 b__law_pair
def b_is_document : MS := (sRet (mOr (mApp f_is_charter (mCons (mVar 0) mNil)) (mOr (mApp f_is_stamp (mCons (mVar 0) mNil)) (mOr (mApp f_is_shelf (mCons (mVar 0) mNil)) (mApp f_is_list (mCons (mVar 0) mNil))))))
def f_is_document : MF := mkF 1 1 b_is_document
def b_published_name : MS := (sSeq (sIf (mTNot (mTru (mApp f_is_document (mCons (mVar 0) mNil)))) (sRaise "BadDocument") sNil)
    (sSeq (sSet 1 (mOp dIx (mVar 0) (mC (.int 0))))
    (sSeq (sIf (mTst (mOp dEq (mVar 1) (mC (S "stamp")))) (sRet (mC (S "stamp"))) sNil)
    (sSeq (sIf (mTst (mOp dEq (mVar 1) (mC (S "list")))) (sRet (mOp dAdd (mOp dAdd (mOp dAdd (mApp dStr (mCons (mOp dIx (mVar 0) (mC (.int 2))) mNil)) (mC (S "."))) (mOp dIx (mVar 0) (mC (.int 1)))) (mC (S ".list")))) sNil)
    (sRet (mOp dAdd (mOp dAdd (mApp dStr (mCons (mOp dIx (mVar 0) (mC (.int 1))) mNil)) (mC (S "."))) (mVar 1)))))))
def f_published_name : MF := mkF 1 2 b_published_name
def b_file_name : MS := (sRet (mOp dAdd (mOp dAdd (mVar 1) (mC (S "."))) (mVar 0)))
def f_file_name : MF := mkF 2 2 b_file_name
def b__law_is_document : MS := (sRet (mOr (mApp f__law_is_charter (mCons (mVar 0) mNil)) (mOr (mApp f__law_is_stamp (mCons (mVar 0) mNil)) (mOr (mApp f__law_is_shelf (mCons (mVar 0) mNil)) (mApp f__law_is_list (mCons (mVar 0) mNil))))))
def f__law_is_document : MF := mkF 1 1 b__law_is_document
def b__law_due : MS := (sSeq (sIf (mTst (mOp dEq (mOp dIx (mVar 0) (mC (.int 0))) (mC (S "stamp")))) (sRet (mC (S "stamp"))) sNil)
    (sSeq (sIf (mTst (mOp dEq (mOp dIx (mVar 0) (mC (.int 0))) (mC (S "list")))) (sRet (mOp dAdd (mOp dAdd (mOp dAdd (mApp dStr (mCons (mOp dIx (mVar 0) (mC (.int 2))) mNil)) (mC (S "."))) (mOp dIx (mVar 0) (mC (.int 1)))) (mC (S ".list")))) sNil)
    (sRet (mOp dAdd (mOp dAdd (mApp dStr (mCons (mOp dIx (mVar 0) (mC (.int 1))) mNil)) (mC (S "."))) (mOp dIx (mVar 0) (mC (.int 0)))))))
def f__law_due : MF := mkF 1 1 b__law_due
def b__law_alike : MS := (sSeq (sIf (mTst (mOp dNe (mOp dIx (mVar 0) (mC (.int 0))) (mOp dIx (mVar 1) (mC (.int 0))))) (sRet (mC (.bl false))) sNil)
    (sRet (mOr (mOp dEq (mOp dIx (mVar 0) (mC (.int 0))) (mC (S "stamp"))) (mAnd (mOp dEq (mOp dIx (mVar 0) (mC (.int 1))) (mOp dIx (mVar 1) (mC (.int 1)))) (mOr (mOp dNe (mOp dIx (mVar 0) (mC (.int 0))) (mC (S "list"))) (mOp dEq (mOp dIx (mVar 0) (mC (.int 2))) (mOp dIx (mVar 1) (mC (.int 2)))))))))
def f__law_alike : MF := mkF 2 2 b__law_alike
def b__law_bad : MS := (sSeq (sSet 1 (mApp f__law_take (mCons (mVar 0) (mCons (mOp dPow (mC (.int 10)) (mC (.int 30))) mNil))))
    (sSeq (sSet 2 (mLst (mCons (mOp dSub (mUn dNeg (mC (.int 1))) (mVar 1)) (mCons (mC (.bl true)) (mCons (mC (.bl false)) (mCons (mC .non) (mCons (mLst mNil) (mCons (mLst (mCons (mC (.int 1)) mNil)) (mCons (mC (S "a\nb")) (mCons (mC (S "\t")) (mCons (mOp dAdd (mOp dPow (mC (.int 10)) (mC (.int 20))) (mVar 1)) (mCons mDict0 (mCons (mTup (mCons (mC (.int 1)) (mCons (mLst (mCons (mC (.int 2)) mNil)) mNil))) (mCons (mOp dPow (mC (.int 10)) (mC (.int 20))) mNil))))))))))))))
    (sRet (mOp dIx (mVar 2) (mApp f__law_take (mCons (mVar 0) (mCons (mC (.int 12)) mNil)))))))
def f__law_bad : MF := mkF 1 3 b__law_bad
def b__law_keeps : MS := (sSeq (sSet 1 (mApp f_encode (mCons (mVar 0) mNil)))
    (sRet (mAnd (mIsI .str (mVar 1)) (mOp dEq (mVar 1) (mApp f__law_text (mCons (mVar 0) mNil))))))
def f__law_keeps : MF := mkF 1 2 b__law_keeps
def b__law_nested : MS := (sSeq (sFor (iRng1M (mCons (mVar 1) mNil)) (.nm 4) (sSet 0 (mOp dAdd (mOp dAdd (mTRg (mOp dMod (mApp dInt (mCons (mOp dAdd (mVar 2) (mVar 4)) mNil)) (mC (.int 3)))) (mTup (mCons (mVar 0) mNil))) (mOp dMulT (mTup (mCons (mC (S "x")) mNil)) (mOp dMod (mApp dInt (mCons (mOp dAdd (mVar 3) (mVar 4)) mNil)) (mC (.int 3)))))))
    (sRet (mVar 0)))
def f__law_nested : MF := mkF 4 5 b__law_nested
def b__law_plain_v2 (R : Nat → MF) : MS := (sSeq (sIf (mTru (mIsI .tuple (mVar 0))) (sSeq (sFor (iAny (mVar 0)) (.nm 1) (sIf (mTNot (mTru (mApp (R 0) (mCons (mVar 1) mNil)))) (sRet (mC (.bl false))) sNil))
    (sRet (mC (.bl true)))) sNil)
    (sSeq (sIf (mTru (mIsI .str (mVar 0))) (sRet (mOp dNotIn (mC (S "\n")) (mVar 0))) sNil)
    (sRet (mAnd (mIsI .int (mVar 0)) (mAnd (mNot (mIsI .bool (mVar 0))) (mOp dLe (mC (.int 0)) (mVar 0)))))))
def F__law_plain_v2 : Nat → Nat → MF
  | 0, _ => fun _ _ => .bad
  | n + 1, _ => mkF 1 2 (b__law_plain_v2 (F__law_plain_v2 n))
def f__law_plain_v2 : MF := F__law_plain_v2 FUEL 0
def b__law_edited_v2 : MS := (sSeq (sFor (iRng1M (mCons (mApp f__law_take (mCons (mVar 0) (mCons (mC (.int 3)) mNil))) mNil)) (.nm 2) (sSeq (sSet 3 (mApp f__law_take (mCons (mVar 0) (mCons (mOp dAdd (mApp dLen (mCons (mVar 1) mNil)) (mC (.int 1))) mNil))))
    (sSeq (sSet 4 (mOp dIx (mC (S "0123456789.:[]a/ \n")) (mApp f__law_take (mCons (mVar 0) (mCons (mC (.int 18)) mNil)))))
    (sSeq (sSet 5 (mOp dAdd (mVar 3) (mApp f__law_take (mCons (mVar 0) (mCons (mC (.int 2)) mNil)))))
    (sSeq (sIf (mTst (mOp dEq (mApp f__law_take (mCons (mVar 0) (mCons (mC (.int 3)) mNil))) (mC (.int 0)))) (sSet 4 (mC (S ""))) sNil)
    (sSet 1 (mOp dAdd (mOp dAdd (mSl (mVar 1) mNoP (mPart (mVar 3))) (mVar 4)) (mSl (mVar 1) (mPart (mVar 5)) mNoP))))))))
    (sRet (mVar 1)))
def f__law_edited_v2 : MF := mkF 2 6 b__law_edited_v2
def b_mark_of : MS := (sRet (mApp f_digest (mCons (mOp dAdd (mOp dAdd (mVar 0) (mC (S " "))) (mVar 1)) mNil)))
def f_mark_of : MF := mkF 2 2 b_mark_of
def b_Seals___init__ : MS := (sFldSet "Seals" "_marks" (mVar 0) mDictT)
def f_Seals___init__ : MF := mkF 1 1 b_Seals___init__
def b_Seals_make : MS := (sSeq (sIf (mTNot (mTru (mApp f_is_key (mCons (mVar 1) mNil)))) (sRaise "BadKey") sNil)
    (sSeq (sIf (mTNot (mTru (mApp f_is_printable (mCons (mVar 2) mNil)))) (sRaise "BadText") sNil)
    (sSeq (sSet 3 (mApp f_mark_of (mCons (mVar 1) (mCons (mVar 2) mNil))))
    (sSeq (sPutT (mUn (fldD "Seals" "_marks") (mVar 0)) (mCons (mVar 1) (mCons (mVar 2) mNil)) (mVar 3))
    (sRet (mVar 3))))))
def f_Seals_make : MF := mkF 3 4 b_Seals_make
def b_Seals_holds : MS := (sSeq (sIf (mTOr (mTNot (mTru (mIsI .str (mVar 1)))) (mTOr (mTNot (mTru (mIsI .str (mVar 2)))) (mTNot (mTru (mIsI .str (mVar 3)))))) (sRet (mC (.bl false))) sNil)
    (sSeq (sIf (mTst (mInT true (mCons (mVar 1) (mCons (mVar 2) mNil)) (mUn (fldD "Seals" "_marks") (mVar 0)))) (sRet (mC (.bl false))) sNil)
    (sRet (mOp dEq (mGetT (mUn (fldD "Seals" "_marks") (mVar 0)) (mCons (mVar 1) (mCons (mVar 2) mNil))) (mVar 3)))))
def f_Seals_holds : MF := mkF 4 4 b_Seals_holds
def b_Seals_count : MS := (sRet (mApp dLenA (mCons (mUn (fldD "Seals" "_marks") (mVar 0)) mNil)))
def f_Seals_count : MF := mkF 1 1 b_Seals_count
def b__law_digest : MS := (sSeq (sSet 1 (mOp dAdd (mApp dLen (mCons (mVar 0) mNil)) (mC (.int 1))))
    (sSeq (sFor (iAny (mVar 0)) (.nm 2) (sSet 1 (mOp dAdd (mOp dMul (mVar 1) (mC (.int 65599))) (mApp dOrd (mCons (mVar 2) mNil)))))
    (sSeq (sSet 1 (mOp dMod (mApp dInt (mCons (mVar 1) mNil)) (mOp dSub (mOp dMul (mOp dPow (mC (.int 2)) (mC (.int 64))) (mC (.int 128))) (mC (.int 231)))))
    (sSeq (sSet 3 (mC (S "")))
    (sSeq (sFor (iRng1M (mCons (mC (.int 18)) mNil)) (.nm 4) (sSeq (sSet 3 (mOp dAdd (mOp dIx (mC (S "0123456789abcdef")) (mOp dMod (mApp dInt (mCons (mVar 1) mNil)) (mC (.int 16)))) (mVar 3)))
    (sSet 1 (mOp dDiv (mVar 1) (mC (.int 16))))))
    (sRet (mVar 3)))))))
def f__law_digest : MF := mkF 1 5 b__law_digest
def b__law_word : MS := (sSeq (sIf (mTst (mOp dEq (mApp f__law_take (mCons (mVar 0) (mCons (mC (.int 4)) mNil))) (mC (.int 0)))) (sRet (mApp f__law_string (mCons (mVar 0) (mCons (mC (.int 60)) mNil)))) sNil)
    (sRet (mMet isStr dJoin (mC (S "")) (mCons (mLc (iRng1M (mCons (mApp f__law_take (mCons (mVar 0) (mCons (mC (.int 4)) mNil))) mNil)) (.nm 1) mYes (mOp dIx (mC (S "ab 1k")) (mApp f__law_take (mCons (mVar 0) (mCons (mC (.int 5)) mNil)))) [1]) mNil))))
def f__law_word : MF := mkF 1 2 b__law_word
def b__law_mark : MS := (sRet (mApp f__law_digest (mCons (mOp dAdd (mOp dAdd (mVar 0) (mC (S " "))) (mVar 1)) mNil)))
def f__law_mark : MF := mkF 2 2 b__law_mark
def b__law_counts : MS := (sRet (mAnd (mIsI .int (mVar 0)) (mAnd (mNot (mIsI .bool (mVar 0))) (mOp dEq (mVar 0) (mVar 1)))))
def f__law_counts : MF := mkF 2 2 b__law_counts
def b__law_question : MS := (sSeq (sSet 2 (mOp dIx (mVar 1) (mApp f__law_take (mCons (mVar 0) (mCons (mApp dLen (mCons (mVar 1) mNil)) mNil)))))
    (sSeq (sSet 3 (mOp dIx (mVar 1) (mApp f__law_take (mCons (mVar 0) (mCons (mApp dLen (mCons (mVar 1) mNil)) mNil)))))
    (sSeq (sSet 4 (mApp f__law_mark (mCons (mOp dIx (mVar 2) (mC (.int 0))) (mCons (mOp dIx (mVar 2) (mC (.int 1))) mNil))))
    (sSeq (sSet 5 (mApp f__law_take (mCons (mVar 0) (mCons (mC (.int 7)) mNil))))
    (sSeq (sIf (mTst (mOp dEq (mVar 5) (mC (.int 1)))) (sRet (mTup (mCons (mApp f__law_key (mCons (mVar 0) mNil)) (mCons (mOp dIx (mVar 2) (mC (.int 1))) (mCons (mVar 4) mNil))))) sNil)
    (sSeq (sIf (mTst (mOp dEq (mVar 5) (mC (.int 2)))) (sRet (mTup (mCons (mOp dIx (mVar 2) (mC (.int 0))) (mCons (mApp f__law_word (mCons (mVar 0) mNil)) (mCons (mVar 4) mNil))))) sNil)
    (sSeq (sIf (mTst (mOp dEq (mVar 5) (mC (.int 3)))) (sRet (mTup (mCons (mOp dIx (mVar 2) (mC (.int 0))) (mCons (mOp dIx (mVar 2) (mC (.int 1))) (mCons (mOp dAdd (mVar 4) (mC (S "0"))) mNil))))) sNil)
    (sSeq (sIf (mTst (mOp dEq (mVar 5) (mC (.int 4)))) (sRet (mTup (mCons (mOp dIx (mVar 2) (mC (.int 0))) (mCons (mOp dIx (mVar 2) (mC (.int 1))) (mCons (mApp f__law_mark (mCons (mOp dIx (mVar 3) (mC (.int 0))) (mCons (mOp dIx (mVar 3) (mC (.int 1))) mNil))) mNil))))) sNil)
    (sSeq (sIf (mTst (mOp dEq (mVar 5) (mC (.int 5)))) (sRet (mTup (mCons (mOp dIx (mVar 3) (mC (.int 0))) (mCons (mOp dIx (mVar 2) (mC (.int 1))) (mCons (mApp f__law_mark (mCons (mOp dIx (mVar 3) (mC (.int 0))) (mCons (mOp dIx (mVar 2) (mC (.int 1))) mNil))) mNil))))) sNil)
    (sSeq (sIf (mTst (mOp dEq (mVar 5) (mC (.int 6)))) (sSeq (sSet 6 (mOp dIx (mLst (mCons (mC .non) (mCons (mC (.int 7)) (mCons (mC (.bl true)) (mCons (mLst (mCons (mVar 4) mNil)) (mCons (mTup (mCons (mVar 4) mNil)) mNil)))))) (mApp f__law_take (mCons (mVar 0) (mCons (mC (.int 5)) mNil)))))
    (sRet (mOp dIx (mLst (mCons (mTup (mCons (mVar 6) (mCons (mOp dIx (mVar 2) (mC (.int 1))) (mCons (mVar 4) mNil)))) (mCons (mTup (mCons (mOp dIx (mVar 2) (mC (.int 0))) (mCons (mVar 6) (mCons (mVar 4) mNil)))) (mCons (mTup (mCons (mOp dIx (mVar 2) (mC (.int 0))) (mCons (mOp dIx (mVar 2) (mC (.int 1))) (mCons (mVar 6) mNil)))) mNil)))) (mApp f__law_take (mCons (mVar 0) (mCons (mC (.int 3)) mNil)))))) sNil)
    (sRet (mTup (mCons (mOp dIx (mVar 2) (mC (.int 0))) (mCons (mOp dIx (mVar 2) (mC (.int 1))) (mCons (mVar 4) mNil)))))))))))))))
def f__law_question : MF := mkF 2 7 b__law_question
def b__law_due_v2 : MS := (sSeq (sFor (iAny (mVar 1)) (.nm 2) (sIf (mTNot (mTru (mIsI .str (mVar 2)))) (sRet (mC (.bl false))) sNil))
    (sRet (mAnd (mOp dInD (mTup (mCons (mOp dIx (mVar 1) (mC (.int 0))) (mCons (mOp dIx (mVar 1) (mC (.int 1))) mNil))) (mVar 0)) (mOp dEq (mOp dIx (mVar 1) (mC (.int 2))) (mApp f__law_mark (mCons (mOp dIx (mVar 1) (mC (.int 0))) (mCons (mOp dIx (mVar 1) (mC (.int 1))) mNil)))))))
def f__law_due_v2 : MF := mkF 2 3 b__law_due_v2
def b__law_no_key : MS := (sSeq (sSet 1 (mLst (mCons (mC (S "")) (mCons (mC (S "k")) (mCons (mC (S "K1")) (mCons (mC (S "1k")) (mCons (mC (S "k1 ")) (mCons (mC (S " k1")) (mCons (mC (S "kk1")) (mCons (mC (S "k1a")) (mCons (mC (S "k1\n")) (mCons (mC (S "k-1")) (mCons (mC (S "k1.0")) (mCons (mC (S "j1")) (mCons (mC (S "k0123456789012")) mNil)))))))))))))))
    (sSeq (sSet 1 (mOp dAdd (mVar 1) (mLst (mCons (mC .non) (mCons (mC (.int 1)) (mCons (mC (.bl true)) (mCons (mLst (mCons (mC (S "k1")) mNil)) (mCons (mTup (mCons (mC (S "k1")) mNil)) mNil))))))))
    (sRet (mOp dIx (mVar 1) (mApp f__law_take (mCons (mVar 0) (mCons (mC (.int 18)) mNil)))))))
def f__law_no_key : MF := mkF 1 2 b__law_no_key
def b__law_no_text : MS := (sSeq (sSet 1 (mApp f__law_take (mCons (mVar 0) (mCons (mC (.int 4)) mNil))))
    (sSeq (sSet 2 (mC (S "abc")))
    (sRet (mOp dIx (mLst (mCons (mOp dAdd (mOp dAdd (mSl (mVar 2) mNoP (mPart (mVar 1))) (mC (S "\n"))) (mSl (mVar 2) (mPart (mVar 1)) mNoP)) (mCons (mOp dAdd (mSl (mVar 2) mNoP (mPart (mVar 1))) (mC (S "\t"))) (mCons (mC .non) (mCons (mC (.int 7)) (mCons (mLst (mCons (mVar 2) mNil)) (mCons (mTup (mCons (mVar 2) mNil)) (mCons (mC (.bl true)) mNil)))))))) (mApp f__law_take (mCons (mVar 0) (mCons (mC (.int 7)) mNil)))))))
def f__law_no_text : MF := mkF 1 3 b__law_no_text
def b_support : MS := (sSeq (sTup [3, 4] (mApp f_opened (mCons (mVar 1) mNil)))
    (sRet (mApp dLen (mCons (mLc (iAny (mVar 4)) (.tp [5, 6]) (mTAnd (mTst (mOp dIn (mVar 5) (mVar 2))) (mTru (mMeth "Seals" "holds" f_Seals_holds (mVar 0) (mCons (mVar 5) (mCons (mVar 3) (mCons (mVar 6) mNil)))))) (mVar 5) [5, 6]) mNil))))
def f_support : MF := mkF 3 7 b_support
def b__law_seal_mark : MS := (sSeq (sSet 3 (mApp f__law_take (mCons (mVar 0) (mCons (mC (.int 8)) mNil))))
    (sSeq (sIf (mTst (mOp dEq (mVar 3) (mC (.int 0)))) (sRet (mApp f__law_mark (mCons (mVar 1) (mCons (mApp f__law_word (mCons (mVar 0) mNil)) mNil)))) sNil)
    (sSeq (sIf (mTst (mOp dEq (mVar 3) (mC (.int 1)))) (sRet (mSl (mApp f__law_mark (mCons (mVar 1) (mCons (mVar 2) mNil))) (mPart (mC (.int 1))) mNoP)) sNil)
    (sSeq (sIf (mTst (mOp dEq (mVar 3) (mC (.int 2)))) (sRet (mOp dAdd (mApp f__law_mark (mCons (mVar 1) (mCons (mVar 2) mNil))) (mC (S "0")))) sNil)
    (sSeq (sIf (mTst (mOp dEq (mVar 3) (mC (.int 3)))) (sRet (mApp f__law_string (mCons (mVar 0) (mCons (mC (.int 40)) mNil)))) sNil)
    (sRet (mApp f__law_mark (mCons (mVar 1) (mCons (mVar 2) mNil)))))))))
def f__law_seal_mark : MF := mkF 3 4 b__law_seal_mark
def b__law_target : MS := (sSeq (sSet 2 (mOp dIx (mVar 1) (mApp f__law_take (mCons (mVar 0) (mCons (mApp dLen (mCons (mVar 1) mNil)) mNil)))))
    (sSeq (sSet 3 (mApp f__law_take (mCons (mVar 0) (mCons (mOp dAdd (mApp dLen (mCons (mVar 2) mNil)) (mC (.int 1))) mNil))))
    (sSeq (sSet 2 (mOp dAdd (mOp dAdd (mSl (mVar 2) mNoP (mPart (mVar 3))) (mApp f__law_word (mCons (mVar 0) mNil))) (mSl (mVar 2) (mPart (mOp dAdd (mVar 3) (mApp f__law_take (mCons (mVar 0) (mCons (mC (.int 2)) mNil))))) mNoP)))
    (sSeq (sIf (mTst (mOp dIn (mVar 2) (mVar 1))) (sSet 2 (mOp dAdd (mMet isStr dJoin (mC (S "")) (mCons (mVar 1) mNil)) (mC (S "!")))) sNil)
    (sRet (mVar 2))))))
def f__law_target : MF := mkF 2 4 b__law_target
def b__law_seal_mark_v2 : MS := (sSeq (sSet 5 (mApp f__law_take (mCons (mVar 0) (mCons (mC (.int 5)) mNil))))
    (sSeq (sIf (mTst (mOp dEq (mVar 5) (mC (.int 0)))) (sRet (mApp f__law_mark (mCons (mVar 1) (mCons (mOp dIx (mVar 3) (mApp f__law_take (mCons (mVar 0) (mCons (mApp dLen (mCons (mVar 3) mNil)) mNil)))) mNil)))) sNil)
    (sSeq (sIf (mTst (mOp dEq (mVar 5) (mC (.int 1)))) (sRet (mApp f__law_mark (mCons (mOp dIx (mVar 4) (mApp f__law_take (mCons (mVar 0) (mCons (mApp dLen (mCons (mVar 4) mNil)) mNil)))) (mCons (mVar 2) mNil)))) sNil)
    (sRet (mApp f__law_mark (mCons (mVar 1) (mCons (mVar 2) mNil)))))))
def f__law_seal_mark_v2 : MF := mkF 5 6 b__law_seal_mark_v2
end L
set_option Elab.async false
set_option linter.all false
set_option maxRecDepth 100000
set_option maxHeartbeats 4000000
namespace HM
open PySem L2
/-! ### the mirrors evaluated -/
section
variable {α β : Type} {e : EN} {h h1 : LH} {d : D}
@[simp] theorem bind_ok {a : α} {f : α → LH → Res β} : (Res.ok a h).bind f = f a h := rfl
@[simp] theorem bind_bad {f : α → LH → Res β} : (Res.bad : Res α).bind f = .bad := rfl
@[simp] theorem bind_exc {x : XO} {f : α → LH → Res β} : (Res.exc x h : Res α).bind f = .exc x h := rfl
@[simp] theorem rs_ok {a : α} {f : α → LH → RSt} : rsBind (Res.ok a h) e f = f a h := rfl
@[simp] theorem rs_bad {f : α → LH → RSt} : rsBind (Res.bad : Res α) e f = .bad := rfl
@[simp] theorem rs_exc {x : XO} {f : α → LH → RSt} : rsBind (Res.exc x h : Res α) e f = .exc x e h := rfl
@[simp] theorem ev_var {i : Nat} : mVar i e h = match e[i]? with | some (some d) => .ok d h | _ => .bad := rfl
@[simp] theorem ev_c : mC d e h = .ok d h := rfl
@[simp] theorem ev_op {f : D → D → LH → Res D} {a b : M D} : mOp f a b e h = (a e h).bind fun x h1 => (b e h1).bind fun y h2 => f x y h2 := rfl
@[simp] theorem ev_un {f : D → LH → Res D} {a : M D} : mUn f a e h = (a e h).bind fun x h1 => f x h1 := rfl
@[simp] theorem ev_nil : mNil e h = .ok [] h := rfl
@[simp] theorem ev_cons {a : M D} {r : M (List D)} : mCons a r e h = (a e h).bind fun x h1 => (r e h1).bind fun xs h2 => .ok (x :: xs) h2 := rfl
@[simp] theorem ev_app {f : MF} {a : M (List D)} : mApp f a e h = (a e h).bind fun xs h1 => f xs h1 := rfl
@[simp] theorem ev_app0 {f : MF} : mApp0 f e h = match f [] h with | .ok d h1 => .ok d h1 | .exc _ _ => .bad | .bad => .bad := rfl
@[simp] theorem ev_tst {a : M D} : mTst a e h = (a e h).bind fun x h1 => match x with | .bl b => .ok b h1 | _ => .bad := rfl
@[simp] theorem ev_tAnd {a b : M Bool} : mTAnd a b e h = (a e h).bind fun x h1 => if x then b e h1 else .ok false h1 := rfl
@[simp] theorem ev_tOr {a b : M Bool} : mTOr a b e h = (a e h).bind fun x h1 => if x then .ok true h1 else b e h1 := rfl
@[simp] theorem ev_tNot {a : M Bool} : mTNot a e h = (a e h).bind fun x h1 => .ok (!x) h1 := rfl
@[simp] theorem ev_tru {a : M D} : mTru a e h = (a e h).bind fun d h1 => match truD d h1 with | some b => .ok b h1 | none => .bad := rfl
/-- what and, or do behind their first part -/
def kAnd (x : D) (b : M D) (e : EN) (h : LH) : Res D := match x with
  | .bl true => b e h
  | .bl false => .ok (.bl false) h
  | _ => .bad
def kOr (x : D) (b : M D) (e : EN) (h : LH) : Res D := match x with
  | .bl true => .ok (.bl true) h
  | .bl false => b e h
  | _ => .bad
@[simp] theorem ev_and {a b : M D} : mAnd a b e h = (a e h).bind fun x h1 => kAnd x b e h1 := rfl
@[simp] theorem ev_or {a b : M D} : mOr a b e h = (a e h).bind fun x h1 => kOr x b e h1 := rfl
@[simp] theorem kAnd_bl {b : M D} {t : Bool} : kAnd (.bl t) b e h = if t then b e h else .ok (.bl false) h := by cases t <;> rfl
@[simp] theorem kOr_bl {b : M D} {t : Bool} : kOr (.bl t) b e h = if t then .ok (.bl true) h else b e h := by cases t <;> rfl
@[simp] theorem ev_not {a : M D} : mNot a e h = (a e h).bind fun x h1 => match x with | .bl b => .ok (.bl (!b)) h1 | _ => .bad := rfl
@[simp] theorem ev_ifE {c : M Bool} {a b : M D} : mIfE c a b e h = (c e h).bind fun x h1 => if x then a e h1 else b e h1 := rfl
def kCh (z : D) (c : M D) (g : D → D → LH → Res D) (y : D) (e : EN) (h : LH) : Res D := match z with
  | .bl true => (c e h).bind fun w h4 => g y w h4
  | .bl false => .ok (.bl false) h
  | _ => .bad
@[simp] theorem ev_chain {f g : D → D → LH → Res D} {a b c : M D} : mChain f g a b c e h = (a e h).bind fun x h1 => (b e h1).bind fun y h2 => (f x y h2).bind fun z h3 => kCh z c g y e h3 := rfl
@[simp] theorem kCh_bl {c : M D} {g : D → D → LH → Res D} {y : D} {t : Bool} : kCh (.bl t) c g y e h = if t then (c e h).bind fun w h4 => g y w h4 else .ok (.bl false) h := by cases t <;> rfl
@[simp] theorem ev_tup {a : M (List D)} : mTup a e h = (a e h).bind fun xs h1 => if xs.length ≤ 16777216 then .ok (.tup xs) h1 else .bad := rfl
@[simp] theorem ev_lst {a : M (List D)} : mLst a e h = (a e h).bind fun xs h1 => if xs.length ≤ 16777216 then .ok (.ref h1.length) (h1 ++ [.lst xs]) else .bad := rfl
@[simp] theorem ev_isI {b : BT} {a : M D} : mIsI b a e h = (a e h).bind fun d h1 => match tyD d h1 with | some t => .ok (.bl (isB t b)) h1 | Option.none => .bad := rfl
@[simp] theorem ev_noP : mNoP e h = .ok none h := rfl
@[simp] theorem ev_part {a : M D} : mPart a e h = (a e h).bind fun d h1 => match d with | .int i => .ok (some i) h1 | _ => .bad := rfl
@[simp] theorem ev_sl {a : M D} {lo hi : M (Option Int)} : mSl a lo hi e h = (a e h).bind fun d h1 => (lo e h1).bind fun l h2 => (hi e h2).bind fun u h3 => dSl d l u h3 := rfl
@[simp] theorem ev_met {ck : D → LH → Bool} {f : MM} {o : M D} {a : M (List D)} : mMet ck f o a e h = (o e h).bind fun x h1 => if ck x h1 then (a e h1).bind fun xs h2 => f x xs h2 else .bad := rfl
theorem ev_seq {a b : MS} : sSeq a b e h = match a e h with
  | .next e1 h1 => b e1 h1
  | .ret d h1 => .ret d h1
  | .brk e1 h1 => .brk e1 h1
  | .cnt e1 h1 => .cnt e1 h1
  | .exc x e1 h1 => .exc x e1 h1
  | .bad => .bad := rfl
@[simp] theorem ev_snil : sNil e h = .next e h := rfl
@[simp] theorem ev_if {c : M Bool} {a b : MS} : sIf c a b e h = rsBind (c e h) e fun x h1 => if x then a e h1 else b e h1 := rfl
@[simp] theorem ev_set {i : Nat} {a : M D} : sSet i a e h = rsBind (a e h) e fun x h1 => .next (e.set i (some x)) h1 := rfl
@[simp] theorem ev_ret {a : M D} : sRet a e h = rsBind (a e h) e fun x h1 => .ret x h1 := rfl
@[simp] theorem ev_retN : sRetN e h = .ret .non h := rfl
@[simp] theorem ev_expr {a : M D} : sExpr a e h = rsBind (a e h) e fun _ h1 => .next e h1 := rfl
@[simp] theorem ev_brk : sBrk e h = .brk e h := rfl
@[simp] theorem ev_cnt : sCnt e h = .cnt e h := rfl
@[simp] theorem ev_setL {o i a : M D} : sSetL o i a e h = rsBind (a e h) e fun v h1 => rsBind (o e h1) e fun x h2 => rsBind (i e h2) e fun y h3 => match setL x y v h3 with | some h4 => .next e h4 | none => .bad := rfl
@[simp] theorem ev_sTup {is : List Nat} {a : M D} : sTup is a e h = rsBind (a e h) e fun v h1 => match tnSet (.tp is) v e with | some e1 => .next e1 h1 | none => .bad := rfl
@[simp] theorem ev_aug {f : D → D → LH → Res D} {i : Nat} {a : M D} : sAug f i a e h = match e[i]? with
  | some (some x) => rsBind (a e h) e fun y h1 => rsBind (f x y h1) e fun z h2 => .next (e.set i (some z)) h2
  | _ => .bad := rfl
@[simp] theorem ev_for {it : M (IT × Nat)} {t : TN} {b : MS} : sFor it t b e h = rsBind (it e h) e fun g h1 => loopF g.1 t b g.2 0 e h1 := rfl
@[simp] theorem ev_while {c : M Bool} {b : MS} {n : Nat} : sWhile n c b e h = loopW c b n e h := rfl
@[simp] theorem ev_any {a : M D} : iAny a e h = (a e h).bind fun d h1 => match d with
  | .tup xs => .ok (itL xs, xs.length) h1
  | .scr ns => .ok (itL (ns.map D.int), ns.length) h1
  | .str s => .ok (itL (s.map fun c => D.str [c]), s.length) h1
  | .ref i => match h1[i]? with
    | some (.lst xs) => .ok (itO i, xs.length) h1
    | _ => .bad
  | _ => .bad := rfl
@[simp] theorem ev_lc {it : M (IT × Nat)} {t : TN} {c : M Bool} {y : M D} {vs : List Nat} : mLc it t c y vs e h = (it e h).bind fun g h1 => loopC g.1 t c y (wipeM e vs) h1.length g.2 0 (h1 ++ [.lst []]) := rfl
/-- a range that is walked -/
def itR (lo : Int) (n : Nat) : IT := fun _ j => some (if j < n then some (.int (lo + j)) else none)
end
theorem dAdd_int {a b : Int} {h : LH} : dAdd (.int a) (.int b) h = .ok (.int (a + b)) h := rfl
theorem dSub_int {a b : Int} {h : LH} : dSub (.int a) (.int b) h = .ok (.int (a - b)) h := rfl
theorem dLt_int {a b : Int} {h : LH} : dLt (.int a) (.int b) h = .ok (.bl (decide (a < b))) h := rfl
theorem dLe_int {a b : Int} {h : LH} : dLe (.int a) (.int b) h = .ok (.bl (decide (a ≤ b))) h := rfl
theorem dGt_int {a b : Int} {h : LH} : dGt (.int a) (.int b) h = .ok (.bl (decide (b < a))) h := rfl
theorem dGe_int {a b : Int} {h : LH} : dGe (.int a) (.int b) h = .ok (.bl (decide (b ≤ a))) h := rfl
theorem dEq_int {a b : Int} {h : LH} : dEq (.int a) (.int b) h = .ok (.bl (decide (a = b))) h := rfl
theorem dNe_int {a b : Int} {h : LH} : dNe (.int a) (.int b) h = .ok (.bl (!decide (a = b))) h := rfl
theorem dEq_str {a b : List Nat} {h : LH} : dEq (.str a) (.str b) h = .ok (.bl (decide (a = b))) h := rfl
theorem dNe_str {a b : List Nat} {h : LH} : dNe (.str a) (.str b) h = .ok (.bl (!decide (a = b))) h := rfl
theorem dEq_bl {a b : Bool} {h : LH} : dEq (.bl a) (.bl b) h = .ok (.bl (decide (a = b))) h := rfl
theorem dNe_bl {a b : Bool} {h : LH} : dNe (.bl a) (.bl b) h = .ok (.bl (!decide (a = b))) h := rfl
theorem dMod_int {a b : Int} {h : LH} (hb : 0 < b) : dMod (.int a) (.int b) h = .ok (.int (a % b)) h := by
  show (if 0 < b then _ else _) = _
  rw [if_pos hb]
theorem dDiv_int {a b : Int} {h : LH} (hb : 0 < b) (hl : b.natAbs.log2 < 9000) : dDiv (.int a) (.int b) h = .ok (.int (a / b)) h := by
  show (if 0 < b ∧ b.natAbs.log2 < 9000 then _ else _) = _
  rw [if_pos ⟨hb, hl⟩]
theorem dMul_int {a b : Int} {h : LH} (hb : mulOk a b = true) : dMul (.int a) (.int b) h = .ok (.int (a * b)) h := by
  show (if mulOk a b = true then _ else _) = _
  rw [if_pos hb]
theorem mulOk_r {a b : Int} (h : b.natAbs < 2 ^ 63) : mulOk a b = true := by
  unfold mulOk
  rw [decide_eq_true h]
  rfl
theorem S_eq (s : String) : S s = .str (s.toList.map Char.toNat) := by
  unfold S
  have := TL.tl_ofString s
  unfold TL.tl at this
  rw [this]
end HM
namespace HM
open PySem L2
theorem wseq {R : RSt → Prop} {a b : MS} {e e1 : EN} {h h1 : LH} (x : a e h = .next e1 h1) (k : R (b e1 h1)) : R (sSeq a b e h) := by
  rw [ev_seq, x]
  exact k
theorem wseq_ret {R : RSt → Prop} {a b : MS} {e : EN} {h h1 : LH} {d : D} (x : a e h = .ret d h1) (k : R (.ret d h1)) : R (sSeq a b e h) := by
  rw [ev_seq, x]
  exact k
theorem wseq_exc {R : RSt → Prop} {a b : MS} {e e1 : EN} {h h1 : LH} {d : XO} (x : a e h = .exc d e1 h1) (k : R (.exc d e1 h1)) : R (sSeq a b e h) := by
  rw [ev_seq, x]
  exact k
/-- a def's answer from its body's -/
theorem mkF_ret {np nn : Nat} {m : MS} {ds : List D} {h h1 : LH} {d : D} (hl : ds.length = np) (k : m (ds.map some ++ List.replicate (nn - np) none) h = .ret d h1) : mkF np nn m ds h = .ok d h1 := by
  unfold mkF
  rw [if_pos hl, k]
theorem mkF_nx {np nn : Nat} {m : MS} {ds : List D} {e1 : EN} {h h1 : LH} (hl : ds.length = np) (k : m (ds.map some ++ List.replicate (nn - np) none) h = .next e1 h1) : mkF np nn m ds h = .ok .non h1 := by
  unfold mkF
  rw [if_pos hl, k]
theorem mkF_exc {np nn : Nat} {m : MS} {ds : List D} {e1 : EN} {h h1 : LH} {x : XO} (hl : ds.length = np) (k : m (ds.map some ++ List.replicate (nn - np) none) h = .exc x e1 h1) : mkF np nn m ds h = .exc x h1 := by
  unfold mkF
  rw [if_pos hl, k]
def RetT (r : RSt) : Prop := ∃ h, r = .ret (.bl true) h
theorem law_of {nn : Nat} {m : MS} (H : ∀ ns : List Int, ns.length ≤ 63 → (∀ z ∈ ns, Builtin.Int.intBits z ≤ 1048576) → RetT (m (some (.scr ns) :: List.replicate (nn - 1) none) [])) : LawOk (mkF 1 nn m) := by
  intro ns hn hb
  obtain ⟨h, e⟩ := H ns hn hb
  exact ⟨h, mkF_ret (by rfl) e⟩
end HM
set_option Elab.async false
set_option linter.all false
set_option maxRecDepth 100000
set_option maxHeartbeats 4000000
namespace HM
open PySem L2
theorem mkF_eq {np nn : Nat} {m : MS} {ds : List D} {h : LH} (hl : ds.length = np) : mkF np nn m ds h = match m (ds.map some ++ List.replicate (nn - np) none) h with
  | .next _ h => .ok .non h
  | .ret d h => .ok d h
  | .exc x _ h => .exc x h
  | .brk _ _ => .bad
  | .cnt _ _ => .bad
  | .bad => .bad := by
  unfold mkF
  first
    | (rw [if_pos hl]; done)
    | (rw [if_pos hl]
       cases m (ds.map some ++ List.replicate (nn - np) none) h <;> rfl)
theorem atI_of {α : Type} {xs : List α} {i : Int} {x : α} (h0 : 0 ≤ i) (h : xs[i.toNat]? = some x) : atI xs i = some x := by
  have e : ((i.toNat : Nat) : Int) = i := Int.toNat_of_nonneg h0
  rw [← e]
  exact atI_nat h
theorem dIx_ref {h : LH} {r : Nat} {xs : List D} {i : Int} {x : D} (hr : h[r]? = some (.lst xs)) (hx : atI xs i = some x) : dIx (.ref r) (.int i) h = .ok x h := by
  show (match seqD (.ref r) h with
    | some xs => (match atI xs i with
      | some x => Res.ok x h
      | none => .bad)
    | none => .bad) = _
  have e : seqD (.ref r) h = some xs := by
    show (match h[r]? with
      | some (.lst xs) => some xs
      | _ => none) = _
    rw [hr]
  rw [e]
  simp only [hx]
theorem dIx_tup {h : LH} {xs : List D} {i : Int} {x : D} (hx : atI xs i = some x) : dIx (.tup xs) (.int i) h = .ok x h := by
  show (match atI xs i with
      | some x => Res.ok x h
      | none => .bad) = _
  simp only [hx]
theorem dIx_scr {h : LH} {xs : List Int} {i : Int} {x : Int} (h0 : 0 ≤ i) (hx : xs[i.toNat]? = some x) : dIx (.scr xs) (.int i) h = .ok (.int x) h := by
  show (match atI (xs.map D.int) i with
      | some x => Res.ok x h
      | none => .bad) = _
  rw [atI_of h0 (x := D.int x) (by rw [List.getElem?_map, hx]; rfl)]
theorem dIx_str {h : LH} {s : List Nat} {i : Int} {c : Nat} (hl : s.length ≤ 16777216) (hx : atI s i = some c) : dIx (.str s) (.int i) h = .ok (.str [c]) h := by
  show (if s.length ≤ 16777216 then (match atI s i with
    | some c => Res.ok (D.str [c]) h
    | none => .bad) else .bad) = _
  rw [if_pos hl, hx]
theorem setL_ref {h : LH} {r : Nat} {xs : List D} {k : Int} {j : Nat} {v : D} (hr : h[r]? = some (.lst xs)) (hj : ixN xs.length k = some j) : setL (.ref r) (.int k) v h = some (h.set r (.lst (xs.set j v))) := by
  show (match h[r]? with
    | some (.lst xs) => match ixN xs.length k with
      | some j => some (h.set r (.lst (xs.set j v)))
      | none => none
    | _ => none) = _
  rw [hr]
  simp only [hj]
theorem dLen_ref {h : LH} {r : Nat} {xs : List D} (hr : h[r]? = some (.lst xs)) : dLen [.ref r] h = .ok (.int xs.length) h := by
  show (match h[r]? with
    | some (.lst ys) => Res.ok (D.int ys.length) h
    | _ => .bad) = _
  rw [hr]
theorem dLen_str {h : LH} {s : List Nat} (hl : s.length ≤ 16777216) : dLen [.str s] h = .ok (.int s.length) h := by
  show (if s.length ≤ 16777216 then Res.ok (D.int s.length) h else .bad) = _
  rw [if_pos hl]
theorem dLen_scr {h : LH} {s : List Int} : dLen [.scr s] h = .ok (.int s.length) h := rfl
theorem dLen_tup {h : LH} {s : List D} : dLen [.tup s] h = .ok (.int s.length) h := rfl
theorem dInt_int {h : LH} {i : Int} : dInt [.int i] h = .ok (.int i) h := rfl
theorem dOrd_chr {h : LH} {c : Nat} : dOrd [.str [c]] h = .ok (.int c) h := rfl
theorem dAdd_str {a b : List Nat} {h : LH} (hl : a.length + b.length ≤ 16777216) : dAdd (.str a) (.str b) h = .ok (.str (a ++ b)) h := by
  show (if a.length + b.length ≤ 16777216 then Res.ok (D.str (a ++ b)) h else .bad) = _
  rw [if_pos hl]

/-! ### the stream of a law -/
/-- the draw of a stream -/
def tkV (a b m : Int) : Int := if a > 0 then a % m else
  let c := (b * 48271 + 69621) % 2147483647
  (c * c / 1009 + c / 7) % m
def tkA (a m : Int) : Int := if a > 0 then a / m else a
def tkB (a b : Int) : Int := if a > 0 then b else (b * 48271 + 69621) % 2147483647
theorem cell_eq {ns : List Int} {k : Int} {h : LH} (h0 : 0 ≤ k) : L.f__law_cell [.scr ns, .int k] h = .ok (.int (ns.getD k.toNat 0)) h := by
  unfold L.f__law_cell
  rw [mkF_eq (by rfl)]
  unfold L.b__law_cell
  simp [ev_seq, dLen_scr, dLt_int]
  by_cases c : k < ns.length
  · have hk : k.toNat < ns.length := by omega
    have e : ns[k.toNat]? = some (ns.getD k.toNat 0) := by
      rw [List.getD_eq_getElem?_getD, List.getElem?_eq_getElem hk]; rfl
    simp [c, dIx_scr h0 e]
  · have e : ns.getD k.toNat 0 = 0 := by
      rw [List.getD_eq_getElem?_getD, List.getElem?_eq_none (by omega)]; rfl
    rw [List.getD_eq_getElem?_getD] at e
    simp [c, e]
theorem stream_eq {n : Int} {h : LH} : L.f__law_stream [.int n] h = .ok (.ref h.length) (h ++ [.lst (if n ≥ 1000000000000000000 then [.int n, .int 1] else [.int 0, .int n])]) := by
  unfold L.f__law_stream
  rw [mkF_eq (by rfl)]
  unfold L.b__law_stream
  have e : dPow (.int 10) (.int 18) h = .ok (.int 1000000000000000000) h := by
    show (if (0 : Int) ≤ 18 ∧ (18 : Int) ≤ 1000000 ∧ Int.natAbs 10 < 2 ^ 64 then Res.ok (D.int (10 ^ (18 : Int).toNat)) h else .bad) = _
    rw [if_pos ⟨by decide, by decide, by decide⟩]
    rfl
  simp [ev_seq, e, dGe_int]
  by_cases c : n ≥ 1000000000000000000 <;> simp [c]
theorem take_eq {h : LH} {r : Nat} {a b m : Int} (hr : h[r]? = some (.lst [.int a, .int b])) (hm : 0 < m) (hl : m.natAbs.log2 < 9000) :
    L.f__law_take [.ref r, .int m] h = .ok (.int (tkV a b m)) (h.set r (.lst [.int (tkA a m), .int (tkB a b)])) := by
  have i0 : atI [D.int a, D.int b] 0 = some (.int a) := rfl
  have i1 : atI [D.int a, D.int b] 1 = some (.int b) := rfl
  have hlt : r < h.length := lt_of_get hr
  unfold L.f__law_take
  rw [mkF_eq (by rfl)]
  unfold L.b__law_take
  by_cases c : a > 0
  · simp [ev_seq, dIx_ref hr i0, dGt_int, c, dInt_int, dMod_int hm, dDiv_int hm hl, setL_ref hr (show ixN [D.int a, D.int b].length 0 = some 0 from rfl), tkV, tkA, tkB]
  · have m1 : dMul (.int b) (.int 48271) h = .ok (.int (b * 48271)) h := dMul_int (mulOk_r (by decide))
    have hr2 : (h.set r (.lst [.int a, .int ((b * 48271 + 69621) % 2147483647)]))[r]? = some (.lst [.int a, .int ((b * 48271 + 69621) % 2147483647)]) := List.getElem?_set_self hlt
    have hc0 : 0 ≤ (b * 48271 + 69621) % 2147483647 := Int.emod_nonneg _ (by decide)
    have hc1 : (b * 48271 + 69621) % 2147483647 < 2147483647 := Int.emod_lt_of_pos _ (by decide)
    simp [ev_seq, dIx_ref hr i0, dIx_ref hr i1, dGt_int, c, dInt_int, m1, dAdd_int, dMod_int (show (0 : Int) < 2147483647 by decide), setL_ref hr (show ixN [D.int a, D.int b].length 1 = some 1 from rfl)]
    generalize hz : (b * 48271 + 69621) % 2147483647 = z at *
    have j1 : atI [D.int a, D.int z] 1 = some (.int z) := rfl
    have m2 : ∀ g, dMul (.int z) (.int z) g = .ok (.int (z * z)) g := fun g => dMul_int (mulOk_r (by omega))
    simp [dIx_ref hr2 j1, m2, dDiv_int (show (0 : Int) < 1009 by decide) (by decide +kernel), dDiv_int (show (0 : Int) < 7 by decide) (by decide +kernel), dAdd_int, dInt_int, dMod_int hm, tkV, tkA, tkB, c, hz]

theorem tkV_mem {a b m : Int} (hm : 0 < m) : 0 ≤ tkV a b m ∧ tkV a b m < m := by
  unfold tkV
  split
  · exact ⟨Int.emod_nonneg _ (by omega), Int.emod_lt_of_pos _ hm⟩
  · exact ⟨Int.emod_nonneg _ (by omega), Int.emod_lt_of_pos _ hm⟩
/-! ### frames: a stream at r may have turned, all else stands, new objects came -/
def StrAt (h : LH) (r : Nat) : Prop := ∃ a b, h[r]? = some (.lst [.int a, .int b])
structure SF (r : Nat) (h h' : LH) : Prop where
  le : h.length ≤ h'.length
  keep : ∀ i, i < h.length → i ≠ r → h'[i]? = h[i]?
  st : StrAt h' r
theorem SF.trans {r : Nat} {h h1 h2 : LH} (a : SF r h h1) (b : SF r h1 h2) : SF r h h2 :=
  ⟨Nat.le_trans a.le b.le, fun i hi hr => (b.keep i (Nat.lt_of_lt_of_le hi a.le) hr).trans (a.keep i hi hr), b.st⟩
theorem SF.refl {r : Nat} {h : LH} (s : StrAt h r) : SF r h h := ⟨Nat.le_refl _, fun _ _ _ => rfl, s⟩
theorem SF.push {r : Nat} {h : LH} {o : LO} (s : StrAt h r) : SF r h (h ++ [o]) := by
  obtain ⟨a, b, e⟩ := s
  refine ⟨by simp, fun i hi _ => List.getElem?_append_left hi, a, b, ?_⟩
  rw [List.getElem?_append_left (lt_of_get e)]
  exact e
theorem SF.get {r i : Nat} {h h' : LH} {o : LO} (s : SF r h h') (hr : i ≠ r) (e : h[i]? = some o) : h'[i]? = some o := (s.keep i (lt_of_get e) hr).trans e
theorem take_ok {h : LH} {r : Nat} {m : Int} (s : StrAt h r) (hm : 0 < m) (hl : m < 4611686018427387904) :
    ∃ v h', L.f__law_take [.ref r, .int m] h = .ok (.int v) h' ∧ 0 ≤ v ∧ v < m ∧ SF r h h' ∧ h'.length = h.length := by
  obtain ⟨a, b, e⟩ := s
  have hlog : m.natAbs.log2 < 9000 := Nat.lt_trans (PySem.Flt.log2_lt_of (k := 62) (by decide) (by omega)) (by decide)
  refine ⟨_, _, take_eq e hm hlog, (tkV_mem hm).1, (tkV_mem hm).2, ⟨by simp, fun i hi hr => by rw [List.getElem?_set_ne (Ne.symm hr)], _, _, List.getElem?_set_self (lt_of_get e)⟩, by simp⟩
/-! ### loops -/
theorem loopF_gen {g : IT} {t : TN} {body : MS} {N : Nat} (it : Nat → D) (I : Nat → EN → LH → Prop) (R : RSt → Prop)
    (hg : ∀ j e h, j ≤ N → I j e h → g h j = some (if j < N then some (it j) else none))
    (step : ∀ j e h, j < N → I j e h → ∃ e1, tnSet t (it j) e = some e1 ∧ match body e1 h with
      | .next e2 h2 => I (j + 1) e2 h2
      | .cnt e2 h2 => I (j + 1) e2 h2
      | .brk e2 h2 => R (.next e2 h2)
      | .ret x h2 => R (.ret x h2)
      | .exc x e2 h2 => R (.exc x e2 h2)
      | .bad => False)
    (fin : ∀ e h, I N e h → R (.next e h)) : ∀ n j e h, j + n = N → I j e h → R (loopF g t body n j e h) := by
  intro n
  induction n with
  | zero =>
    intro j e h hj hi
    have e0 := hg j e h (by omega) hi
    rw [if_neg (by omega)] at e0
    unfold loopF
    rw [e0]
    have : j = N := by omega
    subst this
    exact fin e h hi
  | succ n ih =>
    intro j e h hj hi
    have e0 := hg j e h (by omega) hi
    rw [if_pos (by omega)] at e0
    obtain ⟨e1, et, hb⟩ := step j e h (by omega) hi
    unfold loopF
    rw [e0]
    simp only [et]
    cases eb : body e1 h with
    | next e2 h2 => rw [eb] at hb; exact ih (j + 1) e2 h2 (by omega) hb
    | cnt e2 h2 => rw [eb] at hb; exact ih (j + 1) e2 h2 (by omega) hb
    | brk e2 h2 => rw [eb] at hb; exact hb
    | ret x h2 => rw [eb] at hb; exact hb
    | exc x e2 h2 => rw [eb] at hb; exact hb
    | bad => rw [eb] at hb; exact hb.elim
theorem loopC_gen {g : IT} {t : TN} {c : M Bool} {y : M D} {e : EN} {k N : Nat} (it : Nat → D) (I : Nat → List D → LH → Prop)
    (hg : ∀ j acc h, j ≤ N → I j acc h → g h j = some (if j < N then some (it j) else none))
    (hk : ∀ j acc h, j ≤ N → I j acc h → h[k]? = some (.lst acc))
    (step : ∀ j acc h, j < N → I j acc h → ∃ e1, tnSet t (it j) e = some e1 ∧ ((∃ h2, c e1 h = .ok false h2 ∧ I (j + 1) acc h2) ∨
      ∃ h2 x h3 acc2, c e1 h = .ok true h2 ∧ y e1 h2 = .ok x h3 ∧ h3[k]? = some (.lst acc2) ∧ acc2.length < 16777216 ∧ I (j + 1) (acc2 ++ [x]) (h3.set k (.lst (acc2 ++ [x]))))) :
    ∀ n j acc h, j + n = N → I j acc h → ∃ acc' h', loopC g t c y e k n j h = .ok (.ref k) h' ∧ I N acc' h' := by
  intro n
  induction n with
  | zero =>
    intro j acc h hj hi
    have e0 := hg j acc h (by omega) hi
    rw [if_neg (by omega)] at e0
    unfold loopC
    rw [e0]
    have : j = N := by omega
    subst this
    exact ⟨acc, h, rfl, hi⟩
  | succ n ih =>
    intro j acc h hj hi
    have e0 := hg j acc h (by omega) hi
    rw [if_pos (by omega)] at e0
    obtain ⟨e1, et, hb⟩ := step j acc h (by omega) hi
    unfold loopC
    rw [e0]
    simp only [et]
    rcases hb with ⟨h2, ec, hi2⟩ | ⟨h2, x, h3, acc2, ec, ey, ek, hl, hi2⟩
    · simp only [ec]
      exact ih (j + 1) acc h2 (by omega) hi2
    · simp only [ec, ey, ek, if_pos hl]
      exact ih (j + 1) _ _ (by omega) hi2
def itN (N : Nat) : IT := fun _ j => some (if j < N then some (.int j) else none)
theorem ev_rng1 {a : M (List D)} {e : EN} {h : LH} : iRng1M a e h = (a e h).bind fun d h1 => match d with
  | [.int n] => if -(2 ^ 62) ≤ n ∧ n < 2 ^ 62 then .ok (itN n.toNat, n.toNat) h1 else .bad
  | _ => .bad := rfl
/-! ### the characters of a law -/
def LC (c : Nat) : Prop := 32 ≤ c ∧ c ≤ 126 ∧ c ≠ 37
def lcN (k : Nat) : Nat := if k < 5 then k + 32 else k + 33
theorem lc_all : (Str.ofString " !\"#$&'()*+,-./0123456789:;<=>?@ABCDEFGHIJKLMNOPQRSTUVWXYZ[\\]^_`").cps.toList ++ (Str.ofString "abcdefghijklmnopqrstuvwxyz{|}~").cps.toList = (List.range 94).map lcN := by decide +kernel
theorem char_eq {k : Int} {h : LH} (h0 : 0 ≤ k) (h1 : k < 94) : L.f__law_char [.int k] h = .ok (.str [lcN k.toNat]) h := by
  unfold L.f__law_char
  rw [mkF_eq (by rfl)]
  unfold L.b__law_char
  have ea : ∀ g, dAdd (S " !\"#$&'()*+,-./0123456789:;<=>?@ABCDEFGHIJKLMNOPQRSTUVWXYZ[\\]^_`") (S "abcdefghijklmnopqrstuvwxyz{|}~") g = .ok (.str ((List.range 94).map lcN)) g := fun g => by
    have := dAdd_str (a := (Str.ofString " !\"#$&'()*+,-./0123456789:;<=>?@ABCDEFGHIJKLMNOPQRSTUVWXYZ[\\]^_`").cps.toList) (b := (Str.ofString "abcdefghijklmnopqrstuvwxyz{|}~").cps.toList) (h := g) (by decide +kernel)
    rw [lc_all] at this
    exact this
  have ei : atI ((List.range 94).map lcN) k = some (lcN k.toNat) := atI_of h0 (by
    rw [List.getElem?_map, List.getElem?_range (by omega)]; rfl)
  simp [ev_seq, ea, dIx_str (show ((List.range 94).map lcN).length ≤ 16777216 by simp) ei]
theorem lc_mem {k : Nat} (h : k < 94) : LC (lcN k) := by
  unfold lcN LC
  split <;> omega
theorem joinL_nil (l : List (List Nat)) : TL.joinL [] l = l.flatten := by
  induction l with
  | nil => rfl
  | cons a l ih =>
    cases l with
    | nil => simp [TL.joinL]
    | cons b l => simp [TL.joinL] at ih ⊢; exact ih
theorem strsD_map (l : List (List Nat)) : strsD (l.map D.str) = some l := by
  induction l with
  | nil => rfl
  | cons a l ih =>
    show (strsD (l.map D.str)).map _ = _
    rw [ih]
    rfl
theorem dJoin_ref {h : LH} {a : List Nat} {r : Nat} {ss : List (List Nat)} (hr : h[r]? = some (.lst (ss.map D.str))) (hl : (ss.map (·.length)).sum + ss.length * a.length ≤ 16777216) : dJoin (.str a) [.ref r] h = .ok (.str (TL.joinL a ss)) h := by
  have e : seqD (.ref r) h = some (ss.map D.str) := by
    show (match h[r]? with
      | some (.lst xs) => some xs
      | _ => none) = _
    rw [hr]
  unfold dJoin
  simp only [e, strsD_map, if_pos hl]
theorem S_nil : S "" = .str [] := by
  rw [S_eq]
  rfl
theorem sum_one (l : List Nat) : ((l.map fun c => [c]).map (fun x : List Nat => x.length)).sum = l.length := by
  induction l with
  | nil => rfl
  | cons a l ih =>
    simp only [List.map_cons, List.sum_cons, List.length_cons, List.length_nil]
    rw [ih]
    omega
theorem flat_one (l : List Nat) : (l.map fun c => [c]).flatten = l := by
  induction l with
  | nil => rfl
  | cons a l ih => simp at ih ⊢; exact ih
/-- "".join of one-sign texts -/
theorem join_chars {h : LH} {r : Nat} {s : List Nat} (hr : h[r]? = some (.lst (s.map fun c => D.str [c]))) (hl : s.length ≤ 16777216) : dJoin (S "") [.ref r] h = .ok (.str s) h := by
  have e0 := S_nil
  rw [e0]
  have := dJoin_ref (h := h) (a := []) (r := r) (ss := s.map fun c => [c]) (by rw [hr, List.map_map]; rfl) (by rw [sum_one]; simpa using hl)
  rw [this, joinL_nil, flat_one]
theorem string_ok {h : LH} {r : Nat} {most : Int} (s : StrAt h r) (hm : 0 ≤ most) (hl : most ≤ 1000000) :
    ∃ z h', L.f__law_string [.ref r, .int most] h = .ok (.str z) h' ∧ (z.length : Int) ≤ most ∧ (∀ c ∈ z, LC c) ∧ SF r h h' := by
  obtain ⟨v, h1, e1, v0, v1, F1, l1⟩ := take_ok (m := most + 1) s (by omega) (by omega)
  have hloop := loopC_gen (g := itN v.toNat) (t := .nm 3) (c := mYes) (y := mApp L.f__law_char (mCons (mApp L.f__law_take (mCons (mVar 0) (mCons (mC (.int 94)) mNil))) mNil)) (e := [some (.ref r), some (.int most), some (.int v), none]) (k := h1.length) (N := v.toNat) (fun j => .int j)
    (fun j acc g => SF r h1 g ∧ g[h1.length]? = some (.lst acc) ∧ acc.length = j ∧ ∃ z : List Nat, acc = z.map (fun c => D.str [c]) ∧ ∀ c ∈ z, LC c)
    (fun j acc g hj hi => rfl) (fun j acc g hj hi => hi.2.1) (by
      rintro j acc g hj ⟨F, ek, el, z, rfl, hz⟩
      refine ⟨_, rfl, .inr ?_⟩
      obtain ⟨u, g2, eu, u0, u1, F2, l2⟩ := take_ok (m := 94) F.st (by decide) (by decide)
      have hne : h1.length ≠ r := by
        obtain ⟨a, b, e⟩ := F1.st
        have := lt_of_get e
        omega
      have ek2 := F2.get hne ek
      refine ⟨g, .str [lcN u.toNat], g2, z.map (fun c => D.str [c]), rfl, ?_, ek2, by omega, ?_, ?_, by simp at el ⊢; exact el, z ++ [lcN u.toNat], by simp, ?_⟩
      · simp [eu, char_eq u0 u1]
      · have F3 := F.trans F2
        obtain ⟨a, b, e⟩ := F3.st
        refine ⟨by simpa using F3.le, fun i hi hr => ?_, a, b, ?_⟩
        · rw [List.getElem?_set_ne (by omega)]; exact F3.keep i hi hr
        · rw [List.getElem?_set_ne hne]; exact e
      · rw [List.getElem?_set_self (lt_of_get ek2)]
      · intro c hc
        rcases List.mem_append.mp hc with hc | hc
        · exact hz c hc
        · rw [List.mem_singleton.mp hc]; exact lc_mem (by omega)) v.toNat 0 [] (h1 ++ [.lst []]) (by omega) ⟨SF.push F1.st, by simp, rfl, [], rfl, by simp⟩
  obtain ⟨acc, h2, e2, F2, ek, el, z, rfl, hz⟩ := hloop
  have hzl : z.length = v.toNat := by simpa using el
  refine ⟨z, h2, ?_, by omega, hz, F1.trans F2⟩
  unfold L.f__law_string
  rw [mkF_eq (by rfl)]
  unfold L.b__law_string
  have e0 := S_nil
  have ej := join_chars (s := z) ek (by omega)
  rw [e0] at ej
  simp [ev_seq, dAdd_int, e1, ev_rng1, show -4611686018427387904 ≤ v ∧ v < 4611686018427387904 from ⟨by omega, by omega⟩, wipeM, e2, e0, isStr, ej]
end HM
set_option Elab.async false
set_option linter.all false
set_option maxRecDepth 100000
set_option maxHeartbeats 4000000
namespace HM
open PySem L2
/-! ### is_printable, is_integer, says -/
def okC (c : Nat) : Bool := decide (32 ≤ c) && decide (c ≤ 126) && decide (c ≠ 37)
def allC (s : List Nat) : Bool := s.all okC
theorem allC_snoc {s : List Nat} {c : Nat} (h : allC s = true) (hc : okC c = true) : allC (s ++ [c]) = true := by
  unfold allC at *
  rw [List.all_append, h]
  simp [hc]
theorem allC_not {s : List Nat} {c : Nat} (h : c ∈ s) (hc : ¬ okC c = true) : ¬ allC s = true := fun z => hc (List.all_eq_true.mp z c h)
def isPr : D → Bool
  | .str s => allC s
  | _ => false
theorem okC_iff {c : Nat} : okC c = true ↔ LC c := by
  unfold okC LC
  simp [and_assoc]
theorem itL_get {xs : List D} {h : LH} {j : Nat} {d : D} (hd : xs[j]? = some d) : itL xs h j = some (some d) := by
  show some xs[j]? = _
  rw [hd]
/-- a loop over written items -/
theorem loopF_list {t : TN} {body : MS} {xs : List D} (I : Nat → EN → LH → Prop) (R : RSt → Prop)
    (step : ∀ j d e h, xs[j]? = some d → I j e h → ∃ e1, tnSet t d e = some e1 ∧ match body e1 h with
      | .next e2 h2 => I (j + 1) e2 h2
      | .cnt e2 h2 => I (j + 1) e2 h2
      | .brk e2 h2 => R (.next e2 h2)
      | .ret x h2 => R (.ret x h2)
      | .exc x e2 h2 => R (.exc x e2 h2)
      | .bad => False)
    (fin : ∀ e h, I xs.length e h → R (.next e h)) {e : EN} {h : LH} (h0 : I 0 e h) : R (loopF (itL xs) t body xs.length 0 e h) := by
  refine loopF_gen (N := xs.length) (fun j => xs.getD j .non) I R (fun j e h hj hi => ?_) (fun j e h hj hi => ?_) fin xs.length 0 e h (by omega) h0
  · unfold itL
    by_cases c : j < xs.length
    · rw [if_pos c, List.getD_eq_getElem?_getD, List.getElem?_eq_getElem c]; rfl
    · rw [if_neg c, List.getElem?_eq_none (by omega)]
  · have e1 : xs[j]? = some (xs.getD j .non) := by rw [List.getD_eq_getElem?_getD, List.getElem?_eq_getElem hj]; rfl
    exact step j _ e h e1 hi
theorem printable_eq {d : D} {h : LH} {t : BT} (ht : tyD d h = some t) : L.f_is_printable [d] h = .ok (.bl (isPr d)) h := by
  unfold L.f_is_printable
  rw [mkF_eq (by rfl)]
  unfold L.b_is_printable
  cases d with
  | str s =>
    have key := loopF_list (t := .nm 1) (body := (sSeq (sSet 2 (mApp dOrd (mCons (mVar 1) mNil)))
        (sIf (mTOr (mTst (mOp dLt (mVar 2) (mC (.int 32)))) (mTOr (mTst (mOp dGt (mVar 2) (mC (.int 126)))) (mTst (mOp dEq (mVar 2) (mC (.int 37)))))) (sRet (mC (.bl false))) sNil))) (xs := s.map fun c => D.str [c])
      (fun j e g => g = h ∧ (∃ a b c, e = [a, b, c]) ∧ allC (s.take j) = true) (fun r => if allC s = true then ∃ e', r = .next e' h else r = .ret (.bl false) h)
      (fun j d e g hd => by
        rintro ⟨rfl, ⟨a, b, c, rfl⟩, hall⟩
        rw [List.getElem?_map] at hd
        cases es : s[j]? with
        | none => rw [es] at hd; cases hd
        | some ch =>
          rw [es] at hd
          cases hd
          refine ⟨_, rfl, ?_⟩
          have hj := lt_of_get es
          have et : s.take (j + 1) = s.take j ++ [ch] := by
            rw [List.take_succ, es]; rfl
          have hmem : ch ∈ s := List.mem_of_getElem? es
          simp [ev_seq, dOrd_chr, dLt_int, dGt_int, dEq_int]
          by_cases c1 : okC ch = true
          · have := okC_iff.mp c1
            unfold LC at this
            simp [show ¬ (ch : Int) < 32 by omega, show ¬ (126 : Int) < ch by omega, show ¬ (ch : Int) = 37 by omega]
            rw [et]
            exact allC_snoc hall c1
          · have hn := allC_not hmem c1
            have hl : ¬ LC ch := fun z => c1 (okC_iff.mpr z)
            unfold LC at hl
            have hn' : allC s = false := by simpa using hn
            by_cases q1 : (ch : Int) < 32
            · simp [q1, hn']
            · by_cases q2 : (126 : Int) < ch
              · simp [q1, q2, hn']
              · have q3 : (ch : Int) = 37 := by omega
                simp [q1, q2, q3, hn'])
      (fun e g ⟨hg, _, hall⟩ => by
        subst hg
        rw [List.length_map, List.take_length] at hall
        rw [if_pos hall]
        exact ⟨e, rfl⟩) (e := [some (.str s), none, none]) (h := h) ⟨rfl, ⟨_, _, _, rfl⟩, rfl⟩
    rw [List.length_map] at key
    simp [ev_seq, tyD, isB, truD]
    by_cases c : allC s = true
    · rw [if_pos c] at key
      obtain ⟨e', ee⟩ := key
      simp [ee, isPr, c]
    · rw [if_neg c] at key
      simp [key, isPr, c]
  | _ =>
    simp only [List.map_cons, List.map_nil, List.length_cons, List.length_nil, ev_seq, ev_if, ev_tNot, ev_tru, ev_isI, ev_var]
    simp [ht]
    have hne : t ≠ .str := by
      rintro rfl
      first
        | (simp [tyD] at ht; done)
        | (simp only [tyD] at ht; split at ht <;> simp at ht)
    cases t <;> simp [isB, truD, isPr] at hne ⊢
theorem integer_eq {i lo hi : Int} {h : LH} : L.f_is_integer [.int i, .int lo, .int hi] h = .ok (.bl (decide (lo ≤ i ∧ i ≤ hi))) h := by
  unfold L.f_is_integer
  rw [mkF_eq (by rfl)]
  unfold L.b_is_integer
  simp [ev_seq, tyD, isB, truD, dLe_int]
  by_cases c : lo ≤ i <;> simp [c]
theorem integer_no {d : D} {lo hi : D} {h : LH} {t : BT} (ht : tyD d h = some t) (hn : t ≠ .int) : L.f_is_integer [d, lo, hi] h = .ok (.bl false) h := by
  unfold L.f_is_integer
  rw [mkF_eq (by rfl)]
  unfold L.b_is_integer
  simp [ev_seq, ht]
  cases t <;> simp [isB, truD, ht] at hn ⊢
theorem says_eq {a b : Bool} {h : LH} : L.f__law_says [.bl a, .bl b] h = .ok (.bl (decide (a = b))) h := by
  unfold L.f__law_says
  rw [mkF_eq (by rfl)]
  unfold L.b__law_says
  simp [tyD, isB, dEq_bl]
end HM
set_option Elab.async false
set_option linter.all false
set_option maxRecDepth 100000
set_option maxHeartbeats 4000000
namespace HM
open PySem L2
theorem itO_get {h : LH} {r j : Nat} {xs : List D} (hr : h[r]? = some (.lst xs)) : itO r h j = some xs[j]? := by
  unfold itO
  rw [hr]
theorem loopF_obj {t : TN} {body : MS} {r : Nat} {xs : List D} (I : Nat → EN → LH → Prop) (R : RSt → Prop)
    (hr : ∀ j e h, I j e h → h[r]? = some (.lst xs))
    (step : ∀ j d e h, xs[j]? = some d → I j e h → ∃ e1, tnSet t d e = some e1 ∧ match body e1 h with
      | .next e2 h2 => I (j + 1) e2 h2
      | .cnt e2 h2 => I (j + 1) e2 h2
      | .brk e2 h2 => R (.next e2 h2)
      | .ret x h2 => R (.ret x h2)
      | .exc x e2 h2 => R (.exc x e2 h2)
      | .bad => False)
    (fin : ∀ e h, I xs.length e h → R (.next e h)) {e : EN} {h : LH} (h0 : I 0 e h) : R (loopF (itO r) t body xs.length 0 e h) := by
  refine loopF_gen (N := xs.length) (fun j => xs.getD j .non) I R (fun j e h hj hi => ?_) (fun j e h hj hi => ?_) fin xs.length 0 e h (by omega) h0
  · rw [itO_get (hr j e h hi)]
    by_cases c : j < xs.length
    · rw [if_pos c, List.getD_eq_getElem?_getD, List.getElem?_eq_getElem c]; rfl
    · rw [if_neg c, List.getElem?_eq_none (by omega)]
  · have e1 : xs[j]? = some (xs.getD j .non) := by rw [List.getD_eq_getElem?_getD, List.getElem?_eq_getElem hj]; rfl
    exact step j _ e h e1 hi
/-- a loop over a list whose every turn goes on and leaves the heap -/
theorem loopF_all {t : TN} {body : MS} {r : Nat} {xs : List D} {h : LH} (Inv : EN → Prop) (hr : h[r]? = some (.lst xs))
    (step : ∀ d e, d ∈ xs → Inv e → ∃ e1 e2, tnSet t d e = some e1 ∧ body e1 h = .next e2 h ∧ Inv e2) {e : EN} (h0 : Inv e) : ∃ e', loopF (itO r) t body xs.length 0 e h = .next e' h ∧ Inv e' := by
  refine loopF_obj (fun _ e g => g = h ∧ Inv e) (fun r => ∃ e', r = .next e' h ∧ Inv e') (fun j e g ⟨q, _⟩ => by rw [q]; exact hr) (fun j d e g hd ⟨q, i⟩ => ?_) (fun e g ⟨q, i⟩ => ⟨e, by rw [q], i⟩) ⟨rfl, h0⟩
  subst q
  obtain ⟨e1, e2, a, b, c⟩ := step d e (List.mem_of_getElem? hd) i
  exact ⟨e1, a, by rw [b]; exact ⟨rfl, c⟩⟩
theorem set_self {e : EN} {i : Nat} (h : i < e.length) : e = e.set i (e.getD i none) := by
  rw [List.getD_eq_getElem?_getD, List.getElem?_eq_getElem h]
  simp
/-- a loop that stores its own name alone, whose every turn goes on and leaves the heap -/
theorem loopF_each {body : MS} {r i : Nat} {xs : List D} {h : LH} {e : EN} (hr : h[r]? = some (.lst xs)) (hi : i < e.length)
    (step : ∀ d, d ∈ xs → body (e.set i (some d)) h = .next (e.set i (some d)) h) : ∃ v, loopF (itO r) (.nm i) body xs.length 0 e h = .next (e.set i v) h := by
  obtain ⟨e', a, v, rfl⟩ := loopF_all (t := .nm i) (body := body) (fun e' => ∃ v, e' = e.set i v) hr (by
    rintro d e1 hd ⟨v, rfl⟩
    refine ⟨e.set i (some d), e.set i (some d), ?_, step d hd, _, rfl⟩
    show some ((e.set i v).set i (some d)) = _
    rw [List.set_set]) (e := e) ⟨_, set_self hi⟩
  exact ⟨v, a⟩
theorem loopL_each {body : MS} {i : Nat} {xs : List D} {h : LH} {e : EN} (hi : i < e.length)
    (step : ∀ d, d ∈ xs → body (e.set i (some d)) h = .next (e.set i (some d)) h) : ∃ v, loopF (itL xs) (.nm i) body xs.length 0 e h = .next (e.set i v) h := by
  refine loopF_list (fun _ e' g => g = h ∧ ∃ v, e' = e.set i v) (fun r => ∃ v, r = .next (e.set i v) h) (fun j d e1 g hd ⟨q, v, ev⟩ => ?_) (fun e1 g ⟨q, v, ev⟩ => ⟨v, by rw [q, ev]⟩) ⟨rfl, _, set_self hi⟩
  subst q ev
  refine ⟨e.set i (some d), ?_, ?_⟩
  · show some ((e.set i v).set i (some d)) = _
    rw [List.set_set]
  · rw [step d (List.mem_of_getElem? hd)]
    exact ⟨rfl, _, rfl⟩
theorem ix_disp {h : LH} {xs : List D} {i : Int} {x : D} (hx : atI xs i = some x) : dIx (.ref h.length) (.int i) (h ++ [.lst xs]) = .ok x (h ++ [.lst xs]) := dIx_ref (by simp) hx
theorem dSl_str {s : List Nat} {lo hi : Option Int} {h : LH} (hl : s.length ≤ 16777216) : dSl (.str s) lo hi h = .ok (.str (cutD s lo hi)) h := by
  show (if s.length ≤ 16777216 then Res.ok (D.str (cutD s lo hi)) h else .bad) = _
  rw [if_pos hl]
theorem cut_to {α : Type} {s : List α} {p : Int} (h0 : 0 ≤ p) : cutD s none (some p) = s.take p.toNat := by
  unfold cutD
  have e0 : HT.sIx s.length 0 none = 0 := rfl
  have e1 : HT.sIx s.length s.length (some p) = min p.toNat s.length := by
    show (if p < 0 then (p + (s.length : Int)).toNat else min p.toNat s.length) = _
    rw [if_neg (by omega)]
  rw [e0, e1, List.drop_zero, Nat.sub_zero]
  rcases Nat.le_total p.toNat s.length with c | c
  · rw [Nat.min_eq_left c]
  · rw [Nat.min_eq_right c, List.take_length, List.take_of_length_le c]
theorem cut_from {α : Type} {s : List α} {p : Int} (h0 : 0 ≤ p) : cutD s (some p) none = s.drop p.toNat := by
  unfold cutD
  have e0 : HT.sIx s.length s.length none = s.length := rfl
  have e1 : HT.sIx s.length 0 (some p) = min p.toNat s.length := by
    show (if p < 0 then (p + (s.length : Int)).toNat else min p.toNat s.length) = _
    rw [if_neg (by omega)]
  rw [e0, e1]
  rcases Nat.le_total p.toNat s.length with c | c
  · rw [Nat.min_eq_left c, List.take_of_length_le (by rw [List.length_drop]; exact Nat.le_refl _)]
  · rw [Nat.min_eq_right c, List.drop_of_length_le (Nat.le_refl _), List.drop_of_length_le c]; simp
theorem cut_both {α : Type} {s : List α} {p q : Int} (h0 : 0 ≤ p) (h1 : 0 ≤ q) : cutD s (some p) (some q) = (s.drop p.toNat).take (q.toNat - p.toNat) := by
  unfold cutD
  have e0 : HT.sIx s.length 0 (some p) = min p.toNat s.length := by
    show (if p < 0 then (p + (s.length : Int)).toNat else min p.toNat s.length) = _
    rw [if_neg (by omega)]
  have e1 : HT.sIx s.length s.length (some q) = min q.toNat s.length := by
    show (if q < 0 then (q + (s.length : Int)).toNat else min q.toNat s.length) = _
    rw [if_neg (by omega)]
  rw [e0, e1]
  rcases Nat.le_total p.toNat s.length with c | c
  · rw [Nat.min_eq_left c]
    rcases Nat.le_total q.toNat s.length with c2 | c2
    · rw [Nat.min_eq_left c2]
    · rw [Nat.min_eq_right c2]
      rw [List.take_of_length_le (by rw [List.length_drop]; exact Nat.le_refl _), List.take_of_length_le (by rw [List.length_drop]; omega)]
  · rw [Nat.min_eq_right c, List.drop_of_length_le (Nat.le_refl _), List.drop_of_length_le c]; simp
theorem cell_ok (ns : List Int) {k : Int} (h0 : 0 ≤ k) : ∃ c, ∀ h, L.f__law_cell [.scr ns, .int k] h = .ok (.int c) h := ⟨_, fun _ => cell_eq h0⟩
theorem start_ok (ns : List Int) : ∃ c h0, L.f__law_cell [.scr ns, .int 0] [] = .ok (.int c) [] ∧ L.f__law_stream [.int c] [] = .ok (.ref 0) h0 ∧ StrAt h0 0 ∧ h0.length = 1 := by
  refine ⟨_, _, cell_eq (by decide), stream_eq, ?_, by simp⟩
  unfold StrAt
  split
  · exact ⟨_, _, rfl⟩
  · exact ⟨_, _, rfl⟩
end HM
set_option Elab.async false
set_option linter.all false
set_option maxRecDepth 100000
set_option maxHeartbeats 4000000
namespace HM
open PySem L2
/-! ### texts walked sign by sign; drawn texts; made_of -/
/-- a loop over items that leaves at the first one that fails -/
theorem loopF_test {body : MS} {i : Nat} {xs : List D} {h : LH} {e : EN} (p : D → Bool) (hi : i < e.length)
    (step : ∀ d, d ∈ xs → body (e.set i (some d)) h = if p d then .next (e.set i (some d)) h else .ret (.bl false) h) :
    (if xs.all p then ∃ v, loopF (itL xs) (.nm i) body xs.length 0 e h = .next (e.set i v) h else loopF (itL xs) (.nm i) body xs.length 0 e h = .ret (.bl false) h) := by
  refine loopF_list (fun j e' g => g = h ∧ (∃ v, e' = e.set i v) ∧ (xs.take j).all p = true) (fun r => if xs.all p then ∃ v, r = .next (e.set i v) h else r = .ret (.bl false) h) (fun j d e1 g hd ⟨q, ⟨v, ev⟩, ha⟩ => ?_) (fun e1 g ⟨q, ⟨v, ev⟩, ha⟩ => ?_) ⟨rfl, ⟨_, set_self hi⟩, by simp⟩
  · subst q ev
    refine ⟨e.set i (some d), ?_, ?_⟩
    · show some ((e.set i v).set i (some d)) = _
      rw [List.set_set]
    · rw [step d (List.mem_of_getElem? hd)]
      by_cases c : p d = true
      · rw [if_pos c]
        refine ⟨rfl, ⟨_, rfl⟩, ?_⟩
        rw [List.take_succ, hd]
        simp [ha, c]
      · rw [if_neg c]
        have : ¬ xs.all p = true := fun z => c (List.all_eq_true.mp z d (List.mem_of_getElem? hd))
        dsimp only; rw [if_neg this]
  · subst q ev
    rw [List.take_length] at ha
    rw [if_pos ha]
    exact ⟨v, rfl⟩
theorem loopO_test {body : MS} {i r : Nat} {xs : List D} {h : LH} {e : EN} (p : D → Bool) (hr : h[r]? = some (.lst xs)) (hi : i < e.length)
    (step : ∀ d, d ∈ xs → body (e.set i (some d)) h = if p d then .next (e.set i (some d)) h else .ret (.bl false) h) :
    (if xs.all p then ∃ v, loopF (itO r) (.nm i) body xs.length 0 e h = .next (e.set i v) h else loopF (itO r) (.nm i) body xs.length 0 e h = .ret (.bl false) h) := by
  refine loopF_obj (fun j e' g => g = h ∧ (∃ v, e' = e.set i v) ∧ (xs.take j).all p = true) (fun r => if xs.all p then ∃ v, r = .next (e.set i v) h else r = .ret (.bl false) h) (fun j e g ⟨q, _⟩ => by rw [q]; exact hr) (fun j d e1 g hd ⟨q, ⟨v, ev⟩, ha⟩ => ?_) (fun e1 g ⟨q, ⟨v, ev⟩, ha⟩ => ?_) ⟨rfl, ⟨_, set_self hi⟩, by simp⟩
  · subst q ev
    refine ⟨e.set i (some d), ?_, ?_⟩
    · show some ((e.set i v).set i (some d)) = _
      rw [List.set_set]
    · rw [step d (List.mem_of_getElem? hd)]
      by_cases c : p d = true
      · rw [if_pos c]
        refine ⟨rfl, ⟨_, rfl⟩, ?_⟩
        rw [List.take_succ, hd]
        simp [ha, c]
      · rw [if_neg c]
        have : ¬ xs.all p = true := fun z => c (List.all_eq_true.mp z d (List.mem_of_getElem? hd))
        dsimp only; rw [if_neg this]
  · subst q ev
    rw [List.take_length] at ha
    rw [if_pos ha]
    exact ⟨v, rfl⟩
theorem loopS_test {body : MS} {i : Nat} {s : List Nat} {h : LH} {e : EN} (p : Nat → Bool) (hi : i < e.length)
    (step : ∀ c, c ∈ s → body (e.set i (some (.str [c]))) h = if p c then .next (e.set i (some (.str [c]))) h else .ret (.bl false) h) :
    (if s.all p then ∃ v, loopF (itL (s.map fun c => D.str [c])) (.nm i) body s.length 0 e h = .next (e.set i v) h else loopF (itL (s.map fun c => D.str [c])) (.nm i) body s.length 0 e h = .ret (.bl false) h) := by
  have key := loopF_test (body := body) (i := i) (xs := s.map fun c => D.str [c]) (h := h) (e := e) (fun d => match d with | .str [c] => p c | _ => false) hi (by
    intro d hd
    obtain ⟨c, hc, rfl⟩ := List.mem_map.mp hd
    exact step c hc)
  rw [List.length_map, List.all_map] at key
  exact key
/-- draws joined to a text -/
theorem joinR_ok {h : LH} {r i n : Nat} {e : EN} {y : M D} {P : Nat → Prop} (s : StrAt h r) (hn : n ≤ 16777216)
    (hy : ∀ g j, SF r h g → j < n → ∃ c g2, y (e.set i (some (.int (j : Nat)))) g = .ok (.str [c]) g2 ∧ P c ∧ SF r g g2) :
    ∃ z h', loopC (itN n) (.nm i) mYes y e h.length n 0 (h ++ [.lst []]) = .ok (.ref h.length) h' ∧ dJoin (S "") [.ref h.length] h' = .ok (.str z) h' ∧ z.length = n ∧ (∀ c ∈ z, P c) ∧ SF r h h' := by
  have hne : h.length ≠ r := by
    obtain ⟨a, b, e⟩ := s
    have := lt_of_get e
    omega
  have hloop := loopC_gen (g := itN n) (t := .nm i) (c := mYes) (y := y) (e := e) (k := h.length) (N := n) (fun j => .int j)
    (fun j acc g => SF r h g ∧ g[h.length]? = some (.lst acc) ∧ acc.length = j ∧ ∃ z : List Nat, acc = z.map (fun c => D.str [c]) ∧ ∀ c ∈ z, P c)
    (fun j acc g hj hi => rfl) (fun j acc g hj hi => hi.2.1) (by
      rintro j acc g hj ⟨F, ek, el, z, rfl, hz⟩
      refine ⟨_, rfl, .inr ?_⟩
      obtain ⟨c, g2, eu, hc, F2⟩ := hy g j F hj
      have ek2 := F2.get hne ek
      refine ⟨g, .str [c], g2, z.map (fun c => D.str [c]), rfl, eu, ek2, by omega, ?_, ?_, by simp at el ⊢; exact el, z ++ [c], by simp, ?_⟩
      · have F3 := F.trans F2
        obtain ⟨a, b, e⟩ := F3.st
        refine ⟨by simpa using F3.le, fun i hi hr => ?_, a, b, ?_⟩
        · rw [List.getElem?_set_ne (by omega)]; exact F3.keep i hi hr
        · rw [List.getElem?_set_ne hne]; exact e
      · rw [List.getElem?_set_self (lt_of_get ek2)]
      · intro c' hc'
        rcases List.mem_append.mp hc' with hc' | hc'
        · exact hz c' hc'
        · rw [List.mem_singleton.mp hc']; exact hc) n 0 [] (h ++ [.lst []]) (by omega) ⟨SF.push s, by simp, rfl, [], rfl, by simp⟩
  obtain ⟨acc, h2, e2, F2, ek, el, z, rfl, hz⟩ := hloop
  exact ⟨z, h2, e2, join_chars ek (by simp at el; omega), by simpa using el, hz, F2⟩
/-- a sign drawn from a text -/
theorem pick_ok {g : LH} {r : Nat} {cs : List Nat} {m : Int} (s : StrAt g r) (hm : 0 < m) (hl : m ≤ (cs.length : Int)) (hb : cs.length ≤ 16777216) :
    ∃ c v g2, L.f__law_take [.ref r, .int m] g = .ok (.int v) g2 ∧ dIx (.str cs) (.int v) g2 = .ok (.str [c]) g2 ∧ c ∈ cs ∧ SF r g g2 := by
  obtain ⟨v, g2, e, v0, v1, F, _⟩ := take_ok (m := m) s hm (by omega)
  have hv : v.toNat < cs.length := by omega
  exact ⟨cs[v.toNat], v, g2, e, dIx_str hb (atI_of v0 (List.getElem?_eq_getElem hv)), List.getElem_mem hv, F⟩
theorem dNotIn_chr {c : Nat} {z : List Nat} {h : LH} : dNotIn (.str [c]) (.str z) h = .ok (.bl (!decide (c ∈ z))) h := rfl
theorem dIn_chr {c : Nat} {z : List Nat} {h : LH} : dIn (.str [c]) (.str z) h = .ok (.bl (decide (c ∈ z))) h := rfl
def inC (cs : List Nat) (c : Nat) : Bool := decide (c ∈ cs)
theorem made_eq {s cs : List Nat} {h : LH} : L.f_made_of [.str s, .str cs] h = .ok (.bl (s.all (inC cs))) h := by
  unfold L.f_made_of
  rw [mkF_eq (by rfl)]
  unfold L.b_made_of
  have key := loopS_test (body := sIf (mTst (mOp dNotIn (mVar 2) (mVar 1))) (sRet (mC (.bl false))) sNil) (i := 2) (s := s) (h := h) (e := [some (.str s), some (.str cs), none]) (inC cs) (by simp) (by
    intro c hc
    unfold inC
    by_cases q : c ∈ cs <;> simp [dNotIn_chr, q])
  simp only [List.map_cons, List.map_nil, List.length_cons, List.length_nil, ev_seq, ev_for, ev_any, ev_var]
  split at key
  · rename_i q
    obtain ⟨v, ev⟩ := key
    simp [ev, q]
  · rename_i q
    have q' : s.all (inC cs) = false := by simpa using q
    simp [key, q']
theorem all_eq {s cs : List Nat} {h : LH} : L.f__law_all [.str s, .str cs] h = .ok (.bl (s.all (inC cs))) h := made_eq
end HM
set_option Elab.async false
set_option linter.all false
set_option maxRecDepth 100000
set_option maxHeartbeats 4000000
namespace HM
open PySem L2
theorem wseqP {R : RSt → Prop} {a b : MS} {e : EN} {h : LH} (P : EN → LH → Prop) (x : ∃ e1 h1, a e h = .next e1 h1 ∧ P e1 h1) (k : ∀ e1 h1, P e1 h1 → R (b e1 h1)) : R (sSeq a b e h) := by
  obtain ⟨e1, h1, e0, p⟩ := x
  exact wseq e0 (k e1 h1 p)
/-! ### list names and keys -/
def nmC : List Nat := (Str.ofString "abcdefghijklmnopqrstuvwxyz").cps.toList
def dgC : List Nat := (Str.ofString "0123456789").cps.toList
def isLN : D → Bool
  | .str s => decide (1 ≤ s.length) && decide (s.length ≤ 12) && s.all (inC nmC)
  | _ => false
def isKey : D → Bool
  | .str s => decide (2 ≤ s.length) && decide (s.length ≤ 12) && decide (s[0]? = some 107) && (s.drop 1).all (inC dgC)
  | _ => false
theorem S_ofN : S "abcdefghijklmnopqrstuvwxyz" = .str nmC := rfl
theorem S_ofD : S "0123456789" = .str dgC := rfl
theorem tyD_str {d : D} {h : LH} (t : tyD d h = some .str) : ∃ s, d = .str s := by
  cases d <;> simp [tyD] at t
  · exact ⟨_, rfl⟩
  · split at t <;> simp at t
theorem name_eq {d : D} {h : LH} {t : BT} (ht : tyD d h = some t) (hl : ∀ s, d = .str s → s.length ≤ 16777216) : L.f_is_list_name [d] h = .ok (.bl (isLN d)) h := by
  unfold L.f_is_list_name
  rw [mkF_eq (by rfl)]
  unfold L.b_is_list_name
  by_cases c : t = .str
  · subst c
    obtain ⟨s, rfl⟩ := tyD_str ht
    have hs := hl s rfl
    simp [tyD, isB, dLen_str hs, dLe_int, S_ofN, made_eq, isLN]
    by_cases c1 : (1 : Int) ≤ s.length
    · by_cases c2 : (s.length : Int) ≤ 12
      · simp [c1, c2, made_eq, show 1 ≤ s.length by omega, show s.length ≤ 12 by omega]
      · simp [c1, c2, show ¬ s.length ≤ 12 by omega]
    · simp [c1, show ¬ 1 ≤ s.length by omega]
  · have hn : isLN d = false := by
      cases d <;> simp [isLN, tyD] at ht ⊢
      exact absurd ht.symm c
    simp [ht, hn]
    cases t <;> simp [isB] at c ⊢
theorem chr_eq (a : Nat) : S "k" = .str [107] := S_eq "k"
theorem key_eq {d : D} {h : LH} {t : BT} (ht : tyD d h = some t) (hl : ∀ s, d = .str s → s.length ≤ 16777216) : L.f_is_key [d] h = .ok (.bl (isKey d)) h := by
  unfold L.f_is_key
  rw [mkF_eq (by rfl)]
  unfold L.b_is_key
  by_cases c : t = .str
  · subst c
    obtain ⟨s, rfl⟩ := tyD_str ht
    have hs := hl s rfl
    have hk := S_eq "k"
    simp at hk
    simp only [ev_seq]
    simp [tyD, isB, dLen_str hs, dLe_int, truD]
    by_cases c1 : (2 : Int) ≤ s.length
    · by_cases c2 : (s.length : Int) ≤ 12
      · have h0 : (0 : Nat) < s.length := by omega
        have e0 : s[0]? = some s[0] := List.getElem?_eq_getElem h0
        have ei : dIx (.str s) (.int 0) h = .ok (.str [s[0]]) h := dIx_str hs (atI_of (by decide) e0)
        simp [c1, c2, ei, hk, dEq_str, dSl_str hs, cut_from (show (0 : Int) ≤ 1 by decide), S_ofD, made_eq, isKey, show 2 ≤ s.length by omega, show s.length ≤ 12 by omega, e0]
        by_cases c3 : s[0] = 107 <;> simp [c3]
      · simp [c1, c2, isKey, show ¬ s.length ≤ 12 by omega]
    · simp [c1, isKey, show ¬ 2 ≤ s.length by omega]
  · have hn : isKey d = false := by
      cases d <;> simp [isKey, tyD] at ht ⊢
      exact absurd ht.symm c
    simp only [ev_seq]
    simp [ht, hn]
    cases t <;> simp [isB, truD] at c ⊢
end HM
set_option Elab.async false
set_option linter.all false
set_option maxRecDepth 100000
set_option maxHeartbeats 4000000
namespace HM
open PySem L2
/-! ### hexadecimal digits -/
def hxC : List Nat := (Str.ofString "0123456789abcdef").cps.toList
theorem S_ofH : S "0123456789abcdef" = .str hxC := rfl
theorem hx_digit : ∀ d, d < 16 → (Nat.digitChar d).toNat ∈ hxC ∧ hxC.idxOf (Nat.digitChar d).toNat = d := by
  have e : hxC = [48, 49, 50, 51, 52, 53, 54, 55, 56, 57, 97, 98, 99, 100, 101, 102] := by
    have := S_eq "0123456789abcdef"
    rw [S_ofH] at this
    injection this
  rw [e]
  decide
def hexL (n : Nat) : List Nat := List.replicate (18 - (Nat.toDigits 16 n).length) 48 ++ (Nat.toDigits 16 n).map Char.toNat
def hval (l : List Nat) : Nat := l.foldl (fun a c => a * 16 + hxC.idxOf c) 0
theorem hexText_eq (n : Nat) : (hexText n).cps.toList = hexL n := by
  have hd : ((Nat.toDigits 16 n).map fun c => (if (120 : Nat) == 88 then c.toUpper else c).toNat) = (Nat.toDigits 16 n).map Char.toNat := rfl
  have hn : ((Nat.toDigits 16 n).map Char.toNat).isEmpty = false := by
    cases e : Nat.toDigits 16 n with
    | nil =>
      have := PyProof.Rows.tDigits_len_ge 16 n
      rw [e] at this
      simp at this
    | cons x l => rfl
  unfold hexText PyProof.Rows.intField'
  have hneg : decide ((n : Int) < 0) = false := by simp
  have hna : ((n : Int)).natAbs = n := rfl
  simp only [hneg, hna, hd, hn, fx]
  unfold hexL
  have hpad : ((18 : Int) - ((18 - (Nat.toDigits 16 n).length + (Nat.toDigits 16 n).length : Nat) : Int)).toNat = 0 := by omega
  simp
  omega
theorem hval_dig (n : Nat) : ((Nat.toDigits 16 n).map Char.toNat).foldl (fun a c => a * 16 + hxC.idxOf c) 0 = n ∧ ∀ c ∈ (Nat.toDigits 16 n).map Char.toNat, c ∈ hxC := by
  induction n using Nat.strongRecOn with
  | _ n ih =>
    by_cases c : n < 16
    · rw [Nat.toDigits_of_lt_base c]
      refine ⟨?_, ?_⟩
      · show 0 * 16 + hxC.idxOf (Nat.digitChar n).toNat = n
        rw [(hx_digit n c).2]
        omega
      · intro x hx
        rw [List.mem_singleton.mp hx]
        exact (hx_digit n c).1
    · rw [Nat.toDigits_of_base_le (by decide) (by omega)]
      have h := ih (n / 16) (by omega)
      have hm := hx_digit (n % 16) (Nat.mod_lt _ (by decide))
      refine ⟨?_, ?_⟩
      · rw [List.map_append, List.foldl_append, h.1]
        show n / 16 * 16 + hxC.idxOf (Nat.digitChar (n % 16)).toNat = n
        rw [hm.2]
        omega
      · intro x hx
        rw [List.map_append] at hx
        rcases List.mem_append.mp hx with hx | hx
        · exact h.2 x hx
        · rw [List.mem_singleton.mp hx]
          exact hm.1
theorem hval_zero (k : Nat) (l : List Nat) : (List.replicate k 48 ++ l).foldl (fun a c => a * 16 + hxC.idxOf c) 0 = l.foldl (fun a c => a * 16 + hxC.idxOf c) 0 := by
  induction k with
  | zero => rfl
  | succ k ih =>
    rw [List.replicate_succ, List.cons_append, List.foldl_cons]
    have : 0 * 16 + hxC.idxOf 48 = 0 := (hx_digit 0 (by decide)).2
    rw [this]
    exact ih
theorem hval_hex (n : Nat) : hval (hexL n) = n := by
  unfold hval hexL
  rw [hval_zero]
  exact (hval_dig n).1
theorem hex_mem (n : Nat) : ∀ c ∈ hexL n, c ∈ hxC := by
  intro c hc
  unfold hexL at hc
  rcases List.mem_append.mp hc with hc | hc
  · rw [(List.mem_replicate.mp hc).2]
    exact (hx_digit 0 (by decide)).1
  · exact (hval_dig n).2 c hc
theorem hex_len {n : Nat} (h : n < 16 ^ 18) : (hexL n).length = 18 := by
  unfold hexL
  have := (Nat.length_toDigits_le_iff (n := n) (b := 16) (k := 18) (by decide) (by decide)).mpr h
  simp
  omega
theorem hex_inj {a b : Nat} (h : hexL a = hexL b) : a = b := by
  have := hval_hex a
  rw [h, hval_hex] at this
  exact this.symm
theorem dHex_nat {n : Nat} {h : LH} (hn : n < 16 ^ 18) : dHex (.int n) h = .ok (.str (hexL n)) h := by
  show (if (n : Int).natAbs < 2 ^ 200 then Res.ok (D.str (hexText n).cps.toList) h else .bad) = _
  have hlt : (n : Int).natAbs < 2 ^ 200 := by
    show n < 2 ^ 200
    exact Nat.lt_of_lt_of_le hn (by decide)
  rw [if_pos hlt, hexText_eq]
/-! ### a loop over a text that folds -/
theorem loopS_fold {α : Type} {body : MS} {i : Nat} {s : List Nat} {h : LH} (E : α → Option D → EN) (F : α → Nat → α) (P : α → Prop) {a : α} {v : Option D}
    (hs : ∀ x v d, tnSet (.nm i) d (E x v) = some (E x (some d)))
    (step : ∀ x c, c ∈ s → P x → body (E x (some (.str [c]))) h = .next (E (F x c) (some (.str [c]))) h ∧ P (F x c)) (hP : P a) :
    ∃ v', loopF (itL (s.map fun c => D.str [c])) (.nm i) body s.length 0 (E a v) h = .next (E (s.foldl F a) v') h ∧ P (s.foldl F a) := by
  have key := loopF_list (t := .nm i) (body := body) (xs := s.map fun c => D.str [c]) (fun j e g => g = h ∧ (∃ v, e = E ((s.take j).foldl F a) v) ∧ P ((s.take j).foldl F a)) (fun r => ∃ v', r = .next (E (s.foldl F a) v') h ∧ P (s.foldl F a))
    (fun j d e1 g hd ⟨q, ⟨v, ev⟩, hp⟩ => by
      subst q ev
      rw [List.getElem?_map] at hd
      cases es : s[j]? with
      | none => rw [es] at hd; cases hd
      | some ch =>
        rw [es] at hd
        cases hd
        refine ⟨_, hs _ _ _, ?_⟩
        have st := step _ ch (List.mem_of_getElem? es) hp
        rw [st.1]
        have et : s.take (j + 1) = s.take j ++ [ch] := by
          rw [List.take_succ, es]; rfl
        rw [et, List.foldl_append]
        exact ⟨rfl, ⟨_, rfl⟩, st.2⟩)
    (fun e1 g ⟨q, ⟨v, ev⟩, hp⟩ => by
      subst q ev
      rw [List.length_map, List.take_length] at hp ⊢
      exact ⟨v, rfl, hp⟩) (e := E a v) (h := h) ⟨rfl, ⟨v, rfl⟩, hP⟩
  rw [List.length_map] at key
  exact key
/-! ### digest -/
def dgF (n : Nat) (c : Nat) : Nat := (n * 65599 + c) % 2361183241434822606617
def dig (s : List Nat) : Nat := s.foldl dgF (s.length + 1)
theorem dig_lt {s : List Nat} (hl : s.length ≤ 16777216) : dig s < 2361183241434822606617 := by
  unfold dig
  have : ∀ (s : List Nat) a, a < 2361183241434822606617 → s.foldl dgF a < 2361183241434822606617 := by
    intro s
    induction s with
    | nil => exact fun a h => h
    | cons c s ih => exact fun a h => ih _ (Nat.mod_lt _ (by decide))
  exact this _ _ (by omega)
theorem digest_eq {s : List Nat} {h : LH} (hl : s.length ≤ 16777216) : L.f_digest [.str s] h = .ok (.str (hexL (dig s))) h := by
  unfold L.f_digest
  rw [mkF_eq (by rfl)]
  unfold L.b_digest
  obtain ⟨v, ev, hp⟩ := loopS_fold (i := 2) (s := s) (h := h) (body := sSet 1 (mOp dMod (mOp dAdd (mOp dMul (mVar 1) (mC (.int 65599))) (mApp dOrd (mCons (mVar 2) mNil))) (mC (.int 2361183241434822606617))))
    (fun (n : Nat) v => [some (.str s), some (.int n), v]) dgF (fun _ => True) (a := s.length + 1) (v := none) (fun _ _ _ => rfl) (by
      intro n c _ _
      refine ⟨?_, trivial⟩
      have m1 : dMul (.int n) (.int 65599) h = .ok (.int (n * 65599)) h := dMul_int (mulOk_r (by decide))
      have e : ((dgF n c : Nat) : Int) = ((n : Int) * 65599 + c) % 2361183241434822606617 := by
        unfold dgF
        omega
      simp [m1, dOrd_chr, dAdd_int, dMod_int (show (0 : Int) < 2361183241434822606617 by decide), e]) trivial
  have hd := dig_lt hl
  have ev' : loopF (itL (s.map fun c => D.str [c])) (.nm 2) (sSet 1 (mOp dMod (mOp dAdd (mOp dMul (mVar 1) (mC (.int 65599))) (mApp dOrd (mCons (mVar 2) mNil))) (mC (.int 2361183241434822606617)))) s.length 0 [some (.str s), some (.int ((s.length : Int) + 1)), none] h = .next [some (.str s), some (.int (dig s)), v] h := ev
  simp only [ev_seq]
  simp [dLen_str hl, dAdd_int, ev', dHex_nat (n := dig s) (h := h) (by omega)]
end HM
set_option Elab.async false
set_option linter.all false
set_option maxRecDepth 100000
set_option maxHeartbeats 4000000
namespace HM
open PySem L2
/-! ### comprehensions that leave the heap -/
def itN2 (a b : Int) : IT := fun _ j => some (if j < (b - a).toNat then some (.int (a + j)) else none)
theorem compP {it : IT} {i n : Nat} {y : M D} {e : EN} {h : LH} (f : Nat → D) (q : Nat → D) (hn : n ≤ 16777216) (hg : ∀ j g, j ≤ n → it g j = some (if j < n then some (q j) else none))
    (hy : ∀ j acc, j < n → y (e.set i (some (q j))) (h ++ [.lst acc]) = .ok (f j) (h ++ [.lst acc])) :
    loopC it (.nm i) mYes y e h.length n 0 (h ++ [.lst []]) = .ok (.ref h.length) (h ++ [.lst ((List.range n).map f)]) := by
  obtain ⟨acc, h', e1, rfl, rfl⟩ := loopC_gen (g := it) (t := .nm i) (c := mYes) (y := y) (e := e) (k := h.length) (N := n) q
    (fun j acc g => acc = (List.range j).map f ∧ g = h ++ [.lst acc])
    (fun j acc g hj hi => hg j g hj) (fun j acc g hj hi => by rw [hi.2]; simp) (by
      rintro j acc g hj ⟨rfl, rfl⟩
      refine ⟨_, rfl, .inr ⟨_, f j, _, (List.range j).map f, rfl, hy j _ hj, by simp, by simp; omega, ?_, ?_⟩⟩
      · rw [List.range_succ, List.map_append]; rfl
      · simp) n 0 [] (h ++ [.lst []]) (by omega) ⟨rfl, rfl⟩
  exact e1
theorem ev_rng2 {a : M (List D)} {e : EN} {h : LH} : iRng2M a e h = (a e h).bind fun d h1 => match d with
  | [.int m, .int n] => if -(2 ^ 62) ≤ m ∧ m < 2 ^ 62 ∧ -(2 ^ 62) ≤ n ∧ n < 2 ^ 62 then .ok (itN2 m n, (n - m).toNat) h1 else .bad
  | _ => .bad := rfl
/-! ### short texts -/
def rowC : List Nat := (List.range 93).map fun k => lcN (k + 1)
theorem row_eq {h : LH} : L.f__law_row [] h = .ok (.str rowC) (h ++ [.lst (rowC.map fun c => D.str [c])]) := by
  unfold L.f__law_row
  rw [mkF_eq (by rfl)]
  unfold L.b__law_row
  have key := compP (it := itN2 1 94) (i := 0) (n := 93) (y := mApp L.f__law_char (mCons (mVar 0) mNil)) (e := [none]) (h := h) (fun j => .str [lcN (j + 1)]) (fun j => .int (1 + j)) (by decide) (fun j g hj => rfl) (by
    intro j acc hj
    have hc := char_eq (k := 1 + (j : Int)) (h := h ++ [.lst acc]) (by omega) (by omega)
    have e1 : (1 + (j : Int)).toNat = j + 1 := by omega
    rw [e1] at hc
    simp [hc])
  have er : (List.range 93).map (fun j => D.str [lcN (j + 1)]) = rowC.map fun c => D.str [c] := by
    unfold rowC
    rw [List.map_map]
    rfl
  rw [er] at key
  have ej := join_chars (h := h ++ [.lst (rowC.map fun c => D.str [c])]) (r := h.length) (s := rowC) (by simp) (by simp [rowC])
  rw [S_nil] at ej
  simp [ev_rng2, wipeM, key, S_nil, isStr, ej]
def shC : List Nat := [32, 10, 9] ++ rowC
theorem sh_len : shC.length = 96 := by simp [shC, rowC]
theorem sh_le {c : Nat} (h : c ∈ shC) : c ≤ 126 := by
  unfold shC rowC at h
  rcases List.mem_append.mp h with h | h
  · simp at h; omega
  · obtain ⟨k, hk, rfl⟩ := List.mem_map.mp h
    have := lc_mem (k := k + 1) (by have := List.mem_range.mp hk; omega)
    unfold LC at this
    omega
theorem short_ok {h : LH} {r : Nat} (s : StrAt h r) : ∃ z h', L.f__law_short [.ref r] h = .ok (.str z) h' ∧ z.length ≤ 4 ∧ (∀ c ∈ z, c ≤ 126) ∧ SF r h h' := by
  obtain ⟨v, h1, e1, v0, v1, F1, _⟩ := take_ok (m := 5) s (by decide) (by decide)
  have ent : S "\n\t" = .str [10, 9] := S_eq "\n\t"
  have e32 : ∀ g, L.f__law_char [.int 0] g = .ok (.str [32]) g := fun g => char_eq (k := 0) (by decide) (by decide)
  have rl : rowC.length = 93 := by simp [rowC]
  obtain ⟨z, h2, e2, e2', zl, zc, F2⟩ := joinR_ok (n := v.toNat) (i := 1) (P := fun c => c ≤ 126) (e := [some (.ref r), none])
    (y := mOp dIx (mOp dAdd (mOp dAdd (mApp L.f__law_char (mCons (mC (.int 0)) mNil)) (mC (S "\n\t"))) (mApp0 L.f__law_row)) (mApp L.f__law_take (mCons (mVar 0) (mCons (mC (.int 96)) mNil)))) F1.st (by omega) (fun g j F hj => by
      have F' := F.trans (SF.push (o := .lst (rowC.map fun c => D.str [c])) F.st)
      obtain ⟨ch, w, g2, ew, ei, hm, G⟩ := pick_ok (cs := shC) (m := 96) F'.st (by decide) (by rw [sh_len]; decide) (by rw [sh_len]; decide)
      refine ⟨ch, g2, ?_, sh_le hm, (SF.push F.st).trans G⟩
      have ea : dAdd (.str [32]) (.str [10, 9]) g = .ok (.str [32, 10, 9]) g := dAdd_str (by decide)
      have eb : ∀ g', dAdd (.str [32, 10, 9]) (.str rowC) g' = .ok (.str shC) g' := fun g' => dAdd_str (by rw [rl]; decide)
      simp [e32, ent, ea, row_eq, eb, ew, ei])
  refine ⟨z, h2, ?_, by omega, zc, F1.trans F2⟩
  unfold L.f__law_short
  rw [mkF_eq (by rfl)]
  unfold L.b__law_short
  rw [S_nil] at e2'
  simp [e1, ev_rng1, show -4611686018427387904 ≤ v ∧ v < 4611686018427387904 from ⟨by omega, by omega⟩, wipeM, S_nil, isStr, e2, e2']
end HM
set_option Elab.async false
set_option linter.all false
set_option maxRecDepth 100000
set_option maxHeartbeats 4000000
namespace HM
open PySem L2
/-! ### cut at one sign -/
def cut1 (k : Nat) : List Nat → List Nat → List (List Nat)
  | acc, [] => [acc]
  | acc, c :: r => if c = k then acc :: cut1 k [] r else cut1 k (acc ++ [c]) r
theorem spl_one (k : Nat) : ∀ (s acc : List Nat), TL.spl [k] 0 acc s = cut1 k acc s := by
  intro s
  induction s with
  | nil => intro acc; rfl
  | cons c r ih =>
    intro acc
    have hp : TL.pre [k] (c :: r) = decide (c = k) := by
      show ((c :: r).take 1 == [k]) = _
      rw [List.take_succ_cons, List.take_zero]
      by_cases h : c = k
      · subst h; simp
      · rw [decide_eq_false h]
        exact beq_eq_false_iff_ne.mpr fun z => h (by injection z)
    unfold cut1
    by_cases h : c = k
    · rw [TL.spl_hit (by rw [hp, decide_eq_true h]), if_pos h]
      show acc :: TL.spl [k] 0 [] r = _
      rw [ih]
    · rw [TL.spl_miss (by rw [hp, decide_eq_false h]), if_neg h, ih]
theorem cut1_head (k : Nat) : ∀ (s acc : List Nat), ∃ x l, cut1 k acc s = (acc ++ x) :: l := by
  intro s
  induction s with
  | nil => intro acc; exact ⟨[], [], by simp [cut1]⟩
  | cons c r ih =>
    intro acc
    unfold cut1
    by_cases h : c = k
    · rw [if_pos h]; exact ⟨[], cut1 k [] r, by simp⟩
    · rw [if_neg h]
      obtain ⟨x, l, e⟩ := ih (acc ++ [c])
      exact ⟨c :: x, l, by rw [e]; simp⟩
/-! ### paths and patterns -/
def pcC : List Nat := (Str.ofString "abcdefghijklmnopqrstuvwxyz0123456789.-_").cps.toList
def ptC : List Nat := (Str.ofString "abcdefghijklmnopqrstuvwxyz0123456789.-_*").cps.toList
theorem S_ofP : S "abcdefghijklmnopqrstuvwxyz0123456789.-_" = .str pcC := rfl
theorem S_ofT : S "abcdefghijklmnopqrstuvwxyz0123456789.-_*" = .str ptC := rfl
theorem pc_len : pcC.length = 39 := by decide +kernel
theorem pt_eq : pcC ++ [42] = ptC := by decide +kernel
theorem pc_sl : 47 ∉ pcC := by decide +kernel
theorem pt_sl : 47 ∉ ptC := by decide +kernel
def okP (cs p : List Nat) : Bool := decide (p ≠ []) && p.all (inC cs)
def hasP (s cs : List Nat) : Bool := decide (s.length ≤ 60) && (decide ((cut1 47 [] s).length ≤ 6) && (cut1 47 [] s).all (okP cs))
def hasD (d : D) (cs : List Nat) : Bool := match d with
  | .str s => hasP s cs
  | _ => false
/-- heap grown -/
def Gr (h h' : LH) : Prop := ∃ x, h' = h ++ x
theorem parts_eq {d : D} {cs : List Nat} {h : LH} {t : BT} (ht : tyD d h = some t) (hl : ∀ s, d = .str s → s.length ≤ 1000000) :
    ∃ h', L.f_has_parts [d, .str cs] h = .ok (.bl (hasD d cs)) h' ∧ Gr h h' ∧ ((∀ s, d ≠ .str s) → h' = h) := by
  unfold L.f_has_parts
  rw [mkF_eq (by rfl)]
  unfold L.b_has_parts
  have esl := S_eq "/"
  simp at esl
  by_cases c : t = .str
  · subst c
    obtain ⟨s, rfl⟩ := tyD_str ht
    have hs := hl s rfl
    have hs' : s.length ≤ 16777216 := by omega
    by_cases c1 : s.length ≤ 60
    · have c1' : ¬ (60 : Int) < s.length := by omega
      obtain ⟨P, hP⟩ : ∃ P, cut1 47 [] s = P := ⟨_, rfl⟩
      have es : dSplit (.str s) [.str [47]] h = .ok (.ref h.length) (h ++ [.lst (P.map D.str)]) := by
        show (if [47] ≠ [] ∧ [47].all (· < 256) = true ∧ s.length + 2 ≤ 16777216 then Res.ok (D.ref h.length) (h ++ [.lst ((TL.spl [47] 0 [] s).map D.str)]) else .bad) = _
        rw [if_pos ⟨by decide, by decide, by omega⟩, spl_one, hP]
      refine ⟨h ++ [.lst (P.map D.str)], ?_, ⟨_, rfl⟩, fun z => absurd rfl (z s)⟩
      have el : dLen [.ref h.length] (h ++ [.lst (P.map D.str)]) = .ok (.int P.length) (h ++ [.lst (P.map D.str)]) := by
        rw [dLen_ref (xs := P.map D.str) (by simp), List.length_map]
      have key := loopO_test (body := sIf (mTOr (mTst (mOp dEq (mVar 3) (mC (S "")))) (mTNot (mTru (mApp L.f_made_of (mCons (mVar 3) (mCons (mVar 1) mNil)))))) (sRet (mC (.bl false))) sNil) (i := 3) (r := h.length) (xs := P.map D.str) (h := h ++ [.lst (P.map D.str)])
        (e := [some (.str s), some (.str cs), some (.ref h.length), none]) (fun d => match d with | .str p => okP cs p | _ => false) (by simp) (by simp) (by
          intro d hd
          obtain ⟨p, hp, rfl⟩ := List.mem_map.mp hd
          by_cases q1 : p = []
          · subst q1
            simp [S_nil, dEq_str, okP]
          · by_cases q2 : p.all (inC cs) = true
            · simp [S_nil, dEq_str, okP, q1, made_eq, q2, truD]
            · have q2' : p.all (inC cs) = false := by simpa using q2
              simp [S_nil, dEq_str, okP, q1, made_eq, q2', truD])
      rw [List.length_map, List.all_map] at key
      simp only [ev_seq]
      simp [tyD, isB, truD, dLen_str hs', dGt_int, c1', esl, isStr, es, el, hasD, hasP, c1, hP]
      by_cases c2 : P.length ≤ 6
      · have c2' : ¬ (6 : Int) < P.length := by omega
        simp [c2', c2, List.length_map]
        have e3 : ∀ xs : List (List Nat), (xs.all (okP cs)) = xs.all ((fun d => match d with | .str p => okP cs p | _ => false) ∘ D.str) := fun xs => rfl
        rw [e3]
        split at key
        · rename_i q
          obtain ⟨v, ev⟩ := key
          rw [ev]
          simp [q]
        · rename_i q
          have q' : P.all ((fun d => match d with | .str p => okP cs p | _ => false) ∘ D.str) = false := by simpa using q
          rw [key]
          simp [q']
      · have c2' : (6 : Int) < P.length := by omega
        simp [c2', c2]
    · have c1' : (60 : Int) < s.length := by omega
      refine ⟨h, ?_, ⟨[], by simp⟩, fun _ => rfl⟩
      simp only [ev_seq]
      simp [tyD, isB, truD, dLen_str hs', dGt_int, c1', hasD, hasP, c1]
  · have hn : hasD d cs = false := by
      cases d <;> simp [hasD, tyD] at ht ⊢
      exact absurd ht.symm c
    refine ⟨h, ?_, ⟨[], by simp⟩, fun _ => rfl⟩
    simp only [ev_seq]
    simp [ht, hn]
    cases t <;> simp [isB, truD] at c ⊢
theorem path_eq {d : D} {h : LH} {t : BT} (ht : tyD d h = some t) (hl : ∀ s, d = .str s → s.length ≤ 1000000) :
    ∃ h', L.f_is_path [d] h = .ok (.bl (hasD d pcC)) h' ∧ Gr h h' ∧ ((∀ s, d ≠ .str s) → h' = h) := by
  obtain ⟨h', e, g, k⟩ := parts_eq (cs := pcC) ht hl
  refine ⟨h', ?_, g, k⟩
  unfold L.f_is_path
  rw [mkF_eq (by rfl)]
  unfold L.b_is_path
  simp [S_ofP, e]
theorem pattern_eq {d : D} {h : LH} {t : BT} (ht : tyD d h = some t) (hl : ∀ s, d = .str s → s.length ≤ 1000000) :
    ∃ h', L.f_is_pattern [d] h = .ok (.bl (hasD d ptC)) h' ∧ Gr h h' ∧ ((∀ s, d ≠ .str s) → h' = h) := by
  obtain ⟨h', e, g, k⟩ := parts_eq (cs := ptC) ht hl
  refine ⟨h', ?_, g, k⟩
  unfold L.f_is_pattern
  rw [mkF_eq (by rfl)]
  unfold L.b_is_pattern
  simp [S_ofT, e]
/-- a drawn part -/
theorem part_ok {h : LH} {r : Nat} {cs : List Nat} {most : Int} (s : StrAt h r) (hm : 0 ≤ most) (hl : most ≤ 1000000) (hc : 0 < cs.length) (hc2 : cs.length ≤ 1000) :
    ∃ z h', L.f__law_part [.ref r, .int most, .str cs] h = .ok (.str z) h' ∧ (z.length : Int) ≤ most ∧ (∀ c ∈ z, c ∈ cs) ∧ SF r h h' := by
  obtain ⟨v, h1, e1, v0, v1, F1, l1⟩ := take_ok (m := most + 1) s (by omega) (by omega)
  have hcs : cs.length ≤ 16777216 := by omega
  obtain ⟨z, h2, e2, e2', zl, zc, F2⟩ := joinR_ok (n := v.toNat) (i := 4) (P := fun c => c ∈ cs) (e := [some (.ref r), some (.int most), some (.str cs), some (.int v), none])
    (y := mOp dIx (mVar 2) (mApp L.f__law_take (mCons (mVar 0) (mCons (mApp dLen (mCons (mVar 2) mNil)) mNil)))) F1.st (by omega) (fun g j F hj => by
      obtain ⟨ch, w, g2, ew, ei, hmem, G⟩ := pick_ok (cs := cs) (m := cs.length) F.st (by omega) (by omega) hcs
      exact ⟨ch, g2, by simp [dLen_str hcs, ew, ei], hmem, G⟩)
  refine ⟨z, h2, ?_, by omega, zc, F1.trans F2⟩
  unfold L.f__law_part
  rw [mkF_eq (by rfl)]
  unfold L.b__law_part
  rw [S_nil] at e2'
  simp only [ev_seq]
  simp [dAdd_int, e1, ev_rng1, show -4611686018427387904 ≤ v ∧ v < 4611686018427387904 from ⟨by omega, by omega⟩, wipeM, S_nil, isStr, e2, e2']
theorem joinL_len (a : List Nat) (l : List (List Nat)) : (TL.joinL a l).length ≤ (l.map (·.length)).sum + l.length * a.length := by
  induction l with
  | nil => exact Nat.zero_le _
  | cons p l ih =>
    cases l with
    | nil => simp [TL.joinL]
    | cons q r =>
      have e : TL.joinL a (p :: q :: r) = p ++ (a ++ TL.joinL a (q :: r)) := rfl
      rw [e, List.length_append, List.length_append]
      simp only [List.map_cons, List.sum_cons, List.length_cons, Nat.add_mul] at ih ⊢
      omega
theorem sum_le (l : List (List Nat)) (m : Nat) (h : ∀ s ∈ l, s.length ≤ m) : (l.map (·.length)).sum ≤ l.length * m := by
  induction l with
  | nil => simp
  | cons a l ih =>
    simp only [List.map_cons, List.sum_cons, List.length_cons, Nat.add_mul]
    have := ih fun s hs => h s (List.mem_cons_of_mem _ hs)
    have := h a (by simp)
    omega
theorem dAppend_ref {h : LH} {r : Nat} {xs : List D} {y : D} (hr : h[r]? = some (.lst xs)) (hl : xs.length < 16777216) : dAppend (.ref r) [y] h = .ok .non (h.set r (.lst (xs ++ [y]))) := by
  show (match h[r]? with
    | some (.lst ys) => if ys.length < 16777216 then Res.ok D.non (h.set r (.lst (ys ++ [y]))) else .bad
    | _ => .bad) = _
  rw [hr]
  simp only [if_pos hl]
theorem isLst_ref {h : LH} {r : Nat} {xs : List D} (hr : h[r]? = some (.lst xs)) : isLst (.ref r) h = true := by
  unfold isLst seqD
  simp only [hr]
end HM
set_option Elab.async false
set_option linter.all false
set_option maxRecDepth 100000
set_option maxHeartbeats 4000000
namespace HM
open PySem L2
/-! ### == of lists of numbers -/
theorem toPs_ints {h : LH} : ∀ (E : List Int) (n : Nat), E.length < n → toPs (n + 1) h (E.map D.int) = some (E.map PyData.int) := by
  intro E
  induction E with
  | nil => intro n _; rfl
  | cons a E ih =>
    intro n hn
    obtain ⟨m, rfl⟩ : ∃ m, n = m + 1 := ⟨n - 1, by simp at hn; omega⟩
    have e := ih m (by simpa using hn)
    show (match toP (m + 1) h (.int a), toPs (m + 1) h (E.map D.int) with
      | some p, some ps => some (p :: ps)
      | _, _ => none) = _
    rw [e]
    rfl
theorem lay_ints (E : List Int) : PyData.canLayAll0 (E.map PyData.int) = true ∧ PyData.depthAll (E.map PyData.int) = 0 := by
  induction E with
  | nil => exact ⟨by simp [PyData.canLayAll0], by simp [PyData.depthAll]⟩
  | cons a E ih => exact ⟨by simp [PyData.canLayAll0, PyData.canLay0, ih.1], by simp [PyData.depthAll, PyData.depth, ih.2]⟩
theorem shaped_ints (E : List Int) : SeqAt.shaped (.list (E.map PyData.int)) = true := by
  unfold SeqAt.shaped
  simp [PyData.canLay0, PyData.depth, (lay_ints E).1, (lay_ints E).2]
theorem eqv_ints : ∀ (E F : List Int), PyData.eqvAll (E.map PyData.int) (F.map PyData.int) = decide (E = F)
  | [], [] => by simp [PyData.eqvAll]
  | _ :: _, [] => by simp [PyData.eqvAll]
  | [], _ :: _ => by simp [PyData.eqvAll]
  | a :: E, b :: F => by
    simp only [List.map_cons, PyData.eqvAll, PyData.eqv, eqv_ints E F]
    by_cases h1 : a = b <;> by_cases h2 : E = F <;> simp [h1, h2]
theorem dEq_ints {h : LH} {r q : Nat} {E F : List Int} (hr : h[r]? = some (.lst (E.map D.int))) (hq : h[q]? = some (.lst (F.map D.int))) (lE : E.length ≤ 90000) (lF : F.length ≤ 90000) :
    dEq (.ref r) (.ref q) h = .ok (.bl (decide (E = F))) h := by
  have t : ∀ (r : Nat) (E : List Int), h[r]? = some (.lst (E.map D.int)) → E.length ≤ 90000 → toP 10000000 h (.ref r) = some (.list (E.map PyData.int)) := by
    intro r E hr l
    show (match h[r]? with
      | some (.lst xs) => (toPs (9999998 + 1) h xs).map PyData.list
      | _ => none) = _
    rw [hr]
    simp only [toPs_ints E 9999998 (by omega), Option.map_some]
  unfold dEq dEqB
  simp only [t r E hr lE, t q F hq lF, shaped_ints, Bool.and_self, if_true, PyData.eqv, eqv_ints]
/-! ### matching of a part -/
def mt : List Nat → List Nat → Bool
  | [], p => p.isEmpty
  | c :: w, p => if c = 42 then (List.range (p.length + 1)).any (fun k => mt w (p.drop k)) else match p with
    | [] => false
    | d :: p' => decide (d = c) && mt w p'
theorem mt_cons (c : Nat) (w p : List Nat) : mt (c :: w) p = if c = 42 then (List.range (p.length + 1)).any (fun k => mt w (p.drop k)) else match p with
    | [] => false
    | d :: p' => decide (d = c) && mt w p' := rfl
def endsB (p : List Nat) (E : List Nat) (c : Nat) : List Nat := if c = 42 then (match E with
    | [] => []
    | e :: _ => List.range' e (p.length + 1 - e)) else (E.filter fun e => decide (p[e]? = some c)).map (· + 1)
theorem endsB_ok {p E : List Nat} {c : Nat} (hs : E.Pairwise (· ≤ ·)) (hb : ∀ e ∈ E, e ≤ p.length) : (endsB p E c).Pairwise (· ≤ ·) ∧ ∀ e ∈ endsB p E c, e ≤ p.length := by
  unfold endsB
  by_cases h : c = 42
  · rw [if_pos h]
    cases E with
    | nil => exact ⟨.nil, fun _ h => nomatch h⟩
    | cons a E =>
      refine ⟨?_, fun e he => ?_⟩
      · exact (List.pairwise_lt_range' (step := 1)).imp fun h => Nat.le_of_lt h
      · have := List.mem_range'_1.mp he
        have := hb a (by simp)
        omega
  · rw [if_neg h]
    refine ⟨?_, fun e he => ?_⟩
    · rw [List.pairwise_map]
      exact (hs.filter _).imp fun h => by omega
    · obtain ⟨x, hx, rfl⟩ := List.mem_map.mp he
      have h2 := (List.mem_filter.mp hx).2
      have := lt_of_get (of_decide_eq_true h2)
      omega
theorem pm_iff {p : List Nat} : ∀ (w E : List Nat), E.Pairwise (· ≤ ·) → (∀ e ∈ E, e ≤ p.length) → (p.length ∈ w.foldl (endsB p) E ↔ ∃ e ∈ E, mt w (p.drop e) = true)
  | [], E, hs, hb => by
    show p.length ∈ E ↔ ∃ e ∈ E, (p.drop e).isEmpty = true
    constructor
    · intro h
      exact ⟨_, h, by simp⟩
    · rintro ⟨e, he, h⟩
      have h1 := hb e he
      have h2 : p.length ≤ e := by simpa using h
      have : e = p.length := by omega
      rw [← this]
      exact he
  | c :: w, E, hs, hb => by
    have hk := endsB_ok (c := c) hs hb
    rw [List.foldl_cons, pm_iff w _ hk.1 hk.2]
    simp only [mt_cons]
    unfold endsB
    by_cases h : c = 42
    · simp only [if_pos h]
      cases E with
      | nil => simp
      | cons a E =>
        have ha := hb a (by simp)
        constructor
        · rintro ⟨e, he, hm⟩
          have h1 := List.mem_range'_1.mp he
          refine ⟨a, by simp, List.any_eq_true.mpr ⟨e - a, ?_, ?_⟩⟩
          · rw [List.mem_range, List.length_drop]
            omega
          · rw [List.drop_drop]
            rw [show a + (e - a) = e from by omega]
            exact hm
        · rintro ⟨e, he, hm⟩
          obtain ⟨k, hk, hm⟩ := List.any_eq_true.mp hm
          rw [List.mem_range, List.length_drop] at hk
          rw [List.drop_drop] at hm
          have h1 := hb e he
          have h2 : a ≤ e := by
            rcases List.mem_cons.mp he with rfl | he
            · exact Nat.le_refl _
            · exact (List.pairwise_cons.mp hs).1 e he
          exact ⟨e + k, List.mem_range'_1.mpr ⟨by omega, by omega⟩, hm⟩
    · simp only [if_neg h]
      constructor
      · rintro ⟨e, he, hm⟩
        obtain ⟨x, hx, rfl⟩ := List.mem_map.mp he
        obtain ⟨h1, h2⟩ := List.mem_filter.mp hx
        have h3 := of_decide_eq_true h2
        have hl := lt_of_get h3
        refine ⟨x, h1, ?_⟩
        rw [List.drop_eq_getElem_cons hl]
        rw [List.getElem?_eq_getElem hl] at h3
        injection h3 with h3
        simp [h3, hm]
      · rintro ⟨e, he, hm⟩
        by_cases hl : e < p.length
        · rw [List.drop_eq_getElem_cons hl] at hm
          simp at hm
          exact ⟨e + 1, List.mem_map.mpr ⟨e, List.mem_filter.mpr ⟨he, by simp [List.getElem?_eq_getElem hl, hm.1]⟩, rfl⟩, hm.2⟩
        · rw [List.drop_of_length_le (by omega)] at hm
          simp at hm
theorem pm_mt {w p : List Nat} : decide (p.length ∈ w.foldl (endsB p) [0]) = mt w p := by
  have := pm_iff (p := p) w [0] (List.pairwise_singleton _ _) (by simp)
  simp at this
  by_cases h : mt w p = true
  · rw [h, decide_eq_true (this.mpr h)]
  · rw [decide_eq_false (fun z => h (this.mp z))]
    simpa using h
/-! ### the mirrors of matching -/
def nD (E : List Nat) : List D := E.map fun e : Nat => D.int (e : Int)
theorem nD_ints (E : List Nat) : nD E = (E.map fun e : Nat => (e : Int)).map D.int := by
  unfold nD; rw [List.map_map]; rfl
theorem Gr.get {h h' : LH} (g : Gr h h') {i : Nat} {o : LO} (e : h[i]? = some o) : h'[i]? = some o := by
  obtain ⟨x, rfl⟩ := g
  rw [List.getElem?_append_left (lt_of_get e)]
  exact e
theorem Gr.refl (h : LH) : Gr h h := ⟨[], by simp⟩
theorem Gr.trans {h h1 h2 : LH} (a : Gr h h1) (b : Gr h1 h2) : Gr h h2 := by
  obtain ⟨x, rfl⟩ := a
  obtain ⟨y, rfl⟩ := b
  exact ⟨x ++ y, by rw [List.append_assoc]⟩
theorem Gr.push (h : LH) (x : List LO) : Gr h (h ++ x) := ⟨x, rfl⟩
theorem cut_one {p : List Nat} {e : Nat} (c : Nat) : (cutD p (some (e : Int)) (some ((e : Int) + 1)) = [c]) ↔ p[e]? = some c := by
  rw [cut_both (by omega) (by omega)]
  rw [show (e : Int).toNat = e from by omega, show ((e : Int) + 1).toNat - e = 1 from by omega]
  by_cases hl : e < p.length
  · rw [List.drop_eq_getElem_cons hl, List.getElem?_eq_getElem hl, List.take_succ_cons, List.take_zero]
    simp
  · rw [List.drop_of_length_le (by omega), List.getElem?_eq_none (by omega)]
    simp
theorem lrg_ok {a b : M D} {e : EN} {h h1 h2 : LH} {i j : Int} (ha : a e h = .ok (.int i) h1) (hb : b e h1 = .ok (.int j) h2) (hc : -(2 ^ 62) ≤ i ∧ i < 2 ^ 62 ∧ -(2 ^ 62) ≤ j ∧ j < 2 ^ 62 ∧ (j - i).toNat ≤ 2 ^ 24) :
    mLRg a b e h = .ok (.ref h2.length) (h2 ++ [.lst (rgD i j)]) := by
  unfold mLRg
  rw [ha]
  show (b e h1).bind _ = _
  rw [hb]
  show (if _ then _ else _) = _
  rw [if_pos hc]
theorem ends_ok {h : LH} {r : Nat} {E p : List Nat} {c : Nat} (hr : h[r]? = some (.lst (nD E))) (hE : E.length ≤ 1000) (hp : p.length ≤ 1000) (hb : ∀ e ∈ E, e ≤ p.length) :
    ∃ q h', L.f_ends_behind [.ref r, .str [c], .str p] h = .ok (.ref q) h' ∧ h'[q]? = some (.lst (nD (endsB p E c))) ∧ Gr h h' := by
  unfold L.f_ends_behind
  rw [mkF_eq (by rfl)]
  unfold L.b_ends_behind
  have est := S_eq "*"
  simp at est
  have hps : p.length ≤ 16777216 := by omega
  unfold endsB
  by_cases hc : c = 42
  · rw [if_pos hc]
    have e1 : (h ++ [LO.lst []])[r]? = some (.lst (nD E)) := by rw [List.getElem?_append_left (lt_of_get hr)]; exact hr
    have eq0 : dEq (.ref r) (.ref h.length) (h ++ [.lst []]) = .ok (.bl (decide (E = []))) (h ++ [.lst []]) := by
      have := dEq_ints (h := h ++ [.lst []]) (r := r) (q := h.length) (E := E.map fun e : Nat => (e : Int)) (F := []) (by rw [e1, nD_ints]) (by simp) (by simp; omega) (by simp)
      rw [this]
      simp
    cases E with
    | nil =>
      refine ⟨h.length + 1, h ++ [.lst []] ++ [.lst []], ?_, ?_, ?_⟩
      · simp only [ev_seq]
        simp [hc, est, dNe_str, eq0]
      · rw [List.append_assoc, List.getElem?_append_right (by omega)]; simp [nD]
      · exact (Gr.push h _).trans (Gr.push _ _)
    | cons a E =>
      have ha := hb a (by simp)
      refine ⟨h.length + 1, h ++ [.lst []] ++ [.lst (nD (List.range' a (p.length + 1 - a)))], ?_, ?_, ?_⟩
      · have ei : dIx (.ref r) (.int 0) (h ++ [.lst []]) = .ok (.int a) (h ++ [.lst []]) := dIx_ref e1 (atI_of (by decide) rfl)
        have erg : rgD (a : Int) ((p.length : Int) + 1) = nD (List.range' a (p.length + 1 - a)) := by
          unfold rgD nD
          rw [List.range'_eq_map_range, List.map_map, show ((p.length : Int) + 1 - a).toNat = p.length + 1 - a from by omega]
          rfl
        have el := lrg_ok (a := mOp dIx (mVar 0) (mC (.int 0))) (b := mOp dAdd (mApp dLen (mCons (mVar 2) mNil)) (mC (.int 1))) (e := [some (.ref r), some (.str [42]), some (.str p), none]) (h := h ++ [.lst []]) (h1 := h ++ [.lst []]) (h2 := h ++ [.lst []]) (i := a) (j := (p.length : Int) + 1) (by simp [ei]) (by simp [dLen_str hps, dAdd_int]) (by omega)
        rw [erg] at el
        simp only [ev_seq]
        simp [hc, est, dNe_str, eq0, el]
      · rw [List.append_assoc, List.getElem?_append_right (by omega)]; simp
      · exact (Gr.push h _).trans (Gr.push _ _)
  · rw [if_neg hc]
    have key := loopC_gen (g := itO r) (t := .nm 3) (c := mTst (mOp dEq (mSl (mVar 2) (mPart (mVar 3)) (mPart (mOp dAdd (mVar 3) (mC (.int 1))))) (mVar 1))) (y := mOp dAdd (mVar 3) (mC (.int 1)))
      (e := [some (.ref r), some (.str [c]), some (.str p), none]) (k := h.length) (N := E.length) (fun j => .int (E.getD j 0 : Nat))
      (fun j acc g => g = h ++ [.lst acc] ∧ acc = nD (((E.take j).filter fun e => decide (p[e]? = some c)).map (· + 1)))
      (fun j acc g hj hi => by
        have : (h ++ [LO.lst acc])[r]? = some (.lst (nD E)) := by rw [List.getElem?_append_left (lt_of_get hr)]; exact hr
        rw [hi.1, itO_get this]
        unfold nD
        rw [List.getElem?_map]
        by_cases c : j < E.length
        · rw [if_pos c, List.getD_eq_getElem?_getD, List.getElem?_eq_getElem c]; rfl
        · rw [if_neg c, List.getElem?_eq_none (by omega)]; rfl)
      (fun j acc g hj hi => by rw [hi.1]; simp) (by
        rintro j acc g hj ⟨rfl, ea⟩
        have ej : E[j]? = some (E.getD j 0) := by rw [List.getD_eq_getElem?_getD, List.getElem?_eq_getElem hj]; rfl
        have et : E.take (j + 1) = E.take j ++ [E.getD j 0] := by rw [List.take_succ, ej]; rfl
        refine ⟨_, rfl, ?_⟩
        have al : acc.length ≤ E.length := by
          rw [ea]; unfold nD
          rw [List.length_map, List.length_map]
          refine Nat.le_trans (List.length_filter_le _ _) ?_
          rw [List.length_take]; omega
        by_cases q : p[E.getD j 0]? = some c
        · right
          refine ⟨h ++ [.lst acc], .int ((E.getD j 0 : Nat) + 1), h ++ [.lst acc], acc, ?_, rfl, by simp, by omega, ?_, ?_⟩
          · have := (cut_one (p := p) (e := E.getD j 0) c).mpr q
            generalize E.getD j 0 = z at *
            simp [dAdd_int, dSl_str hps, this, dEq_str]
          · simp
          · rw [et, List.filter_append, List.map_append, ea]
            have : List.filter (fun e => decide (p[e]? = some c)) [E.getD j 0] = [E.getD j 0] := by
              rw [List.filter_cons, if_pos (decide_eq_true q)]; rfl
            rw [this]
            unfold nD
            rw [List.map_append]
            rfl
        · left
          refine ⟨_, ?_, rfl, ?_⟩
          · have : ¬ cutD p (some ((E.getD j 0 : Nat) : Int)) (some (((E.getD j 0 : Nat) : Int) + 1)) = [c] := fun z => q ((cut_one c).mp z)
            generalize E.getD j 0 = z at *
            simp [dAdd_int, dSl_str hps, this, dEq_str]
          · rw [et, List.filter_append, ea]
            have : List.filter (fun e => decide (p[e]? = some c)) [E.getD j 0] = [] := by
              rw [List.filter_cons, if_neg (by simpa using q)]; rfl
            rw [this, List.append_nil]) E.length 0 [] (h ++ [.lst []]) (by omega) ⟨rfl, rfl⟩
    obtain ⟨acc, h', e2, rfl, ea⟩ := key
    rw [List.take_length] at ea
    refine ⟨h.length, h ++ [.lst acc], ?_, by rw [ea]; simp, Gr.push _ _⟩
    simp only [ev_seq]
    simp [hc, est, dNe_str, hr, wipeM, show (nD E).length = E.length from by unfold nD; rw [List.length_map], e2]
theorem endsB_len {p E : List Nat} {c : Nat} (hE : E.length ≤ p.length + 1) : (endsB p E c).length ≤ p.length + 1 := by
  unfold endsB
  by_cases h : c = 42
  · rw [if_pos h]
    cases E with
    | nil => exact Nat.zero_le _
    | cons a E => simp only [List.length_range']; omega
  · rw [if_neg h, List.length_map]
    exact Nat.le_trans (List.length_filter_le _ _) hE
theorem pmatch_ok {h : LH} {w p : List Nat} (hp : p.length ≤ 900) : ∃ h', L.f_part_matches [.str w, .str p] h = .ok (.bl (mt w p)) h' ∧ Gr h h' := by
  unfold L.f_part_matches
  rw [mkF_eq (by rfl)]
  unfold L.b_part_matches
  have hps : p.length ≤ 16777216 := by omega
  have key := loopF_list (t := .nm 3) (xs := w.map fun c => D.str [c]) (body := sSet 2 (mApp L.f_ends_behind (mCons (mVar 2) (mCons (mVar 3) (mCons (mVar 1) mNil)))))
    (fun j e g => Gr h g ∧ ∃ (r : Nat) (v : Option D) (E : List Nat), e = [some (.str w), some (.str p), some (.ref r), v] ∧ g[r]? = some (.lst (nD E)) ∧ E = (w.take j).foldl (endsB p) [0] ∧ E.Pairwise (· ≤ ·) ∧ (∀ e ∈ E, e ≤ p.length) ∧ E.length ≤ p.length + 1)
    (fun r => ∃ (g : LH) (q : Nat) (v : Option D), r = .next [some (.str w), some (.str p), some (.ref q), v] g ∧ Gr h g ∧ g[q]? = some (.lst (nD (w.foldl (endsB p) [0]))))
    (fun j d e g hd ⟨hG, r, v, E, he, hr, hE, hs, hb, hl⟩ => by
      subst he
      rw [List.getElem?_map] at hd
      cases es : w[j]? with
      | none => rw [es] at hd; cases hd
      | some ch =>
        rw [es] at hd
        cases hd
        have et : w.take (j + 1) = w.take j ++ [ch] := by rw [List.take_succ, es]; rfl
        obtain ⟨q, g', eq, hq, hG'⟩ := ends_ok (c := ch) hr (by omega) (by omega) hb
        refine ⟨[some (.str w), some (.str p), some (.ref r), some (.str [ch])], rfl, ?_⟩
        have hk := endsB_ok (c := ch) hs hb
        have eb : (sSet 2 (mApp L.f_ends_behind (mCons (mVar 2) (mCons (mVar 3) (mCons (mVar 1) mNil))))) [some (.str w), some (.str p), some (.ref r), some (.str [ch])] g = .next [some (.str w), some (.str p), some (.ref q), some (.str [ch])] g' := by
          simp [eq]
        rw [eb]
        refine ⟨hG.trans hG', q, _, endsB p E ch, rfl, hq, ?_, hk.1, hk.2, endsB_len hl⟩
        rw [et, List.foldl_append, ← hE]
        rfl)
    (fun e g ⟨hG, r, v, E, he, hr, hE, _⟩ => by
      rw [List.length_map, List.take_length] at hE
      subst hE
      exact ⟨g, r, v, by rw [he], hG, hr⟩) (e := [some (.str w), some (.str p), some (.ref h.length), none]) (h := h ++ [.lst [.int 0]])
      ⟨Gr.push _ _, h.length, none, [0], rfl, by simp [nD], rfl, List.pairwise_singleton _ _, by simp, by simp⟩
  rw [List.length_map] at key
  obtain ⟨g, q, v, er, hG, hq⟩ := key
  refine ⟨g, ?_, hG⟩
  have ein : dIn (.int p.length) (.ref q) g = .ok (.bl (decide (p.length ∈ w.foldl (endsB p) [0]))) g := by
    show (match seqD (.ref q) g with
      | some xs => if flD (.int p.length) && xs.all flD then Res.ok (D.bl (xs.any fun y => eqF y (.int p.length))) g else .bad
      | none => .bad) = _
    have e : seqD (.ref q) g = some (nD (w.foldl (endsB p) [0])) := by
      show (match g[q]? with
        | some (.lst xs) => some xs
        | _ => none) = _
      rw [hq]
    rw [e]
    generalize w.foldl (endsB p) [0] = E
    have e1 : (nD E).all flD = true := by
      unfold nD
      rw [List.all_map]
      exact List.all_eq_true.mpr fun _ _ => rfl
    have e2 : ((nD E).any fun y => eqF y (.int p.length)) = decide (p.length ∈ E) := by
      unfold nD
      rw [List.any_map, Bool.eq_iff_iff, List.any_eq_true, decide_eq_true_eq]
      constructor
      · rintro ⟨x, hx, hq⟩
        have : ((x : Int) == (p.length : Int)) = true := hq
        have := eq_of_beq this
        have : x = p.length := by omega
        rw [← this]; exact hx
      · intro hx
        exact ⟨_, hx, beq_self_eq_true _⟩
    simp only [e1, e2, flD, Bool.and_self, if_true]
  rw [pm_mt] at ein
  simp only [ev_seq]
  simp [er, dLen_str hps, ein]
/-- matching part by part -/
def mts : List (List Nat) → List (List Nat) → Bool
  | [], [] => true
  | w :: ws, p :: ps => mt w p && mts ws ps
  | _, _ => false
theorem mts_len : ∀ {ws ps : List (List Nat)}, mts ws ps = true → ws.length = ps.length
  | [], [], _ => rfl
  | [], _ :: _, h => by simp [mts] at h
  | _ :: _, [], h => by simp [mts] at h
  | w :: ws, p :: ps, h => by
    simp [mts] at h
    simp [mts_len h.2]
theorem cut1_le (k : Nat) : ∀ (s acc : List Nat), ∀ p ∈ cut1 k acc s, p.length ≤ acc.length + s.length := by
  intro s
  induction s with
  | nil =>
    intro acc p hp
    have : p = acc := by simpa [cut1] using hp
    rw [this]; simp
  | cons c r ih =>
    intro acc p hp
    unfold cut1 at hp
    by_cases h : c = k
    · rw [if_pos h] at hp
      rcases List.mem_cons.mp hp with rfl | hp
      · simp
      · have := ih [] p hp
        simp at this ⊢
        omega
    · rw [if_neg h] at hp
      have := ih _ p hp
      simp at this ⊢
      omega
theorem cut1_cnt (k : Nat) : ∀ (s acc : List Nat), (cut1 k acc s).length ≤ s.length + 1 := by
  intro s
  induction s with
  | nil => intro acc; simp [cut1]
  | cons c r ih =>
    intro acc
    unfold cut1
    by_cases h : c = k
    · rw [if_pos h]
      have := ih []
      simp
      omega
    · rw [if_neg h]
      have := ih (acc ++ [c])
      simp
      omega
theorem rng1_int {a : M (List D)} {e : EN} {h h1 : LH} {n : Int} (ha : a e h = .ok [.int n] h1) (hc : -(2 ^ 62) ≤ n ∧ n < 2 ^ 62) : iRng1M a e h = .ok (itN n.toNat, n.toNat) h1 := by
  rw [ev_rng1, ha]
  simp only [bind_ok]
  rw [if_pos hc]
theorem rng1_nat {a : M (List D)} {e : EN} {h h1 : LH} {n : Nat} (ha : a e h = .ok [.int n] h1) (hc : n ≤ 1000000000) : iRng1M a e h = .ok (itN n, n) h1 := by
  have := rng1_int ha ⟨by omega, by omega⟩
  rw [Int.toNat_natCast] at this
  exact this
theorem dSplit_one {s : List Nat} {k : Nat} {h : LH} (hk : k < 256) (hl : s.length ≤ 1000000) : dSplit (.str s) [.str [k]] h = .ok (.ref h.length) (h ++ [.lst ((cut1 k [] s).map D.str)]) := by
  show (if [k] ≠ [] ∧ [k].all (· < 256) = true ∧ s.length + 2 ≤ 16777216 then Res.ok (D.ref h.length) (h ++ [.lst ((TL.spl [k] 0 [] s).map D.str)]) else .bad) = _
  rw [if_pos ⟨by simp, by simp [hk], by omega⟩, spl_one]
theorem matches_ok {h : LH} {a b : List Nat} (ha : a.length ≤ 800) (hb : b.length ≤ 800) : ∃ h', L.f_matches [.str a, .str b] h = .ok (.bl (mts (cut1 47 [] a) (cut1 47 [] b))) h' ∧ Gr h h' := by
  unfold L.f_matches
  rw [mkF_eq (by rfl)]
  unfold L.b_matches
  have esl := S_eq "/"
  simp at esl
  have s1 := dSplit_one (s := a) (k := 47) (h := h) (by decide) (by omega)
  have lw := cut1_le 47 a []
  have lp := cut1_le 47 b []
  have lc := cut1_cnt 47 b []
  generalize cut1 47 [] a = ws at *
  have s2 := dSplit_one (s := b) (k := 47) (h := h ++ [.lst (ws.map D.str)]) (by decide) (by omega)
  generalize cut1 47 [] b = ps at *
  obtain ⟨h2, eh2⟩ : ∃ h2, h ++ [.lst (ws.map D.str)] ++ [.lst (ps.map D.str)] = h2 := ⟨_, rfl⟩
  rw [eh2] at s2
  have g1 : h2[h.length]? = some (.lst (ws.map D.str)) := by rw [← eh2]; simp
  have g2 : h2[h.length + 1]? = some (.lst (ps.map D.str)) := by rw [← eh2, List.append_assoc, List.getElem?_append_right (by omega)]; simp
  have hG : Gr h h2 := by rw [← eh2]; exact (Gr.push h _).trans (Gr.push _ _)
  have hlen : (h ++ [LO.lst (ws.map D.str)]).length = h.length + 1 := by simp
  rw [hlen] at s2
  have l1 : dLen [.ref h.length] h2 = .ok (.int ws.length) h2 := by rw [dLen_ref g1, List.length_map]
  have l2 : dLen [.ref (h.length + 1)] h2 = .ok (.int ps.length) h2 := by rw [dLen_ref g2, List.length_map]
  simp only [ev_seq]
  by_cases c : ws.length = ps.length
  · obtain ⟨B, hB⟩ : ∃ B : MS, B = sIf (mTNot (mTru (mApp L.f_part_matches (mCons (mOp dIx (mVar 2) (mVar 4)) (mCons (mOp dIx (mVar 3) (mVar 4)) mNil))))) (sRet (mC (.bl false))) sNil := ⟨_, rfl⟩
    have key := loopF_gen (g := itN ps.length) (t := .nm 4) (body := B) (N := ps.length) (fun j => .int (j : Nat))
      (fun j e g => Gr h2 g ∧ (∃ v, e = [some (.str a), some (.str b), some (.ref h.length), some (.ref (h.length + 1)), v]) ∧ mts (ws.drop j) (ps.drop j) = mts ws ps)
      (fun r => (∃ e g, r = .next e g ∧ Gr h2 g ∧ mts ws ps = true) ∨ ∃ g, r = .ret (.bl false) g ∧ Gr h2 g ∧ mts ws ps = false)
      (fun j e g hj hi => rfl) (by
        rintro j e g hj ⟨hg, ⟨v, rfl⟩, hm⟩
        have hw : j < ws.length := by omega
        rw [List.drop_eq_getElem_cons hw, List.drop_eq_getElem_cons hj] at hm
        have ix1 : dIx (.ref h.length) (.int j) g = .ok (.str ws[j]) g := dIx_ref (hg.get g1) (atI_of (by omega) (by
          rw [show ((j : Int)).toNat = j from by omega, List.getElem?_map, List.getElem?_eq_getElem hw]; rfl))
        have ix2 : dIx (.ref (h.length + 1)) (.int j) g = .ok (.str ps[j]) g := dIx_ref (hg.get g2) (atI_of (by omega) (by
          rw [show ((j : Int)).toNat = j from by omega, List.getElem?_map, List.getElem?_eq_getElem hj]; rfl))
        have hl := lp ps[j] (List.getElem_mem hj)
        obtain ⟨g', ep, gp⟩ := pmatch_ok (h := g) (w := ws[j]) (p := ps[j]) (by simp at hl; omega)
        refine ⟨[some (.str a), some (.str b), some (.ref h.length), some (.ref (h.length + 1)), some (.int (j : Nat))], rfl, ?_⟩
        by_cases q : mt ws[j] ps[j] = true
        · have eb : B [some (.str a), some (.str b), some (.ref h.length), some (.ref (h.length + 1)), some (.int (j : Nat))] g = .next [some (.str a), some (.str b), some (.ref h.length), some (.ref (h.length + 1)), some (.int (j : Nat))] g' := by
            subst hB
            simp [ix1, ix2, ep, q, truD]
          rw [eb]
          refine ⟨hg.trans gp, ⟨_, rfl⟩, ?_⟩
          rw [← hm]
          show _ = (mt ws[j] ps[j] && mts (ws.drop (j + 1)) (ps.drop (j + 1)))
          rw [q, Bool.true_and]
        · have q' : mt ws[j] ps[j] = false := by simpa using q
          have eb : B [some (.str a), some (.str b), some (.ref h.length), some (.ref (h.length + 1)), some (.int (j : Nat))] g = .ret (.bl false) g' := by
            subst hB
            simp [ix1, ix2, ep, q', truD]
          rw [eb]
          refine .inr ⟨g', rfl, hg.trans gp, ?_⟩
          rw [← hm]
          show (mt ws[j] ps[j] && mts (ws.drop (j + 1)) (ps.drop (j + 1))) = false
          rw [q', Bool.false_and])
      (fun e g ⟨hg, _, hm⟩ => by
        rw [List.drop_length, ← c, List.drop_length] at hm
        exact .inl ⟨e, g, rfl, hg, hm.symm⟩) ps.length 0 [some (.str a), some (.str b), some (.ref h.length), some (.ref (h.length + 1)), none] h2 (by omega) ⟨Gr.refl _, ⟨none, rfl⟩, rfl⟩
    subst hB
    have er1 := rng1_nat (a := mCons (mApp dLen (mCons (mVar 3) mNil)) mNil) (e := [some (.str a), some (.str b), some (.ref h.length), some (.ref (h.length + 1)), none]) (h := h2) (h1 := h2) (n := ps.length) (by simp [l2]) (Nat.le_trans lc (by omega))
    rcases key with ⟨e, g, er, hg, hm⟩ | ⟨g, er, hg, hm⟩
    · exact ⟨g, by simp [esl, isStr, s1, s2, l1, l2, dNe_int, c, er1, er, hm], hG.trans hg⟩
    · exact ⟨g, by simp [esl, isStr, s1, s2, l1, l2, dNe_int, c, er1, er, hm], hG.trans hg⟩
  · have hm : mts ws ps = false := by
      cases e : mts ws ps with
      | false => rfl
      | true => exact absurd (mts_len e) c
    have c' : ¬ (ws.length : Int) = ps.length := by omega
    exact ⟨h2, by simp [esl, isStr, s1, s2, l1, l2, dNe_int, c', c, hm], hG⟩
end HM
set_option Elab.async false
set_option linter.all false
set_option maxRecDepth 100000
set_option maxHeartbeats 4000000
namespace HM
open PySem L2
/-! ### facts of matching; cut and join -/
theorem mt_app : ∀ {w w' p p' : List Nat}, mt w p = true → mt w' p' = true → mt (w ++ w') (p ++ p') = true
  | [], w', p, p', h, h' => by
    have : p = [] := by simpa [mt] using h
    rw [this]; exact h'
  | c :: w, w', p, p', h, h' => by
    rw [List.cons_append, mt_cons]
    rw [mt_cons] at h
    by_cases q : c = 42
    · rw [if_pos q] at h ⊢
      obtain ⟨k, hk, hm⟩ := List.any_eq_true.mp h
      have hk' := List.mem_range.mp hk
      refine List.any_eq_true.mpr ⟨k, List.mem_range.mpr (by rw [List.length_append]; omega), ?_⟩
      rw [List.drop_append_of_le_length (by omega)]
      exact mt_app hm h'
    · rw [if_neg q] at h ⊢
      cases p with
      | nil => cases h
      | cons d p =>
        simp at h ⊢
        exact ⟨h.1, mt_app h.2 h'⟩
theorem mt_star (x : List Nat) : mt [42] x = true := by
  rw [mt_cons, if_pos rfl]
  refine List.any_eq_true.mpr ⟨x.length, List.mem_range.mpr (by omega), ?_⟩
  simp [mt]
theorem mt_chr {c : Nat} : mt [c] [c] = true := by
  by_cases h : c = 42
  · rw [h]; exact mt_star _
  · rw [mt_cons, if_neg h]
    simp [mt]
theorem mt_stars : ∀ {w : List Nat} (x : List Nat), w ≠ [] → (∀ c ∈ w, c = 42) → mt w x = true
  | [], _, h, _ => absurd rfl h
  | [a], x, _, h => by rw [h a (by simp)]; exact mt_star x
  | a :: b :: w, x, _, h => by
    have e := mt_stars (w := b :: w) x (by simp) fun c hc => h c (List.mem_cons_of_mem _ hc)
    have := mt_app (w := [42]) (p := []) (mt_star []) e
    rw [h a (by simp)]
    exact this
theorem mt_self : ∀ (p : List Nat), mt p p = true
  | [] => rfl
  | a :: p => mt_app (w := [a]) (p := [a]) mt_chr (mt_self p)
theorem mts_self : ∀ (p : List (List Nat)), mts p p = true
  | [] => rfl
  | a :: p => by simp [mts, mt_self a, mts_self p]
theorem mts_snoc : ∀ {ws ps : List (List Nat)} {w p : List Nat}, mts ws ps = true → mt w p = true → mts (ws ++ [w]) (ps ++ [p]) = true
  | [], [], _, _, _, h => by simp [mts, h]
  | [], _ :: _, _, _, h, _ => by simp [mts] at h
  | _ :: _, [], _, _, h, _ => by simp [mts] at h
  | w :: ws, p :: ps, _, _, h, h2 => by
    simp [mts] at h ⊢
    exact ⟨h.1, mts_snoc h.2 h2⟩
theorem mts_no {ws ps : List (List Nat)} (h : ws.length ≠ ps.length) : mts ws ps = false := by
  cases e : mts ws ps with
  | false => rfl
  | true => exact absurd (mts_len e) h
theorem cut_join {ps : List (List Nat)} (hne : ps ≠ []) (h : ∀ p ∈ ps, 47 ∉ p) : cut1 47 [] (TL.joinL [47] ps) = ps := by
  rw [← spl_one]
  exact TL.spl_join hne h
theorem joinL_snoc {a : List Nat} : ∀ {ps : List (List Nat)} {p : List Nat}, ps ≠ [] → TL.joinL a (ps ++ [p]) = TL.joinL a ps ++ (a ++ p)
  | [], _, h => absurd rfl h
  | [x], p, _ => rfl
  | x :: y :: ps, p, _ => by
    have e := joinL_snoc (a := a) (ps := y :: ps) (p := p) (by simp)
    show x ++ (a ++ TL.joinL a (y :: ps ++ [p])) = x ++ (a ++ TL.joinL a (y :: ps)) ++ (a ++ p)
    rw [e]
    simp
theorem dSl_ref {h : LH} {r : Nat} {xs : List D} {lo hi : Option Int} (hr : h[r]? = some (LO.lst xs)) : dSl (.ref r) lo hi h = .ok (.ref h.length) (h ++ [LO.lst (cutD xs lo hi)]) := by
  show (match seqD (.ref r) h with
    | some xs => Res.ok (D.ref h.length) (h ++ [LO.lst (cutD xs lo hi)])
    | none => .bad) = _
  have e : seqD (.ref r) h = some xs := by
    show (match h[r]? with
      | some (.lst xs) => some xs
      | _ => none) = _
    rw [hr]
  rw [e]
theorem joinP {h : LH} {r : Nat} {ss : List (List Nat)} {m : Nat} (hr : h[r]? = some (.lst (ss.map D.str))) (hm : ∀ s ∈ ss, s.length ≤ m) (hl : ss.length ≤ 100) (hm2 : m ≤ 10000) :
    dJoin (S "/") [.ref r] h = .ok (.str (TL.joinL [47] ss)) h ∧ (TL.joinL [47] ss).length ≤ ss.length * m + ss.length := by
  have esl := S_eq "/"
  simp at esl
  rw [esl]
  have h1 := sum_le ss m hm
  have h2 : ss.length * m ≤ 100 * 10000 := Nat.mul_le_mul hl hm2
  refine ⟨dJoin_ref hr (by simp; omega), ?_⟩
  have := joinL_len [47] ss
  simp at this
  omega
theorem SF.ne {r : Nat} {h h' : LH} (s : SF r h h') : h'.length ≠ 0 := by
  obtain ⟨a, b, e⟩ := s.st
  have := lt_of_get e
  omega
/-- a list's change keeps the stream -/
theorem SF.setO {r i : Nat} {h : LH} {o : LO} (s : StrAt h r) (hi : i ≠ r) : StrAt (h.set i o) r := by
  obtain ⟨a, b, e⟩ := s
  exact ⟨a, b, by rw [List.getElem?_set_ne hi]; exact e⟩
end HM
set_option Elab.async false
set_option linter.all false
set_option maxRecDepth 100000
set_option maxHeartbeats 4000000
namespace HM
open PySem L2
/-! ### the law's table -/
/-- all old objects stand -/
structure Kp (h g : LH) : Prop where
  le : h.length ≤ g.length
  keep : ∀ i, i < h.length → g[i]? = h[i]?
theorem Kp.refl (h : LH) : Kp h h := ⟨Nat.le_refl _, fun _ _ => rfl⟩
theorem Kp.trans {a b c : LH} (x : Kp a b) (y : Kp b c) : Kp a c := ⟨Nat.le_trans x.le y.le, fun i hi => (y.keep i (Nat.lt_of_lt_of_le hi x.le)).trans (x.keep i hi)⟩
theorem Kp.push (h : LH) (x : List LO) : Kp h (h ++ x) := ⟨by simp, fun i hi => List.getElem?_append_left hi⟩
theorem Kp.of_gr {h g : LH} (x : Gr h g) : Kp h g := by
  obtain ⟨y, rfl⟩ := x
  exact Kp.push h y
theorem Kp.get {h g : LH} (x : Kp h g) {i : Nat} {o : LO} (e : h[i]? = some o) : g[i]? = some o := (x.keep i (lt_of_get e)).trans e
theorem Kp.set {h g : LH} (x : Kp h g) {i : Nat} {o : LO} (hi : h.length ≤ i) : Kp h (g.set i o) := ⟨by simpa using x.le, fun k hk => by rw [List.getElem?_set_ne (by omega)]; exact x.keep k hk⟩
theorem mt_star_step {w p : List Nat} {k : Nat} (hk : k ≤ p.length) : mt (42 :: w) (p.drop k) = (mt w (p.drop k) || (decide (k < p.length) && mt (42 :: w) (p.drop (k + 1)))) := by
  rw [mt_cons, if_pos rfl]
  rw [Bool.eq_iff_iff, Bool.or_eq_true, Bool.and_eq_true, decide_eq_true_eq]
  rw [mt_cons, if_pos rfl]
  simp only [List.any_eq_true, List.mem_range, List.length_drop, List.drop_drop]
  constructor
  · rintro ⟨x, hx, hm⟩
    cases x with
    | zero => exact .inl hm
    | succ x =>
      refine .inr ⟨by omega, x, by omega, ?_⟩
      rw [show k + 1 + x = k + (x + 1) by omega]
      exact hm
  · rintro (h | ⟨hk', x, hx, hm⟩)
    · exact ⟨0, by omega, h⟩
    · refine ⟨x + 1, by omega, ?_⟩
      rw [show k + (x + 1) = k + 1 + x by omega]
      exact hm
theorem mt_chr_step {w p : List Nat} {c k : Nat} (hc : c ≠ 42) (hk : k < p.length) : mt (c :: w) (p.drop k) = (decide (p[k] = c) && mt w (p.drop (k + 1))) := by
  rw [mt_cons, if_neg hc, List.drop_eq_getElem_cons hk]
theorem mt_chr_end {w p : List Nat} {c : Nat} (hc : c ≠ 42) : mt (c :: w) (p.drop p.length) = false := by
  rw [mt_cons, if_neg hc, List.drop_length]
/-- the row of a suffix of the pattern -/
def rowB (w p : List Nat) : List D := (List.range (p.length + 1)).map fun k => D.bl (mt w (p.drop k))
/-- the fresh row behind j steps -/
def frB (w p : List Nat) (j : Nat) : List D := (List.range (p.length + 1)).map fun k => D.bl (decide (p.length < k + j) && mt w (p.drop k))
theorem row_get {w p : List Nat} {k : Nat} (h : k ≤ p.length) : (rowB w p)[k]? = some (.bl (mt w (p.drop k))) := by
  unfold rowB
  rw [List.getElem?_map, List.getElem?_range (by omega)]
  rfl
theorem fr_get {w p : List Nat} {k j : Nat} (h : k ≤ p.length) : (frB w p j)[k]? = some (.bl (decide (p.length < k + j) && mt w (p.drop k))) := by
  unfold frB
  rw [List.getElem?_map, List.getElem?_range (by omega)]
  rfl
theorem fr_len {w p : List Nat} {j : Nat} : (frB w p j).length = p.length + 1 := by unfold frB; simp
theorem fr_set {w p : List Nat} {j : Nat} (hj : j ≤ p.length) : (frB w p j).set (p.length - j) (.bl (mt w (p.drop (p.length - j)))) = frB w p (j + 1) := by
  apply List.ext_getElem?
  intro k
  rw [List.getElem?_set]
  by_cases hk : k ≤ p.length
  · rw [fr_get hk, fr_len]
    by_cases e : p.length - j = k
    · rw [if_pos e, if_pos (by omega), e, fr_get hk, decide_eq_true (by omega), Bool.true_and]
    · rw [if_neg e, fr_get hk]
      congr 2
      rw [show decide (p.length < k + j) = decide (p.length < k + (j + 1)) from decide_eq_decide.mpr (by omega)]
  · rw [if_neg (by omega), List.getElem?_eq_none (by rw [fr_len]; omega), List.getElem?_eq_none (by rw [fr_len]; omega)]
theorem fr_zero {w p : List Nat} : frB w p 0 = (List.range (p.length + 1)).map fun _ => D.bl false := by
  unfold frB
  refine List.map_congr_left fun k hk => ?_
  have := List.mem_range.mp hk
  rw [decide_eq_false (by omega), Bool.false_and]
theorem fr_full {w p : List Nat} : frB w p (p.length + 1) = rowB w p := by
  unfold frB rowB
  refine List.map_congr_left fun k hk => ?_
  rw [decide_eq_true (by omega), Bool.true_and]
theorem row_nil {p : List Nat} : (List.range (p.length + 1)).map (fun k : Nat => D.bl (decide ((k : Int) = p.length))) = rowB [] p := by
  unfold rowB
  refine List.map_congr_left fun k hk => ?_
  have := List.mem_range.mp hk
  congr 1
  show _ = (p.drop k).isEmpty
  by_cases e : k = p.length
  · rw [e]; simp
  · rw [decide_eq_false (by omega)]
    symm
    simp
    omega
def tabIn : MS := (sSeq (sSet 7 (mOp dSub (mApp dLen (mCons (mVar 1) mNil)) (mVar 6)))
    (sIf (mTst (mOp dEq (mVar 4) (mC (S "*")))) (sSetL (mVar 5) (mVar 7) (mOr (mOp dIx (mVar 2) (mVar 7)) (mAnd (mOp dGt (mVar 6) (mC (.int 0))) (mOp dIx (mVar 5) (mOp dAdd (mVar 7) (mC (.int 1))))))) (sIf (mTst (mOp dGt (mVar 6) (mC (.int 0)))) (sSetL (mVar 5) (mVar 7) (mAnd (mOp dEq (mOp dIx (mVar 1) (mVar 7)) (mVar 4)) (mOp dIx (mVar 2) (mOp dAdd (mVar 7) (mC (.int 1)))))) sNil)))
def TE8 (w p : List Nat) (r : Nat) (v3 v4 v5 v6 v7 : Option D) : EN := [some (.str w), some (.str p), some (.ref r), v3, v4, v5, v6, v7]
theorem tab_in {w w0 p : List Nat} {c r q : Nat} {v3 v6 v7 : Option D} {h : LH} (hp : p.length ≤ 1000) (hr : h[r]? = some (.lst (rowB w p))) (hq : h[q]? = some (.lst (frB (c :: w) p 0))) (hrq : r ≠ q) :
    ∃ v6' v7' g, loopF (itN (p.length + 1)) (.nm 6) tabIn (p.length + 1) 0 (TE8 w0 p r v3 (some (.str [c])) (some (.ref q)) v6 v7) h = .next (TE8 w0 p r v3 (some (.str [c])) (some (.ref q)) v6' v7') g ∧ g = h.set q (.lst (rowB (c :: w) p)) := by
  have est := S_eq "*"
  simp at est
  have hps : p.length ≤ 16777216 := by omega
  have hql := lt_of_get hq
  have key := loopF_gen (g := itN (p.length + 1)) (t := .nm 6) (body := tabIn) (N := p.length + 1) (fun j => .int (j : Nat))
    (fun j e g => g = h.set q (.lst (frB (c :: w) p j)) ∧ ∃ v6 v7, e = TE8 w0 p r v3 (some (.str [c])) (some (.ref q)) v6 v7)
    (fun r' => ∃ v6 v7' g, r' = .next (TE8 w0 p r v3 (some (.str [c])) (some (.ref q)) v6 v7') g ∧ g = h.set q (.lst (rowB (c :: w) p)))
    (fun j e g hj hi => rfl) (by
      rintro j e g hj ⟨rfl, v6, v7, rfl⟩
      refine ⟨TE8 w0 p r v3 (some (.str [c])) (some (.ref q)) (some (.int (j : Nat))) v7, rfl, ?_⟩
      have hj' : j ≤ p.length := by omega
      obtain ⟨g, hg⟩ : ∃ g, h.set q (.lst (frB (c :: w) p j)) = g := ⟨_, rfl⟩
      have gr : g[r]? = some (.lst (rowB w p)) := by rw [← hg, List.getElem?_set_ne (Ne.symm hrq)]; exact hr
      have gq : g[q]? = some (.lst (frB (c :: w) p j)) := by rw [← hg, List.getElem?_set_self hql]
      obtain ⟨k, hk⟩ : ∃ k, p.length - j = k := ⟨_, rfl⟩
      have hki : (p.length : Int) - j = k := by omega
      have hkp : k ≤ p.length := by omega
      have eb : tabIn (TE8 w0 p r v3 (some (.str [c])) (some (.ref q)) (some (.int (j : Nat))) v7) g = .next (TE8 w0 p r v3 (some (.str [c])) (some (.ref q)) (some (.int (j : Nat))) (some (.int (k : Nat)))) (g.set q (.lst (frB (c :: w) p (j + 1)))) := by
        have hs : ∀ b, b = mt (c :: w) (p.drop k) → setL (.ref q) (.int (k : Nat)) (.bl b) g = some (g.set q (.lst (frB (c :: w) p (j + 1)))) := by
          intro b hb
          have hix : ixN (frB (c :: w) p j).length (k : Int) = some k := by
            rw [fr_len]
            unfold ixN
            simp
            omega
          rw [setL_ref gq hix, hb, ← hk, fr_set hj']
        have i1 : dIx (.ref r) (.int (k : Nat)) g = .ok (.bl (mt w (p.drop k))) g := dIx_ref gr (atI_of (by omega) (by rw [show ((k : Int)).toNat = k by omega]; exact row_get hkp))
        unfold tabIn TE8
        rw [ev_seq]
        simp only [ev_set, ev_op, ev_app, ev_cons, ev_nil, ev_var]
        simp [dLen_str hps, dSub_int, hki]
        by_cases hc : c = 42
        · subst hc
          by_cases h0 : j = 0
          · have := hs (mt w (p.drop k)) (by
              rw [mt_star_step hkp, decide_eq_false (by omega), Bool.false_and, Bool.or_false])
            simp [est, dEq_str, i1, h0, dGt_int]
            cases em : mt w (p.drop k)
            · rw [em] at this; simp [this, h0]
            · rw [em] at this; simp [this, h0]
          · have i2 : dIx (.ref q) (.int ((k : Int) + 1)) g = .ok (.bl (mt (42 :: w) (p.drop (k + 1)))) g := dIx_ref gq (atI_of (by omega) (by
              rw [show ((k : Int) + 1).toNat = k + 1 by omega, fr_get (by omega), decide_eq_true (by omega), Bool.true_and]))
            have := hs (mt w (p.drop k) || mt (42 :: w) (p.drop (k + 1))) (by
              rw [mt_star_step hkp, decide_eq_true (show k < p.length by omega), Bool.true_and])
            have hj0 : (0 : Int) < j := by omega
            simp [est, dEq_str, i1, dGt_int, hj0, dAdd_int, i2]
            cases em : mt w (p.drop k)
            · rw [em, Bool.false_or] at this; simp [this, h0, i2, dAdd_int, dGt_int, show 0 < j by omega]
            · rw [em, Bool.true_or] at this; simp [this, h0]
        · by_cases h0 : j = 0
          · have hkk : k = p.length := by omega
            have e1 : frB (c :: w) p (j + 1) = frB (c :: w) p j := by
              rw [← fr_set hj', hk, hkk, mt_chr_end hc]
              apply List.ext_getElem?
              intro x
              rw [List.getElem?_set]
              split
              · rename_i e
                rw [if_pos (by rw [fr_len]; omega), ← e, fr_get (Nat.le_refl _), mt_chr_end hc, Bool.and_false]
              · rfl
            have e2 : g.set q (.lst (frB (c :: w) p j)) = g := by
              rw [← hg, List.set_set]
            simp [est, dEq_str, hc, h0, dGt_int, e1]
            rw [h0] at e2
            rw [show (1 : Nat) = 0 + 1 from rfl]
            rw [h0] at e1
            rw [e1, e2]
          · have hkl : k < p.length := by omega
            have i2 : dIx (.str p) (.int (k : Nat)) g = .ok (.str [p[k]]) g := dIx_str hps (atI_of (by omega) (by rw [show ((k : Int)).toNat = k by omega]; exact List.getElem?_eq_getElem hkl))
            have i3 : dIx (.ref r) (.int ((k : Int) + 1)) g = .ok (.bl (mt w (p.drop (k + 1)))) g := dIx_ref gr (atI_of (by omega) (by rw [show ((k : Int) + 1).toNat = k + 1 by omega]; exact row_get (by omega)))
            have := hs (decide (p[k] = c) && mt w (p.drop (k + 1))) (mt_chr_step hc hkl).symm
            have hj0 : (0 : Int) < j := by omega
            simp [est, dEq_str, hc, dGt_int, hj0, h0, i2]
            by_cases em : p[k] = c
            · rw [decide_eq_true em, Bool.true_and] at this; simp [em, dAdd_int, i3, this]; exact fun z => absurd z h0
            · rw [decide_eq_false em, Bool.false_and] at this; simp [em, this]; exact fun z => absurd z h0
      rw [hg, eb]
      refine ⟨?_, _, _, rfl⟩
      rw [← hg, List.set_set])
    (fun e g ⟨hg, v6, v7, he⟩ => ⟨v6, v7, g, by rw [he], by rw [hg, fr_full]⟩) (p.length + 1) 0 (TE8 w0 p r v3 (some (.str [c])) (some (.ref q)) v6 v7) h (by omega) ⟨by
      have : h.set q (.lst (frB (c :: w) p 0)) = h := by
        apply List.ext_getElem?
        intro i
        rw [List.getElem?_set]
        split
        · rename_i e
          subst e
          first
            | exact hq.symm
            | (rw [if_pos hql]; exact hq.symm)
        · rfl
      exact this.symm, v6, v7, rfl⟩
  exact key
theorem tab_ok {w p : List Nat} {h : LH} (hw : w.length ≤ 1000) (hp : p.length ≤ 1000) : ∃ g, L.f__law_part_matches [.str w, .str p] h = .ok (.bl (mt w p)) g ∧ Kp h g := by
  unfold L.f__law_part_matches
  rw [mkF_eq (by rfl)]
  unfold L.b__law_part_matches
  have hws : w.length ≤ 16777216 := by omega
  have hps : p.length ≤ 16777216 := by omega
  -- the row behind the end
  have c1 := compP (it := itN (p.length + 1)) (i := 7) (n := p.length + 1) (y := mOp dEq (mVar 7) (mApp dLen (mCons (mVar 1) mNil))) (e := [some (.str w), some (.str p), none, none, none, none, none, none]) (h := h)
    (fun k => .bl (decide ((k : Int) = p.length))) (fun j => .int (j : Nat)) (by omega) (fun j g hj => rfl) (by
      intro j acc hj
      simp [dLen_str hps, dEq_int])
  rw [row_nil] at c1
  have r1 : ∀ e g, e[1]? = some (some (D.str p)) → iRng1M (mCons (mOp dAdd (mApp dLen (mCons (mVar 1) mNil)) (mC (.int 1))) mNil) e g = .ok (itN (p.length + 1), p.length + 1) g := by
    intro e g he
    exact rng1_nat (n := p.length + 1) (by simp [he, dLen_str hps, dAdd_int]) (by omega)
  have r0 : ∀ e g, e[0]? = some (some (D.str w)) → iRng1M (mCons (mApp dLen (mCons (mVar 0) mNil)) mNil) e g = .ok (itN w.length, w.length) g := by
    intro e g he
    exact rng1_nat (n := w.length) (by simp only [ev_cons, ev_app, ev_var, ev_nil, he]; simp [dLen_str hws]) (by omega)
  refine ?_
  obtain ⟨B, hB⟩ : ∃ B : MS, B = sSeq (sSet 4 (mOp dIx (mVar 0) (mOp dSub (mOp dSub (mApp dLen (mCons (mVar 0) mNil)) (mC (.int 1))) (mVar 3))))
    (sSeq (sSet 5 (mLc (iRng1M (mCons (mOp dAdd (mApp dLen (mCons (mVar 1) mNil)) (mC (.int 1))) mNil)) (.nm 7) mYes (mC (.bl false)) [7]))
    (sSeq (sFor (iRng1M (mCons (mOp dAdd (mApp dLen (mCons (mVar 1) mNil)) (mC (.int 1))) mNil)) (.nm 6) tabIn)
    (sSet 2 (mVar 5)))) := ⟨_, rfl⟩
  have key := loopF_gen (g := itN w.length) (t := .nm 3) (body := B) (N := w.length) (fun j => .int (j : Nat))
    (fun j e g => Kp h g ∧ ∃ (r : Nat) (v3 v4 v5 v6 v7 : Option D), e = TE8 w p r v3 v4 v5 v6 v7 ∧ h.length ≤ r ∧ g[r]? = some (.lst (rowB (w.drop (w.length - j)) p)))
    (fun r' => ∃ (r : Nat) (v3 v4 v5 v6 v7 : Option D) (g : LH), r' = .next (TE8 w p r v3 v4 v5 v6 v7) g ∧ Kp h g ∧ g[r]? = some (.lst (rowB w p)))
    (fun j e g hj hi => rfl) (by
      rintro j e g hj ⟨K, r, v3, v4, v5, v6, v7, rfl, hr, gr⟩
      refine ⟨TE8 w p r (some (.int (j : Nat))) v4 v5 v6 v7, rfl, ?_⟩
      obtain ⟨i, hi⟩ : ∃ i, w.length - (j + 1) = i := ⟨_, rfl⟩
      have hil : i < w.length := by omega
      have hii : (w.length : Int) - 1 - j = (i : Nat) := by omega
      have hd : w.drop (w.length - (j + 1)) = w[i] :: w.drop (w.length - j) := by
        rw [hi, List.drop_eq_getElem_cons hil, show i + 1 = w.length - j by omega]
      have ix : dIx (.str w) (.int (i : Nat)) g = .ok (.str [w[i]]) g := dIx_str hws (atI_of (by omega) (by rw [show ((i : Int)).toNat = i by omega]; exact List.getElem?_eq_getElem hil))
      have c2 := compP (it := itN (p.length + 1)) (i := 7) (n := p.length + 1) (y := mC (.bl false)) (e := TE8 w p r (some (.int (j : Nat))) (some (.str [w[i]])) v5 v6 none) (h := g)
        (fun k => .bl false) (fun j => .int (j : Nat)) (by omega) (fun j g hj => rfl) (by
          intro j acc hj
          simp)
      rw [← fr_zero (w := w[i] :: w.drop (w.length - j))] at c2
      obtain ⟨u6, u7, g2, e2, hg2⟩ := tab_in (w := w.drop (w.length - j)) (w0 := w) (p := p) (c := w[i]) (r := r) (q := g.length) (v3 := some (.int (j : Nat))) (v6 := v6) (v7 := v7) (h := g ++ [.lst (frB (w[i] :: w.drop (w.length - j)) p 0)]) hp
        (by rw [List.getElem?_append_left (lt_of_get gr)]; exact gr) (by simp) (by have := lt_of_get gr; omega)
      have hl := lt_of_get gr
      have gl := K.le
      have eb : B (TE8 w p r (some (.int (j : Nat))) v4 v5 v6 v7) g = .next (TE8 w p g.length (some (.int (j : Nat))) (some (.str [w[i]])) (some (.ref g.length)) u6 u7) g2 := by
        subst hB
        unfold TE8 at c2 e2 ⊢
        rw [ev_seq]
        simp [dLen_str hws, dSub_int, hii, ix]
        rw [ev_seq]
        simp [r1, wipeM, c2]
        rw [ev_seq]
        simp [r1, e2]
      rw [eb]
      refine ⟨?_, g.length, _, _, _, _, _, rfl, gl, ?_⟩
      · rw [hg2]
        exact (K.trans (Kp.push g _)).set gl
      · rw [hg2, hd, List.getElem?_set_self (by simp)])
    (fun e g ⟨K, r, v3, v4, v5, v6, v7, he, hr, gr⟩ => ⟨r, v3, v4, v5, v6, v7, g, by rw [he], K, by rw [Nat.sub_self, List.drop_zero] at gr; exact gr⟩) w.length 0 (TE8 w p h.length none none none none none) (h ++ [.lst (rowB [] p)]) (by omega)
    ⟨Kp.push h _, h.length, none, none, none, none, none, rfl, Nat.le_refl _, by rw [Nat.sub_zero, List.drop_length]; simp⟩
  obtain ⟨r, v3, v4, v5, v6, v7, g, er, K, gr⟩ := key
  subst hB
  unfold tabIn at er
  have ix : dIx (.ref r) (.int 0) g = .ok (.bl (mt w p)) g := dIx_ref gr (atI_of (by decide) (row_get (k := 0) (Nat.zero_le _)))
  refine ⟨g, ?_, K⟩
  rw [ev_seq]
  unfold TE8 at er
  simp [r1, wipeM, c1]
  rw [ev_seq]
  simp [r0, er, ix]
end HM
set_option Elab.async false
set_option linter.all false
set_option maxRecDepth 100000
set_option maxHeartbeats 4000000
namespace HM
open PySem L2
/-! ### canonical texts -/
mutual
def encD : D → List Nat
  | .str s => strI s.length ++ 58 :: s
  | .int i => strI i ++ [46]
  | .tup xs => 91 :: (encL xs ++ [93])
  | _ => []
def encL : List D → List Nat
  | [] => []
  | x :: xs => encD x ++ encL xs
end
def plainD : Nat → D → Bool
  | _, .str s => allC s
  | _, .int i => decide (0 ≤ i) && decide (i ≤ 99999999999999999999)
  | r + 1, .tup xs => xs.all (plainD r)
  | _, _ => false
/-- what encode_value answers with a text -/
def encOk (r : Nat) (d : D) : Bool := plainD r d && decide ((encD d).length ≤ 100000)
/-- every part has a type, every text a length -/
def Ty (h : LH) : Nat → D → Prop
  | r, d => (∃ t, tyD d h = some t) ∧ (∀ s, d = .str s → s.length ≤ 1000000) ∧ match r, d with
    | r + 1, .tup xs => ∀ x ∈ xs, Ty h r x
    | _, _ => True
theorem Kp.ty {h g : LH} (k : Kp h g) : ∀ {r : Nat} {d : D}, Ty h r d → Ty g r d := by
  have t1 : ∀ (d : D) t, tyD d h = some t → tyD d g = some t := by
    intro d t ht
    cases d with
    | ref i =>
      unfold tyD at ht ⊢
      simp only at ht ⊢
      cases e : h[i]? with
      | none => rw [e] at ht; simp at ht
      | some o => rw [k.get e]; rw [e] at ht; exact ht
    | _ => exact ht
  intro r
  induction r with
  | zero =>
    intro d hd
    unfold Ty at hd ⊢
    obtain ⟨⟨t, ht⟩, hs, hx⟩ := hd
    exact ⟨⟨t, t1 d t ht⟩, hs, by cases d <;> trivial⟩
  | succ r ih =>
    intro d hd
    unfold Ty at hd ⊢
    obtain ⟨⟨t, ht⟩, hs, hx⟩ := hd
    refine ⟨⟨t, t1 d t ht⟩, hs, ?_⟩
    cases d with
    | tup xs => exact fun x hx' => ih (hx x hx')
    | _ => trivial
theorem strI_len {n : Nat} (h : n < 10 ^ 20) : (strI (n : Int)).length ≤ 20 := by
  unfold strI
  have e : (Str.ofString (toString ((n : Nat) : Int))).cps.toList = (Nat.toDigits 10 n).map Char.toNat := by
    have := PyProof.Rows.text_ofNat n
    have e2 : (Str.ofString (toString (Int.ofNat n))).cps.toList = (Nat.toDigits 10 n).map Char.toNat := by rw [this]
    exact e2
  rw [e, List.length_map]
  exact (Nat.length_toDigits_le_iff (n := n) (b := 10) (k := 20) (by decide) (by decide)).mpr h
theorem strI_pos {n : Nat} : strI (n : Int) = (Nat.toDigits 10 n).map Char.toNat := by
  unfold strI
  have := PyProof.Rows.text_ofNat n
  have e2 : (Str.ofString (toString (Int.ofNat n))).cps.toList = (Nat.toDigits 10 n).map Char.toNat := by rw [this]
  exact e2
theorem dStr_int {i : Int} {h : LH} (hi : i.natAbs < 10 ^ 60) : dStr [.int i] h = .ok (.str (strI i)) h := by
  have hlog : i.natAbs.log2 < 1920 := Nat.lt_trans (PySem.Flt.log2_lt_of (k := 200) (by decide) (Nat.lt_of_lt_of_le hi (by decide))) (by decide)
  show (if i.natAbs.log2 < 1920 then Res.ok (D.str (strI i)) h else .bad) = _
  rw [if_pos hlog]
theorem encD_str (s : List Nat) : encD (.str s) = strI s.length ++ 58 :: s := by rw [encD]
theorem encD_int (i : Int) : encD (.int i) = strI i ++ [46] := by rw [encD]
theorem encD_tup (xs : List D) : encD (.tup xs) = 91 :: (encL xs ++ [93]) := by rw [encD]
theorem encL_eq : ∀ xs : List D, encL xs = (xs.map encD).flatten
  | [] => by rw [encL]; rfl
  | x :: xs => by rw [encL, encL_eq xs]; rfl
theorem encL_snoc (xs : List D) (x : D) : encL (xs ++ [x]) = encL xs ++ encD x := by
  rw [encL_eq, encL_eq]
  simp
theorem encD_pos (r : Nat) (d : D) (h : plainD r d = true) : 0 < (encD d).length := by
  cases d with
  | str s => rw [encD_str]; simp <;> omega
  | int i => rw [encD_int]; simp
  | tup xs => rw [encD_tup]; simp
  | _ => cases r <;> simp [plainD] at h
abbrev BT0 : XO := ⟨"BadText", []⟩
def itOk (r : Nat) (xs : List D) : Bool := xs.all (plainD r) && decide ((encL xs).length ≤ 100000)
theorem itOk_mono {r : Nat} {xs ys : List D} (h : itOk r (xs ++ ys) = true) : itOk r xs = true := by
  unfold itOk at *
  rw [encL_eq] at *
  simp only [List.all_append, List.map_append, List.flatten_append, List.length_append, Bool.and_eq_true, decide_eq_true_eq] at *
  exact ⟨h.1.1, by omega⟩
theorem texts_len {r : Nat} {xs : List D} (h : itOk r xs = true) : xs.length ≤ 100000 := by
  unfold itOk at h
  simp only [Bool.and_eq_true, decide_eq_true_eq, List.all_eq_true] at h
  have : xs.length ≤ (encL xs).length := by
    have h1 := h.1
    clear h
    induction xs with
    | nil => simp
    | cons x xs ih =>
      rw [encL]
      have := encD_pos r x (h1 x (by simp))
      have := ih fun y hy => h1 y (List.mem_cons_of_mem _ hy)
      simp
      omega
  omega
theorem items_ok {r n : Nat} (ih : ∀ (d : D) (h : LH), Ty h r d → ∃ h', Kp h h' ∧ L.F_encode_value n 0 [d, .int r] h = if encOk r d then .ok (.str (encD d)) h' else .exc BT0 h') {xs : List D} {h : LH} (ht : ∀ x ∈ xs, Ty h r x) :
    ∃ h', Kp h h' ∧ L.F_encode_value (n + 1) 1 [.tup xs, .int r] h = if itOk r xs then .ok (.str (encL xs)) h' else .exc BT0 h' := by
  show ∃ h', Kp h h' ∧ mkF 2 6 (L.b_encode_items (L.F_encode_value n)) [.tup xs, .int r] h = _
  rw [mkF_eq (by rfl)]
  unfold L.b_encode_items
  obtain ⟨B, hB⟩ : ∃ B : MS, B = (sSeq (sSet 5 (mApp (L.F_encode_value n 0) (mCons (mVar 4) (mCons (mVar 1) mNil))))
      (sSeq (sAug dIAdd 3 (mApp dLen (mCons (mVar 5) mNil)))
      (sSeq (sIf (mTst (mOp dGt (mVar 3) (mC (.int 100000)))) (sRaise "BadText") sNil)
      (sExpr (mMet isLst dAppend (mVar 2) (mCons (mVar 5) mNil)))))) := ⟨_, rfl⟩
  have key := loopF_list (t := .nm 4) (body := B) (xs := xs)
    (fun j e g => Kp h g ∧ ∃ (v4 v5 : Option D), e = [some (.tup xs), some (.int r), some (.ref h.length), some (.int ((encL (xs.take j)).length : Nat)), v4, v5] ∧ g[h.length]? = some (.lst (((xs.take j).map encD).map D.str)) ∧ itOk r (xs.take j) = true)
    (fun q => (∃ (v4 v5 : Option D) (g : LH), q = .next [some (.tup xs), some (.int r), some (.ref h.length), some (.int ((encL xs).length : Nat)), v4, v5] g ∧ Kp h g ∧ g[h.length]? = some (.lst ((xs.map encD).map D.str)) ∧ itOk r xs = true) ∨ ∃ e g, q = .exc BT0 e g ∧ Kp h g ∧ itOk r xs = false)
    (fun j d e g hd ⟨K, v4, v5, he, hg, hok⟩ => by
      subst he
      have et : xs.take (j + 1) = xs.take j ++ [d] := by rw [List.take_succ, hd]; rfl
      have hmem := List.mem_of_getElem? hd
      obtain ⟨g1, K1, e1⟩ := ih d g (K.ty (ht d hmem))
      refine ⟨[some (.tup xs), some (.int r), some (.ref h.length), some (.int ((encL (xs.take j)).length : Nat)), some d, v5], rfl, ?_⟩
      have notok : itOk r (xs.take (j + 1)) = false → itOk r xs = false := by
        intro z
        cases q : itOk r xs with
        | false => rfl
        | true =>
          have e2 : xs = xs.take (j + 1) ++ xs.drop (j + 1) := (List.take_append_drop _ _).symm
          rw [e2] at q
          rw [itOk_mono q] at z
          cases z
      have hg1 := K1.get hg
      by_cases q : encOk r d = true
      · rw [if_pos q] at e1
        have q' := q
        unfold encOk at q'
        simp only [Bool.and_eq_true, decide_eq_true_eq] at q'
        have hl : (encL (xs.take (j + 1))).length = (encL (xs.take j)).length + (encD d).length := by rw [et, encL_snoc, List.length_append]
        have dl : dLen [.str (encD d)] g1 = .ok (.int ((encD d).length : Nat)) g1 := dLen_str (by omega)
        have hh := hok
        unfold itOk at hh
        simp only [Bool.and_eq_true, decide_eq_true_eq] at hh
        by_cases q2 : (encL (xs.take (j + 1))).length ≤ 100000
        · have q3 : ¬ (100000 : Int) < ((encL (xs.take j)).length : Int) + ((encD d).length : Int) := by omega
          have hok' : itOk r (xs.take (j + 1)) = true := by
            unfold itOk
            rw [decide_eq_true q2, Bool.and_true, et, List.all_append, hh.1]
            simp [q'.1]
          have tl := texts_len hok
          have ap : dAppend (.ref h.length) [.str (encD d)] g1 = .ok .non (g1.set h.length (.lst (((xs.take j).map encD).map D.str ++ [.str (encD d)]))) := dAppend_ref hg1 (by rw [List.length_map, List.length_map]; omega)
          have eb : B [some (.tup xs), some (.int r), some (.ref h.length), some (.int ((encL (xs.take j)).length : Nat)), some d, v5] g = .next [some (.tup xs), some (.int r), some (.ref h.length), some (.int ((encL (xs.take (j + 1))).length : Nat)), some d, some (.str (encD d))] (g1.set h.length (.lst (((xs.take j).map encD).map D.str ++ [.str (encD d)]))) := by
            subst hB
            have hI : dIAdd (.int ((encL (xs.take j)).length : Nat)) (.int ((encD d).length : Nat)) g1 = .ok (.int (((encL (xs.take j)).length : Int) + ((encD d).length : Int))) g1 := rfl
            simp only [ev_seq]
            simp [e1, dl, hI, dGt_int, q3, isLst_ref hg1, ap, hl]
          rw [eb]
          refine ⟨(K.trans K1).set (Nat.le_refl _), _, _, rfl, ?_, hok'⟩
          rw [List.getElem?_set_self (lt_of_get hg1), et]
          simp
        · have q3 : (100000 : Int) < ((encL (xs.take j)).length : Int) + ((encD d).length : Int) := by omega
          have eb : B [some (.tup xs), some (.int r), some (.ref h.length), some (.int ((encL (xs.take j)).length : Nat)), some d, v5] g = .exc BT0 [some (.tup xs), some (.int r), some (.ref h.length), some (.int ((encL (xs.take (j + 1))).length : Nat)), some d, some (.str (encD d))] g1 := by
            subst hB
            have hI : dIAdd (.int ((encL (xs.take j)).length : Nat)) (.int ((encD d).length : Nat)) g1 = .ok (.int (((encL (xs.take j)).length : Int) + ((encD d).length : Int))) g1 := rfl
            simp only [ev_seq]
            simp [e1, dl, hI, dGt_int, q3, hl, sRaise]
          rw [eb]
          refine .inr ⟨_, _, rfl, K.trans K1, notok ?_⟩
          unfold itOk
          rw [decide_eq_false q2, Bool.and_false]
      · rw [if_neg q] at e1
        have eb : B [some (.tup xs), some (.int r), some (.ref h.length), some (.int ((encL (xs.take j)).length : Nat)), some d, v5] g = .exc BT0 [some (.tup xs), some (.int r), some (.ref h.length), some (.int ((encL (xs.take j)).length : Nat)), some d, v5] g1 := by
          subst hB
          simp only [ev_seq]
          simp [e1]
        rw [eb]
        refine .inr ⟨_, _, rfl, K.trans K1, notok ?_⟩
        unfold itOk
        unfold encOk at q
        rw [et, List.all_append, encL_snoc, List.length_append]
        by_cases p : plainD r d = true
        · rw [p] at q
          simp only [Bool.true_and, decide_eq_true_eq] at q
          rw [decide_eq_false (by omega), Bool.and_false]
        · have p' : plainD r d = false := by simpa using p
          simp [p'])
    (fun e g ⟨K, v4, v5, he, hg, hok⟩ => by
      subst he
      rw [List.take_length] at hg hok ⊢
      exact .inl ⟨v4, v5, g, rfl, K, hg, hok⟩)
    (e := [some (.tup xs), some (.int r), some (.ref h.length), some (.int ((0 : Nat) : Int)), none, none]) (h := h ++ [.lst []]) ⟨Kp.push h _, none, none, by rw [List.take_zero, encL]; rfl, by simp, by unfold itOk; rw [List.take_zero, encL]; rfl⟩
  subst hB
  simp only [ev_seq]
  rcases key with ⟨v4, v5, g, er, K, hg, hok⟩ | ⟨e, g, er, K, hok⟩
  · have hj := dJoin_ref (a := []) hg (by
      unfold itOk at hok
      simp only [Bool.and_eq_true, decide_eq_true_eq] at hok
      have : ((xs.map encD).map (·.length)).sum = (encL xs).length := by
        rw [encL_eq, List.length_flatten]
      rw [this]
      simp
      omega)
    rw [joinL_nil, ← encL_eq] at hj
    refine ⟨g, K, ?_⟩
    simp at er
    simp [er, S_nil, isStr, hj, hok]
  · refine ⟨g, K, ?_⟩
    simp at er
    simp [er, hok]
theorem isPr_str {d : D} {t : BT} {h : LH} (ht : tyD d h = some t) (hn : isPr d = true) : ∃ s, d = .str s ∧ allC s = true := by
  cases d <;> simp [isPr] at hn
  exact ⟨_, rfl, hn⟩
theorem Ty.out {h : LH} {r : Nat} {d : D} (t : Ty h r d) : (∃ t, tyD d h = some t) ∧ (∀ s, d = .str s → s.length ≤ 1000000) := by
  unfold Ty at t
  exact ⟨t.1, t.2.1⟩
theorem Ty.items {h : LH} {r : Nat} {xs : List D} (t : Ty h (r + 1) (.tup xs)) : ∀ x ∈ xs, Ty h r x := by
  unfold Ty at t
  exact t.2.2
theorem plain_not {r : Nat} {d : D} (h1 : isPr d = false) (h2 : ∀ i, d = .int i → ¬ (0 ≤ i ∧ i ≤ 99999999999999999999)) (h3 : ∀ xs, d = .tup xs → r = 0) : plainD r d = false := by
  cases d with
  | str s => cases r <;> simpa [plainD, isPr] using h1
  | int i =>
    have := h2 i rfl
    cases r <;> simp [plainD] <;> omega
  | tup xs =>
    rw [h3 xs rfl]
    simp [plainD]
  | _ => cases r <;> simp [plainD]
theorem enc_tail {d : D} {r : Int} {t : List Nat} {g : LH} (hl : t.length ≤ 16777216) : (sSeq (sIf (mTst (mOp dGt (mApp dLen (mCons (mVar 2) mNil)) (mC (.int 100000)))) (sRaise "BadText") sNil) (sRet (mVar 2))) [some d, some (.int r), some (.str t)] g =
    if t.length ≤ 100000 then .ret (.str t) g else .exc BT0 [some d, some (.int r), some (.str t)] g := by
  rw [ev_seq]
  by_cases c : t.length ≤ 100000
  · have c' : ¬ (100000 : Int) < t.length := by omega
    simp [dLen_str hl, dGt_int, c, c']
  · have c' : (100000 : Int) < t.length := by omega
    simp [dLen_str hl, dGt_int, c, c', sRaise]
theorem tup_len {xs : List D} : (encD (.tup xs)).length = (encL xs).length + 2 := by
  rw [encD_tup]
  simp
theorem encOk_tup {r : Nat} {xs : List D} : encOk (r + 1) (.tup xs) = (itOk r xs && decide ((encL xs).length + 2 ≤ 100000)) := by
  unfold encOk itOk
  rw [tup_len]
  show (xs.all (plainD r) && _) = _
  by_cases c : (encL xs).length + 2 ≤ 100000
  · rw [decide_eq_true c, decide_eq_true (show (encL xs).length ≤ 100000 by omega)]
    simp
  · rw [decide_eq_false c]
    simp
theorem value_core {r n : Nat} {d : D} {h : LH} (ht : Ty h r d)
    (H : ∀ xs r', d = .tup xs → r = r' + 1 → ∃ h', Kp h h' ∧ L.F_encode_value n 1 [.tup xs, .int r'] h = if itOk r' xs then .ok (.str (encL xs)) h' else .exc BT0 h') :
    ∃ h', Kp h h' ∧ L.F_encode_value (n + 1) 0 [d, .int r] h = if encOk r d then .ok (.str (encD d)) h' else .exc BT0 h' := by
  show ∃ h', Kp h h' ∧ mkF 2 3 (L.b_encode_value (L.F_encode_value n)) [d, .int r] h = _
  rw [mkF_eq (by rfl)]
  unfold L.b_encode_value
  obtain ⟨⟨t, hty⟩, hsl⟩ := ht.out
  have ep := printable_eq (d := d) (h := h) hty
  rw [ev_seq]
  by_cases q1 : isPr d = true
  · obtain ⟨s, rfl, hs⟩ := isPr_str hty q1
    have hl := hsl s rfl
    have hl' : s.length ≤ 16777216 := by omega
    have ec := S_eq ":"
    simp at ec
    have sl := strI_len (n := s.length) (by omega)
    have ds : dStr [.int ((s.length : Nat) : Int)] h = .ok (.str (strI s.length)) h := dStr_int (by omega)
    have a1 : dAdd (.str (strI s.length)) (.str [58]) h = .ok (.str (strI s.length ++ [58])) h := dAdd_str (by simp; omega)
    have a2 : dAdd (.str (strI s.length ++ [58])) (.str s) h = .ok (.str (encD (.str s))) h := by
      rw [dAdd_str (by simp; omega), encD_str]
      simp
    have el : (encD (.str s)).length ≤ 16777216 := by rw [encD_str]; simp; omega
    have eo : encOk r (.str s) = decide ((encD (.str s)).length ≤ 100000) := by
      unfold encOk
      have : plainD r (.str s) = true := by cases r <;> exact hs
      rw [this, Bool.true_and]
    refine ⟨h, Kp.refl h, ?_⟩
    rw [q1] at ep
    simp [ep, truD, dLen_str hl', ds, ec, a1, a2]
    rw [enc_tail el, eo]
    by_cases c : (encD (.str s)).length ≤ 100000 <;> simp [c]
  · have q1' : isPr d = false := by simpa using q1
    rw [q1'] at ep
    by_cases q2 : ∃ i, d = .int i ∧ 0 ≤ i ∧ i ≤ 99999999999999999999
    · obtain ⟨i, rfl, i0, i1⟩ := q2
      obtain ⟨k, rfl⟩ : ∃ k : Nat, i = k := ⟨i.toNat, by omega⟩
      have ec := S_eq "."
      simp at ec
      have sl := strI_len (n := k) (by omega)
      have ds : dStr [.int ((k : Nat) : Int)] h = .ok (.str (strI k)) h := dStr_int (by omega)
      have a1 : dAdd (.str (strI k)) (.str [46]) h = .ok (.str (encD (.int k))) h := by
        rw [dAdd_str (by simp; omega), encD_int]
      have el : (encD (.int k)).length ≤ 21 := by rw [encD_int]; simp; omega
      have eo : encOk r (.int k) = true := by
        unfold encOk
        have : plainD r (.int k) = true := by
          cases r <;> simp [plainD] <;> omega
        rw [this, Bool.true_and, decide_eq_true (by omega)]
      have ei := integer_eq (i := (k : Int)) (lo := 0) (hi := 99999999999999999999) (h := h)
      rw [decide_eq_true (show (0 : Int) ≤ k ∧ (k : Int) ≤ 99999999999999999999 from ⟨i0, i1⟩)] at ei
      refine ⟨h, Kp.refl h, ?_⟩
      simp [ep, truD, ei, ds, ec, a1]
      rw [enc_tail (by omega), if_pos (show (encD (.int k)).length ≤ 100000 by omega), eo]
      simp
    · have ei : L.f_is_integer [d, .int 0, .int 99999999999999999999] h = .ok (.bl false) h := by
        by_cases c : ∃ i, d = .int i
        · obtain ⟨i, rfl⟩ := c
          rw [integer_eq, decide_eq_false fun z => q2 ⟨i, rfl, z⟩]
        · refine integer_no hty fun z => ?_
          subst z
          cases d <;> simp [tyD] at hty
          · exact c ⟨_, rfl⟩
          · split at hty <;> simp at hty
      by_cases q3 : ∃ xs r', d = .tup xs ∧ r = r' + 1
      · obtain ⟨xs, r', rfl, rfl⟩ := q3
        obtain ⟨h', K, eI⟩ := H xs r' rfl rfl
        have e1 := S_eq "["
        have e2 := S_eq "]"
        simp at e1 e2
        have hr0 : (0 : Int) < ((r' + 1 : Nat) : Int) := by omega
        have hr1 : ((r' + 1 : Nat) : Int) - 1 = (r' : Nat) := by omega
        refine ⟨h', K, ?_⟩
        by_cases c : itOk r' xs = true
        · rw [if_pos c] at eI
          have hl : (encL xs).length ≤ 100000 := by
            unfold itOk at c
            simp only [Bool.and_eq_true, decide_eq_true_eq] at c
            exact c.2
          have a1 : dAdd (.str [91]) (.str (encL xs)) h' = .ok (.str (91 :: encL xs)) h' := dAdd_str (by simp; omega)
          have a2 : dAdd (.str (91 :: encL xs)) (.str [93]) h' = .ok (.str (encD (.tup xs))) h' := by
            rw [dAdd_str (by simp; omega), encD_tup]
            simp
          have el := tup_len (xs := xs)
          rw [encOk_tup, c, Bool.true_and, ← el]
          simp [ep, truD, ei, tyD, isB, dGt_int, dSub_int, show (0 : Int) < (r' : Int) + 1 by omega, show (r' : Int) + 1 - 1 = r' by omega, eI, e1, e2, a1, a2]
          rw [enc_tail (by omega)]
          by_cases c2 : (encD (.tup xs)).length ≤ 100000 <;> simp [c2]
        · rw [if_neg c] at eI
          have c' : itOk r' xs = false := by simpa using c
          rw [encOk_tup, c', Bool.false_and]
          simp [ep, truD, ei, tyD, isB, dGt_int, dSub_int, show (0 : Int) < (r' : Int) + 1 by omega, show (r' : Int) + 1 - 1 = r' by omega, eI, e1]
      · have eo : encOk r d = false := by
          unfold encOk
          rw [plain_not q1' (fun i hi z => q2 ⟨i, hi, z⟩) (fun xs hx => by
            cases r with
            | zero => rfl
            | succ r' => exact absurd ⟨xs, r', hx, rfl⟩ q3), Bool.false_and]
        refine ⟨h, Kp.refl h, ?_⟩
        rw [eo]
        by_cases q4 : t = .tuple
        · subst q4
          obtain ⟨xs, rfl⟩ : ∃ xs, d = .tup xs := by
            cases d <;> simp [tyD] at hty
            · exact ⟨_, rfl⟩
            · split at hty <;> simp at hty
          have r0 : r = 0 := by
            cases r with
            | zero => rfl
            | succ r' => exact absurd ⟨xs, r', rfl, rfl⟩ q3
          subst r0
          simp [ep, truD, ei, tyD, isB, dGt_int, sRaise]
        · have : isB t .tuple = false := by cases t <;> simp [isB] at q4 ⊢
          simp [ep, truD, ei, hty, this, sRaise]
/-- encode_value, wholly -/
theorem encode_ok : ∀ (r n : Nat), 2 * r + 1 ≤ n → ∀ (d : D) (h : LH), Ty h r d → ∃ h', Kp h h' ∧ L.F_encode_value n 0 [d, .int r] h = if encOk r d then .ok (.str (encD d)) h' else .exc BT0 h' := by
  intro r
  induction r with
  | zero =>
    intro n hn d h ht
    obtain ⟨m, rfl⟩ : ∃ m, n = m + 1 := ⟨n - 1, by omega⟩
    exact value_core ht fun xs r' _ z => absurd z (by omega)
  | succ r ih =>
    intro n hn d h ht
    obtain ⟨m, rfl⟩ : ∃ m, n = m + 2 := ⟨n - 2, by omega⟩
    refine value_core ht fun xs r' hx hr => ?_
    have e : r' = r := by omega
    subst e
    subst hx
    exact items_ok (fun d h t => ih m (by omega) d h t) ht.items
theorem encode_eq {d : D} {h : LH} (ht : Ty h 8 d) : ∃ h', Kp h h' ∧ L.f_encode [d] h = if encOk 8 d then .ok (.str (encD d)) h' else .exc BT0 h' := by
  obtain ⟨h', K, e⟩ := encode_ok 8 24 (by decide) d h ht
  refine ⟨h', K, ?_⟩
  unfold L.f_encode
  rw [mkF_eq (by rfl)]
  unfold L.b_encode
  have e' : L.f_encode_value [d, .int 8] h = if encOk 8 d then .ok (.str (encD d)) h' else .exc BT0 h' := e
  by_cases c : encOk 8 d = true
  · rw [if_pos c] at e' ⊢
    simp [e']
  · rw [if_neg c] at e' ⊢
    simp [e']
end HM
set_option Elab.async false
set_option linter.all false
set_option maxRecDepth 100000
set_option maxHeartbeats 4000000
namespace HM
open PySem L2
/-! ### while loops -/
theorem loopW_gen {c : M Bool} {b : MS} (I : EN → LH → Prop) (R : RSt → Prop) (μ : EN → LH → Nat)
    (step : ∀ e h, I e h → (∃ h1, c e h = .ok false h1 ∧ R (.next e h1)) ∨ (∃ h1, c e h = .ok true h1 ∧ match b e h1 with
      | .next e2 h2 => I e2 h2 ∧ μ e2 h2 < μ e h
      | .cnt e2 h2 => I e2 h2 ∧ μ e2 h2 < μ e h
      | .brk e2 h2 => R (.next e2 h2)
      | .ret x h2 => R (.ret x h2)
      | .exc x e2 h2 => R (.exc x e2 h2)
      | .bad => False)) : ∀ n e h, I e h → μ e h < n → R (loopW c b n e h) := by
  intro n
  induction n with
  | zero => intro e h _ hn; omega
  | succ n ih =>
    intro e h hi hn
    unfold loopW
    rcases step e h hi with ⟨h1, ec, r⟩ | ⟨h1, ec, r⟩
    · rw [ec]
      exact r
    · rw [ec]
      show R (match b e h1 with
        | .next e2 h2 => loopW c b n e2 h2
        | .cnt e2 h2 => loopW c b n e2 h2
        | .brk e2 h2 => .next e2 h2
        | .ret x h2 => .ret x h2
        | .exc x e2 h2 => .exc x e2 h2
        | .bad => .bad)
      revert r
      cases b e h1 with
      | next e2 h2 => exact fun r => ih e2 h2 r.1 (by omega)
      | cnt e2 h2 => exact fun r => ih e2 h2 r.1 (by omega)
      | brk e2 h2 => exact fun r => r
      | ret x h2 => exact fun r => r
      | exc x e2 h2 => exact fun r => r
      | bad => exact fun r => r.elim
/-! ### the parser in plain words -/
def dgs (t : List Nat) (s : Nat) : List Nat := (t.drop s).takeWhile (inC dgC)
def pNum (t : List Nat) (s : Nat) : Option (Nat × Nat) := if (dgs t s).length = 0 ∨ 20 < (dgs t s).length then none else if t[s]? = some 48 ∧ 1 < (dgs t s).length then none else some (PySem.NumText.digitsVal (dgs t s), s + (dgs t s).length)
def pLeaf (t : List Nat) (s : Nat) : Option (D × Nat) := match pNum t s with
  | none => none
  | some (n, e) => if t[e]? = some 46 then some (.int n, e + 1) else if t[e]? = some 58 ∧ e + 1 + n ≤ t.length then (if allC ((t.drop (e + 1)).take n) then some (.str ((t.drop (e + 1)).take n), e + 1 + n) else none) else none
def pIts (f : Nat → Option (D × Nat)) (t : List Nat) : Nat → Nat → Option (List D × Nat)
  | 0, _ => none
  | k + 1, s => if t[s]? = some 93 then some ([], s + 1) else match f s with
    | none => none
    | some (x, e) => match pIts f t k e with
      | none => none
      | some (xs, q) => some (x :: xs, q)
def pVal (t : List Nat) : Nat → Nat → Option (D × Nat)
  | 0, s => if t[s]? = some 91 then none else pLeaf t s
  | r + 1, s => if t[s]? = some 91 then (match pIts (pVal t r) t (t.length + 1) (s + 1) with
    | none => none
    | some (xs, e) => some (.tup xs, e)) else pLeaf t s
theorem dg_iff {c : Nat} : inC dgC c = true ↔ 48 ≤ c ∧ c ≤ 57 := by
  have e : dgC = [48, 49, 50, 51, 52, 53, 54, 55, 56, 57] := by
    have := S_eq "0123456789"
    rw [S_ofD] at this
    injection this
  unfold inC
  rw [decide_eq_true_eq, e]
  simp
  omega
theorem dgs_all (t : List Nat) (s : Nat) : PySem.NumText.AllDigits (dgs t s) := by
  intro c hc
  exact dg_iff.mp (List.all_eq_true.mp (List.all_takeWhile (p := inC dgC) (l := t.drop s)) c hc)
theorem dgs_le (t : List Nat) (s : Nat) : (dgs t s).length ≤ t.length - s := by
  unfold dgs
  have := (List.takeWhile_prefix (inC dgC) (l := t.drop s)).length_le
  rw [List.length_drop] at this
  exact this
theorem dgs_at {t : List Nat} {s e : Nat} (h : s ≤ e) (h2 : e - s ≤ (dgs t s).length) : (e - s < (dgs t s).length ↔ ∃ c, t[e]? = some c ∧ inC dgC c = true) := by
  have key : ∀ (l : List Nat) (k : Nat), k ≤ (l.takeWhile (inC dgC)).length → (k < (l.takeWhile (inC dgC)).length ↔ ∃ c, l[k]? = some c ∧ inC dgC c = true) := by
    intro l
    induction l with
    | nil => intro k hk; simp at hk ⊢
    | cons a l ih =>
      intro k hk
      rw [List.takeWhile_cons] at hk ⊢
      by_cases c : inC dgC a = true
      · rw [if_pos c] at hk ⊢
        cases k with
        | zero => simp [c]
        | succ k =>
          have := ih k (by simpa using hk)
          simp at this ⊢
          exact this
      · rw [if_neg c] at hk ⊢
        have hk0 : k = 0 := by simpa using hk
        subst hk0
        simp [c]
  have := key (t.drop s) (e - s) h2
  rw [List.getElem?_drop, show s + (e - s) = e by omega] at this
  exact this
theorem slice_dgs {t : List Nat} {s : Nat} : cutD t (some (s : Int)) (some ((s + (dgs t s).length : Nat) : Int)) = dgs t s := by
  rw [cut_both (by omega) (by omega)]
  rw [show ((s : Nat) : Int).toNat = s by omega, show ((s + (dgs t s).length : Nat) : Int).toNat - s = (dgs t s).length by omega]
  unfold dgs
  have e := List.takeWhile_prefix (inC dgC) (l := t.drop s)
  exact (List.prefix_iff_eq_take.mp e).symm
theorem num_ok {t : List Nat} {s : Nat} {h : LH} (hl : t.length ≤ 100000) (hs : s ≤ t.length) : L.f_decode_number [.str t, .int s] h = match pNum t s with
    | some (n, e) => .ok (.tup [.int n, .int e]) h
    | none => .exc BT0 h := by
  have hts : t.length ≤ 16777216 := by omega
  unfold L.f_decode_number
  rw [mkF_eq (by rfl)]
  unfold L.b_decode_number
  have key := loopW_gen (c := mTAnd (mTst (mOp dLt (mVar 2) (mApp dLen (mCons (mVar 0) mNil)))) (mTst (mOp dIn (mOp dIx (mVar 0) (mVar 2)) (mC (S "0123456789"))))) (b := sAug dIAdd 2 (mC (.int 1)))
    (fun e g => g = h ∧ ∃ q : Nat, e = [some (.str t), some (.int s), some (.int q), none] ∧ s ≤ q ∧ q - s ≤ (dgs t s).length)
    (fun r => r = .next [some (.str t), some (.int s), some (.int ((s + (dgs t s).length : Nat) : Int)), none] h)
    (fun e g => match e with
      | [_, _, some (.int q), _] => (t.length - q.toNat)
      | _ => 0) (by
      rintro e g ⟨rfl, q, rfl, hq, hq2⟩
      have hd := dgs_at hq hq2
      have dl := dgs_le t s
      by_cases c : q < t.length
      · have c' : (q : Int) < t.length := by omega
        have e0 : t[q]? = some t[q] := List.getElem?_eq_getElem c
        have ix : dIx (.str t) (.int q) g = .ok (.str [t[q]]) g := dIx_str hts (atI_of (by omega) (by rw [show ((q : Nat) : Int).toNat = q by omega]; exact e0))
        by_cases c2 : inC dgC t[q] = true
        · right
          have hlt := hd.mpr ⟨_, e0, c2⟩
          have c3 : t[q] ∈ dgC := of_decide_eq_true c2
          refine ⟨g, by simp [dLen_str hts, dLt_int, c', ix, S_ofD, dIn_chr, c3], ?_⟩
          have eb : (sAug dIAdd 2 (mC (.int 1))) [some (.str t), some (.int s), some (.int q), none] g = .next [some (.str t), some (.int s), some (.int ((q + 1 : Nat) : Int)), none] g := by
            have hI : dIAdd (.int q) (.int 1) g = .ok (.int ((q : Int) + 1)) g := rfl
            simp [hI]
          rw [eb]
          refine ⟨⟨rfl, q + 1, rfl, by omega, by omega⟩, ?_⟩
          show t.length - ((q + 1 : Nat) : Int).toNat < t.length - ((q : Nat) : Int).toNat
          omega
        · left
          have c3 : ¬ t[q] ∈ dgC := fun z => c2 (decide_eq_true z)
          have hlt : ¬ q - s < (dgs t s).length := fun z => by
            obtain ⟨c, ec, hc⟩ := hd.mp z
            rw [e0] at ec
            cases ec
            exact c2 hc
          refine ⟨g, by simp [dLen_str hts, dLt_int, c', ix, S_ofD, dIn_chr, c3], ?_⟩
          rw [show s + (dgs t s).length = q by omega]
      · left
        have c' : ¬ (q : Int) < t.length := by omega
        refine ⟨g, by simp [dLen_str hts, dLt_int, c'], ?_⟩
        rw [show s + (dgs t s).length = q by omega]) L.fuel [some (.str t), some (.int s), some (.int s), none] h ⟨rfl, s, rfl, Nat.le_refl _, by omega⟩ (by
      show t.length - ((s : Nat) : Int).toNat < 100000000
      omega)
  have hda := dgs_all t s
  have hsl := slice_dgs (t := t) (s := s)
  have hle := dgs_le t s
  have e48 := S_eq "0"
  simp at e48
  unfold pNum
  generalize dgs t s = ds at *
  obtain ⟨n, hn⟩ : ∃ n, ds.length = n := ⟨_, rfl⟩
  obtain ⟨E, hE⟩ : ∃ E, s + ds.length = E := ⟨_, rfl⟩
  rw [hE] at hsl key
  have hcount : (E : Int) - (s : Int) = (n : Nat) := by omega
  simp only [ev_seq]
  rw [show (sSet 2 (mVar 1)) (List.map some [D.str t, D.int s] ++ List.replicate (4 - 2) none) h = .next [some (.str t), some (.int s), some (.int s), none] h from by simp]
  simp only [ev_while, key]
  rw [hn]
  by_cases c0 : n = 0
  · rw [if_pos (.inl c0)]
    have : (n : Int) = 0 := by omega
    simp [dSub_int, hcount, dEq_int, this, sRaise]
  · have c0' : ¬ (n : Int) = 0 := by omega
    by_cases c20 : 20 < n
    · rw [if_pos (.inr c20)]
      have c20' : (20 : Int) < n := by omega
      simp [dSub_int, hcount, dEq_int, c0', c0, dGt_int, c20', sRaise]
    · have c20' : ¬ (20 : Int) < n := by omega
      rw [if_neg (by omega)]
      have hst : s < t.length := by omega
      have ix : dIx (.str t) (.int s) h = .ok (.str [t[s]]) h := dIx_str hts (atI_of (by omega) (by rw [show ((s : Nat) : Int).toNat = s by omega]; exact List.getElem?_eq_getElem hst))
      have i48 : t[s]? = some t[s] := List.getElem?_eq_getElem hst
      by_cases c1 : t[s] = 48 ∧ 1 < n
      · have c1' : (1 : Int) < n := by omega
        rw [if_pos ⟨by rw [i48, c1.1], c1.2⟩]
        simp [dSub_int, hcount, dEq_int, c0', c0, dGt_int, c20', ix, e48, dEq_str, c1.1, c1', sRaise]
      · rw [if_neg (fun z => c1 ⟨by rw [i48] at z; exact Option.some.inj z.1, z.2⟩)]
        have hsl' : dSl (.str t) (some (s : Int)) (some (E : Int)) h = .ok (.str ds) h := by rw [dSl_str hts, hsl]
        have hint : dIntS [.str ds] h = .ok (.int ((PySem.NumText.digitsVal ds : Nat) : Int)) h := by
          have e := PySem.intText_digits (x := ⟨ds.toArray⟩) (by simpa using hda) (by
            intro z
            have : ds.length = 0 := by
              have := congrArg List.length z
              simpa using this
            omega) (by
            show ds.toArray.size ≤ 4300
            rw [List.size_toArray]
            omega)
          show (match PySem.intText? ⟨ds.toArray⟩ with
            | some n => if ds.length ≤ 640 then Res.ok (D.int n) h else .bad
            | none => .bad) = _
          rw [e]
          have : ds.length ≤ 640 := by omega
          simp only [if_pos this]
        have hse : s + n = E := by omega
        rw [hse]
        by_cases q : t[s] = 48
        · have c1' : ¬ (1 : Int) < n := by
            intro z
            exact c1 ⟨q, by omega⟩
          simp [dSub_int, hcount, dEq_int, c0', c0, dGt_int, c20', ix, e48, dEq_str, q, c1', hsl', hint]
        · simp [dSub_int, hcount, dEq_int, c0', c0, dGt_int, c20', ix, e48, dEq_str, q, hsl', hint]
end HM
set_option Elab.async false
set_option linter.all false
set_option maxRecDepth 100000
set_option maxHeartbeats 4000000
namespace HM
open PySem L2
/-! ### decode_value, wholly -/
theorem pNum_le {t : List Nat} {s n e : Nat} (h : pNum t s = some (n, e)) : s < e ∧ e ≤ t.length := by
  unfold pNum at h
  have hl := dgs_le t s
  by_cases c : (dgs t s).length = 0 ∨ 20 < (dgs t s).length
  · rw [if_pos c] at h; cases h
  · rw [if_neg c] at h
    by_cases c2 : t[s]? = some 48 ∧ 1 < (dgs t s).length
    · rw [if_pos c2] at h; cases h
    · rw [if_neg c2] at h
      cases h
      omega
theorem pLeaf_le {t : List Nat} {s e : Nat} {d : D} (h : pLeaf t s = some (d, e)) : s < e ∧ e ≤ t.length := by
  unfold pLeaf at h
  cases q : pNum t s with
  | none => rw [q] at h; cases h
  | some p =>
    obtain ⟨n, e0⟩ := p
    rw [q] at h
    have hl := pNum_le q
    dsimp only at h
    by_cases c : t[e0]? = some 46
    · rw [if_pos c] at h
      have := lt_of_get c
      cases h
      omega
    · rw [if_neg c] at h
      by_cases c2 : t[e0]? = some 58 ∧ e0 + 1 + n ≤ t.length
      · rw [if_pos c2] at h
        by_cases c3 : allC ((t.drop (e0 + 1)).take n) = true
        · rw [if_pos c3] at h
          cases h
          omega
        · rw [if_neg c3] at h; cases h
      · rw [if_neg c2] at h; cases h
theorem pIts_le {t : List Nat} {f : Nat → Option (D × Nat)} (hf : ∀ s d e, f s = some (d, e) → s < e ∧ e ≤ t.length) : ∀ (k s : Nat) (xs : List D) (e : Nat), pIts f t k s = some (xs, e) → s < e ∧ e ≤ t.length := by
  intro k
  induction k with
  | zero => intro s xs e h; cases h
  | succ k ih =>
    intro s xs e h
    unfold pIts at h
    by_cases c : t[s]? = some 93
    · rw [if_pos c] at h
      have := lt_of_get c
      cases h
      omega
    · rw [if_neg c] at h
      cases q : f s with
      | none => rw [q] at h; cases h
      | some p =>
        obtain ⟨x, e1⟩ := p
        rw [q] at h
        dsimp only at h
        cases q2 : pIts f t k e1 with
        | none => rw [q2] at h; cases h
        | some p2 =>
          obtain ⟨ys, e2⟩ := p2
          rw [q2] at h
          cases h
          have h1 := hf _ _ _ q
          have h2 := ih _ _ _ q2
          omega
theorem pVal_le {t : List Nat} : ∀ (r s : Nat) (d : D) (e : Nat), pVal t r s = some (d, e) → s < e ∧ e ≤ t.length := by
  intro r
  induction r with
  | zero =>
    intro s d e h
    unfold pVal at h
    by_cases c : t[s]? = some 91
    · rw [if_pos c] at h; cases h
    · rw [if_neg c] at h; exact pLeaf_le h
  | succ r ih =>
    intro s d e h
    unfold pVal at h
    by_cases c : t[s]? = some 91
    · rw [if_pos c] at h
      cases q : pIts (pVal t r) t (t.length + 1) (s + 1) with
      | none => rw [q] at h; cases h
      | some p =>
        obtain ⟨xs, e1⟩ := p
        rw [q] at h
        cases h
        have := pIts_le ih _ _ _ _ q
        omega
    · rw [if_neg c] at h; exact pLeaf_le h
/-- the answer of a decoder -/
def dec (x : Option (D × Nat)) (h : LH) : Res D := match x with
  | some (d, e) => .ok (.tup [d, .int e]) h
  | none => .exc BT0 h
theorem slice1 {t : List Nat} {s : Nat} {h : LH} (hl : t.length ≤ 16777216) (c : Nat) : ∃ z, dSl (.str t) (some (s : Int)) (some ((s : Int) + 1)) h = .ok (.str z) h ∧ (z = [c] ↔ t[s]? = some c) := by
  refine ⟨_, dSl_str hl, cut_one c⟩
theorem leaf_ok {t : List Nat} {s n r : Nat} {h : LH} (hl : t.length ≤ 100000) (hs : s ≤ t.length) (h91 : ¬ t[s]? = some 91) : L.F_decode_value (n + 1) 0 [.str t, .int s, .int r] h = dec (pLeaf t s) h := by
  have hts : t.length ≤ 16777216 := by omega
  show mkF 3 7 (L.b_decode_value (L.F_decode_value n)) [.str t, .int s, .int r] h = _
  rw [mkF_eq (by rfl)]
  unfold L.b_decode_value
  have e91 := S_eq "["
  have e46 := S_eq "."
  have e58 := S_eq ":"
  simp at e91 e46 e58
  have w91 : ¬ cutD t (some (s : Int)) (some ((s : Int) + 1)) = [91] := fun z => h91 ((cut_one 91).mp z)
  have en := num_ok (t := t) (s := s) (h := h) hl hs
  simp only [ev_seq]
  unfold pLeaf
  cases q : pNum t s with
  | none =>
    rw [q] at en
    simp [dAdd_int, dSl_str hts, e91, dEq_str, w91, en, dec]
  | some p =>
    obtain ⟨m, e⟩ := p
    rw [q] at en
    have hle := pNum_le q
    have w46 := cut_one (p := t) (e := e) 46
    have w58 := cut_one (p := t) (e := e) 58
    dsimp only
    by_cases c1 : t[e]? = some 46
    · have w1 := w46.mpr c1
      rw [if_pos c1]
      simp [dAdd_int, dSl_str hts, e91, dEq_str, w91, en, tnSet, setAll, w1, e46, dec]
    · have w1 : ¬ cutD t (some (e : Int)) (some ((e : Int) + 1)) = [46] := fun z => c1 (w46.mp z)
      rw [if_neg c1]
      by_cases c2 : t[e]? = some 58
      · have w2 := w58.mpr c2
        by_cases c3 : e + 1 + m ≤ t.length
        · rw [if_pos ⟨c2, c3⟩]
          have c3' : ¬ (t.length : Int) < (e : Int) + 1 + (m : Int) := by omega
          have sl : cutD t (some ((e : Int) + 1)) (some ((e : Int) + 1 + (m : Int))) = (t.drop (e + 1)).take m := by
            rw [cut_both (by omega) (by omega), show ((e : Int) + 1).toNat = e + 1 by omega, show ((e : Int) + 1 + (m : Int)).toNat - (e + 1) = m by omega]
          have ep := printable_eq (d := .str ((t.drop (e + 1)).take m)) (h := h) (t := .str) rfl
          by_cases c4 : allC ((t.drop (e + 1)).take m) = true
          · rw [if_pos c4]
            simp [dAdd_int, dSl_str hts, e91, dEq_str, w91, en, tnSet, setAll, w1, e46, dNe_str, w2, e58, dLen_str hts, dGt_int, c3', sl, ep, isPr, c4, truD, dec]
          · rw [if_neg c4]
            simp [dAdd_int, dSl_str hts, e91, dEq_str, w91, en, tnSet, setAll, w1, e46, dNe_str, w2, e58, dLen_str hts, dGt_int, c3', sl, ep, isPr, c4, truD, dec, sRaise]
        · rw [if_neg (fun z => c3 z.2)]
          have c3' : (t.length : Int) < (e : Int) + 1 + (m : Int) := by omega
          simp [dAdd_int, dSl_str hts, e91, dEq_str, w91, en, tnSet, setAll, w1, e46, dNe_str, w2, e58, dLen_str hts, dGt_int, c3', dec, sRaise]
      · have w2 : ¬ cutD t (some (e : Int)) (some ((e : Int) + 1)) = [58] := fun z => c2 (w58.mp z)
        rw [if_neg (fun z => c2 z.1)]
        simp [dAdd_int, dSl_str hts, e91, dEq_str, w91, en, tnSet, setAll, w1, e46, dNe_str, w2, e58, dec, sRaise]
def lift (acc : List D) (x : Option (List D × Nat)) : Option (List D × Nat) := match x with
  | some (xs, e) => some (acc ++ xs, e)
  | none => none
def decL (x : Option (List D × Nat)) (h : LH) : Res D := match x with
  | some (xs, e) => .ok (.tup [.tup xs, .int e]) h
  | none => .exc BT0 h
theorem items_dec {t : List Nat} {r n : Nat} (hl : t.length ≤ 100000) (ih : ∀ (s : Nat) (h : LH), s ≤ t.length → ∃ h', Kp h h' ∧ L.F_decode_value n 0 [.str t, .int s, .int r] h = dec (pVal t r s) h') {s : Nat} {h : LH} (hs : s ≤ t.length) :
    ∃ h', Kp h h' ∧ L.F_decode_value (n + 1) 1 [.str t, .int s, .int r] h = decL (pIts (pVal t r) t (t.length + 1) s) h' := by
  have hts : t.length ≤ 16777216 := by omega
  show ∃ h', Kp h h' ∧ mkF 3 6 (L.b_decode_items (L.F_decode_value n)) [.str t, .int s, .int r] h = _
  rw [mkF_eq (by rfl)]
  unfold L.b_decode_items
  have e93 := S_eq "]"
  simp at e93
  obtain ⟨B, hB⟩ : ∃ B : MS, B = (sSeq (sTup [5, 4] (mApp (L.F_decode_value n 0) (mCons (mVar 0) (mCons (mVar 4) (mCons (mVar 2) mNil))))) (sExpr (mMet isLst dAppend (mVar 3) (mCons (mVar 5) mNil)))) := ⟨_, rfl⟩
  obtain ⟨G0, hG⟩ : ∃ G0, pIts (pVal t r) t (t.length + 1) s = G0 := ⟨_, rfl⟩
  have key := loopW_gen (c := mTst (mOp dNe (mSl (mVar 0) (mPart (mVar 4)) (mPart (mOp dAdd (mVar 4) (mC (.int 1))))) (mC (S "]")))) (b := B)
    (fun e g => Kp h g ∧ ∃ (at_ k : Nat) (acc : List D) (v5 : Option D), e = [some (.str t), some (.int s), some (.int r), some (.ref h.length), some (.int at_), v5] ∧ g[h.length]? = some (.lst acc) ∧ at_ ≤ t.length ∧ t.length - at_ < k ∧ acc.length ≤ at_ ∧ lift acc (pIts (pVal t r) t k at_) = G0)
    (fun q => (∃ (at_ : Nat) (acc : List D) (v5 : Option D) (g : LH), q = .next [some (.str t), some (.int s), some (.int r), some (.ref h.length), some (.int at_), v5] g ∧ Kp h g ∧ g[h.length]? = some (.lst acc) ∧ G0 = some (acc, at_ + 1)) ∨ ∃ e g, q = .exc BT0 e g ∧ Kp h g ∧ G0 = none)
    (fun e g => match e with
      | [_, _, _, _, some (.int q), _] => (t.length - q.toNat)
      | _ => 0) (by
      rintro e g ⟨K, a, k, acc, v5, rfl, hg, ha, hk, hacc, hL⟩
      have w := cut_one (p := t) (e := a) 93
      obtain ⟨k', rfl⟩ : ∃ k', k = k' + 1 := ⟨k - 1, by omega⟩
      unfold pIts at hL
      by_cases c : t[a]? = some 93
      · left
        rw [if_pos c] at hL
        refine ⟨g, by simp [dAdd_int, dSl_str hts, e93, dNe_str, w.mpr c], .inl ⟨a, acc, v5, g, rfl, K, hg, ?_⟩⟩
        rw [← hL]
        simp [lift]
      · right
        rw [if_neg c] at hL
        have w' : ¬ cutD t (some (a : Int)) (some ((a : Int) + 1)) = [93] := fun z => c (w.mp z)
        refine ⟨g, by simp [dAdd_int, dSl_str hts, e93, dNe_str, w'], ?_⟩
        obtain ⟨g1, K1, e1⟩ := ih a g ha
        cases q : pVal t r a with
        | none =>
          rw [q] at e1 hL
          have eb : B [some (.str t), some (.int s), some (.int r), some (.ref h.length), some (.int a), v5] g = .exc BT0 [some (.str t), some (.int s), some (.int r), some (.ref h.length), some (.int a), v5] g1 := by
            subst hB
            rw [ev_seq]
            simp [e1, dec]
          rw [eb]
          exact .inr ⟨_, _, rfl, K.trans K1, hL.symm⟩
        | some p =>
          obtain ⟨d, e2⟩ := p
          rw [q] at e1 hL
          have hle := pVal_le _ _ _ _ q
          have hg1 := K1.get hg
          have ap : dAppend (.ref h.length) [d] g1 = .ok .non (g1.set h.length (.lst (acc ++ [d]))) := dAppend_ref hg1 (by omega)
          have eb : B [some (.str t), some (.int s), some (.int r), some (.ref h.length), some (.int a), v5] g = .next [some (.str t), some (.int s), some (.int r), some (.ref h.length), some (.int e2), some d] (g1.set h.length (.lst (acc ++ [d]))) := by
            subst hB
            rw [ev_seq]
            simp [e1, dec, tnSet, setAll, isLst_ref hg1, ap]
          rw [eb]
          refine ⟨⟨(K.trans K1).set (Nat.le_refl _), e2, k', acc ++ [d], _, rfl, ?_, hle.2, by omega, by simp; omega, ?_⟩, ?_⟩
          · rw [List.getElem?_set_self (lt_of_get hg1)]
          · rw [← hL]
            dsimp only
            cases pIts (pVal t r) t k' e2 with
            | none => rfl
            | some p =>
              obtain ⟨ys, e3⟩ := p
              show some (acc ++ [d] ++ ys, e3) = some (acc ++ (d :: ys), e3)
              simp
          · show t.length - ((e2 : Nat) : Int).toNat < t.length - ((a : Nat) : Int).toNat
            omega) L.fuel [some (.str t), some (.int s), some (.int r), some (.ref h.length), some (.int s), none] (h ++ [.lst []])
    ⟨Kp.push h _, s, t.length + 1, [], none, rfl, by simp, hs, by omega, Nat.zero_le _, by
      rw [← hG]
      cases pIts (pVal t r) t (t.length + 1) s with
      | none => rfl
      | some p => rfl⟩ (by
    show t.length - ((s : Nat) : Int).toNat < 100000000
    omega)
  subst hB
  rw [hG]
  simp only [ev_seq]
  rcases key with ⟨a, acc, v5, g, er, K, hg, hq⟩ | ⟨e, g, er, K, hq⟩
  · refine ⟨g, K, ?_⟩
    have et : dTuple [.ref h.length] g = .ok (.tup acc) g := by
      show (match seqD (.ref h.length) g with
        | some ys => Res.ok (D.tup ys) g
        | none => .bad) = _
      have : seqD (.ref h.length) g = some acc := by
        show (match g[h.length]? with
          | some (.lst xs) => some xs
          | _ => none) = _
        rw [hg]
      rw [this]
    rw [hq]
    simp [er, et, dAdd_int, decL]
  · refine ⟨g, K, ?_⟩
    rw [hq]
    simp [er, decL]
theorem value_dec {t : List Nat} (hl : t.length ≤ 100000) : ∀ (r n : Nat), 2 * r + 1 ≤ n → ∀ (s : Nat) (h : LH), s ≤ t.length → ∃ h', Kp h h' ∧ L.F_decode_value n 0 [.str t, .int s, .int r] h = dec (pVal t r s) h' := by
  have hts : t.length ≤ 16777216 := by omega
  have e91 := S_eq "["
  simp at e91
  intro r
  induction r with
  | zero =>
    intro n hn s h hs
    obtain ⟨m, rfl⟩ : ∃ m, n = m + 1 := ⟨n - 1, by omega⟩
    refine ⟨h, Kp.refl h, ?_⟩
    by_cases c : t[s]? = some 91
    · show mkF 3 7 (L.b_decode_value (L.F_decode_value m)) [.str t, .int s, .int (0 : Nat)] h = _
      rw [mkF_eq (by rfl)]
      unfold L.b_decode_value
      have w := (cut_one (p := t) (e := s) 91).mpr c
      unfold pVal
      rw [if_pos c]
      simp only [ev_seq]
      simp [dAdd_int, dSl_str hts, e91, dEq_str, w, dEq_int, ev_seq, sRaise, dec]
    · rw [leaf_ok hl hs c]
      unfold pVal
      rw [if_neg c]
  | succ r ih =>
    intro n hn s h hs
    obtain ⟨m, rfl⟩ : ∃ m, n = m + 2 := ⟨n - 2, by omega⟩
    by_cases c : t[s]? = some 91
    · have hlt := lt_of_get c
      obtain ⟨h', K, ei⟩ := items_dec (s := s + 1) (h := h) hl (fun s h hs => ih m (by omega) s h hs) (by omega)
      refine ⟨h', K, ?_⟩
      show mkF 3 7 (L.b_decode_value (L.F_decode_value (m + 1))) [.str t, .int s, .int ((r + 1 : Nat) : Int)] h = _
      rw [mkF_eq (by rfl)]
      unfold L.b_decode_value
      have w := (cut_one (p := t) (e := s) 91).mpr c
      unfold pVal
      rw [if_pos c]
      have n0 : ¬ ((r : Int) + 1 = 0) := by omega
      have n1 : (r : Int) + 1 - 1 = r := by omega
      simp at ei
      simp only [ev_seq]
      cases q : pIts (pVal t r) t (t.length + 1) (s + 1) with
      | none =>
        rw [q] at ei
        simp [dAdd_int, dSl_str hts, e91, dEq_str, w, dEq_int, ev_seq, n0, dSub_int, n1, ei, decL, dec]
      | some p =>
        obtain ⟨xs, e⟩ := p
        rw [q] at ei
        simp [dAdd_int, dSl_str hts, e91, dEq_str, w, dEq_int, ev_seq, n0, dSub_int, n1, ei, decL, dec]
    · refine ⟨h, Kp.refl h, ?_⟩
      rw [leaf_ok hl hs c]
      unfold pVal
      rw [if_neg c]
end HM
set_option Elab.async false
set_option linter.all false
set_option maxRecDepth 100000
set_option maxHeartbeats 4000000
namespace HM
open PySem L2
/-! ### decode, wholly; the parser reads back what is written -/
def decD (d : D) : Option D := match d with
  | .str t => if t.length ≤ 100000 then (match pVal t 8 0 with
    | some (v, e) => if e = t.length then some v else none
    | none => none) else none
  | _ => none
theorem decode_eq {d : D} {h : LH} {ty : BT} (ht : tyD d h = some ty) (hsl : ∀ s, d = .str s → s.length ≤ 1000000) : ∃ h', Kp h h' ∧ L.f_decode [d] h = match decD d with
    | some v => .ok v h'
    | none => .exc BT0 h' := by
  unfold L.f_decode
  rw [mkF_eq (by rfl)]
  unfold L.b_decode
  by_cases c : ty = .str
  · subst c
    obtain ⟨t, rfl⟩ := tyD_str ht
    have hl := hsl t rfl
    have hts : t.length ≤ 16777216 := by omega
    by_cases c1 : t.length ≤ 100000
    · have c1' : ¬ (100000 : Int) < t.length := by omega
      obtain ⟨h', K, e⟩ := value_dec c1 8 24 (by decide) 0 h (Nat.zero_le _)
      have e' : L.f_decode_value [.str t, .int 0, .int 8] h = dec (pVal t 8 0) h' := e
      refine ⟨h', K, ?_⟩
      unfold decD
      simp only [if_pos c1]
      simp only [ev_seq]
      cases q : pVal t 8 0 with
      | none =>
        rw [q] at e'
        simp [tyD, isB, truD, dLen_str hts, dGt_int, c1', e', dec]
      | some p =>
        obtain ⟨v, e2⟩ := p
        rw [q] at e'
        by_cases c2 : e2 = t.length
        · have c2' : (e2 : Int) = t.length := by omega
          simp [tyD, isB, truD, dLen_str hts, dGt_int, c1', e', dec, tnSet, setAll, dNe_int, c2]
        · have c2' : ¬ (e2 : Int) = t.length := by omega
          simp [tyD, isB, truD, dLen_str hts, dGt_int, c1', e', dec, tnSet, setAll, dNe_int, c2, c2', sRaise]
    · have c1' : (100000 : Int) < t.length := by omega
      refine ⟨h, Kp.refl h, ?_⟩
      unfold decD
      simp only [if_neg c1]
      simp only [ev_seq]
      simp [tyD, isB, truD, dLen_str hts, dGt_int, c1', sRaise]
  · have hn : decD d = none := by
      cases d <;> simp [decD, tyD] at ht ⊢
      exact absurd ht.symm c
    refine ⟨h, Kp.refl h, ?_⟩
    rw [hn]
    simp only [ev_seq]
    have : isB ty .str = false := by cases ty <;> simp [isB] at c ⊢
    simp [ht, this, truD, sRaise]
/-! digits -/
theorem strI_all (n : Nat) : PySem.NumText.AllDigits (strI (n : Int)) := by
  rw [strI_pos]
  induction n using Nat.strongRecOn with
  | _ n ih =>
    have hd : ∀ d, d < 10 → 48 ≤ (Nat.digitChar d).toNat ∧ (Nat.digitChar d).toNat ≤ 57 := by decide
    by_cases c : n < 10
    · rw [Nat.toDigits_of_lt_base c]
      intro x hx
      rw [List.mem_singleton.mp hx]
      exact hd n c
    · rw [Nat.toDigits_of_base_le (by decide) (by omega)]
      intro x hx
      rw [List.map_append] at hx
      rcases List.mem_append.mp hx with hx | hx
      · exact ih (n / 10) (by omega) x hx
      · rw [List.mem_singleton.mp hx]
        exact hd _ (Nat.mod_lt _ (by decide))
theorem strI_val (n : Nat) : PySem.NumText.digitsVal (strI (n : Int)) = n := by
  rw [strI_pos]
  exact PySem.W.KIN.val_back n
theorem strI_ne (n : Nat) : 0 < (strI (n : Int)).length := by
  rw [strI_pos, List.length_map]
  exact PyProof.Rows.tDigits_len_ge 10 n
theorem val_lt : ∀ (cs : List Nat), PySem.NumText.AllDigits cs → PySem.NumText.digitsVal cs < 10 ^ cs.length := by
  intro cs h
  have key : ∀ (cs : List Nat) (a : Nat), PySem.NumText.AllDigits cs → cs.foldl (fun acc c => acc * 10 + (c - 48)) a < (a + 1) * 10 ^ cs.length := by
    intro cs
    induction cs with
    | nil => intro a _; simp
    | cons c cs ih =>
      intro a h
      have h1 := h.head
      have := ih (a * 10 + (c - 48)) h.tail
      rw [List.foldl_cons, List.length_cons, Nat.pow_succ]
      refine Nat.lt_of_lt_of_le this ?_
      have : a * 10 + (c - 48) + 1 ≤ (a + 1) * 10 := by omega
      calc (a * 10 + (c - 48) + 1) * 10 ^ cs.length ≤ ((a + 1) * 10) * 10 ^ cs.length := Nat.mul_le_mul_right _ this
        _ = (a + 1) * (10 ^ cs.length * 10) := by rw [Nat.mul_assoc, Nat.mul_comm 10]
  have := key cs 0 h
  simpa [PySem.NumText.digitsVal] using this
theorem strI_head {n : Nat} {cs : List Nat} (h : strI (n : Int) = 48 :: cs) : cs = [] := by
  have hv := strI_val n
  have ha := strI_all n
  rw [h] at hv ha
  have h2 := val_lt cs ha.tail
  rw [PySem.NumText.digitsVal_zero] at hv
  cases cs with
  | nil => rfl
  | cons c cs =>
    rw [hv] at h2
    have h3 := (Nat.length_toDigits_le_iff (n := n) (b := 10) (k := (c :: cs).length) (by decide) (by simp)).mpr h2
    have h4 : (strI (n : Int)).length = (Nat.toDigits 10 n).length := by rw [strI_pos, List.length_map]
    rw [h] at h4
    simp at h3 h4
    omega
/-! what is written is read back -/
theorem drop_app {t a u : List Nat} {s : Nat} (h : t.drop s = a ++ u) : t.drop (s + a.length) = u := by
  rw [← List.drop_drop, h, List.drop_left]
theorem drop_len {t a u : List Nat} {s : Nat} (h : t.drop s = a ++ u) (ha : 0 < a.length) : s + a.length + u.length = t.length := by
  have := congrArg List.length h
  rw [List.length_drop, List.length_append] at this
  omega
theorem drop_get {t u : List Nat} {s c : Nat} (h : t.drop s = c :: u) : t[s]? = some c := by
  have := congrArg (fun l => l[0]?) h
  simpa using this
theorem pNum_enc {t u : List Nat} {s n c : Nat} (hn : n < 10 ^ 20) (h : t.drop s = strI (n : Int) ++ c :: u) (hc : inC dgC c = false) : pNum t s = some (n, s + (strI (n : Int)).length) := by
  have hd : dgs t s = strI (n : Int) := by
    unfold dgs
    rw [h, List.takeWhile_append_of_pos (fun x hx => dg_iff.mpr (strI_all n x hx)), List.takeWhile_cons, hc]
    simp
  have h1 := strI_ne n
  have h2 := strI_len hn
  unfold pNum
  rw [hd, if_neg (by omega)]
  rw [if_neg, strI_val]
  rintro ⟨z1, z2⟩
  cases e : strI (n : Int) with
  | nil => rw [e] at h1; simp at h1
  | cons a cs =>
    rw [e] at h
    have := drop_get (u := cs ++ c :: u) h
    rw [this] at z1
    cases z1
    have := strI_head e
    rw [e, this] at z2
    simp at z2
theorem strI_cons (n : Nat) : ∃ c cs, strI (n : Int) = c :: cs ∧ 48 ≤ c ∧ c ≤ 57 := by
  have h1 := strI_ne n
  have h2 := strI_all n
  cases e : strI (n : Int) with
  | nil => rw [e] at h1; simp at h1
  | cons a cs =>
    rw [e] at h2
    exact ⟨a, cs, rfl, h2.head⟩
theorem int_nat {i : Int} {r : Nat} (h : plainD r (.int i) = true) : ∃ k : Nat, i = k ∧ k < 10 ^ 20 := by
  have : (0 ≤ i ∧ i ≤ 99999999999999999999) := by cases r <;> simpa [plainD] using h
  exact ⟨i.toNat, by omega, by omega⟩
theorem encD_head {r : Nat} {d : D} (h : plainD r d = true) : ∃ c cs, encD d = c :: cs ∧ ((48 ≤ c ∧ c ≤ 57) ∨ c = 91) := by
  cases d with
  | str s =>
    obtain ⟨c, cs, e, hc⟩ := strI_cons s.length
    exact ⟨c, cs ++ 58 :: s, by rw [encD_str, e]; rfl, .inl hc⟩
  | int i =>
    obtain ⟨k, rfl, _⟩ := int_nat h
    obtain ⟨c, cs, e, hc⟩ := strI_cons k
    exact ⟨c, cs ++ [46], by rw [encD_int, e]; rfl, .inl hc⟩
  | tup xs => exact ⟨91, encL xs ++ [93], by rw [encD_tup], .inr rfl⟩
  | _ => cases r <;> simp [plainD] at h
theorem leaf_enc {t u : List Nat} {r s : Nat} {d : D} (hl : t.length ≤ 100000) (hp : plainD r d = true) (hd : ∀ xs, d ≠ .tup xs) (h : t.drop s = encD d ++ u) : ¬ t[s]? = some 91 ∧ pLeaf t s = some (d, s + (encD d).length) := by
  cases d with
  | str z =>
    have hz : allC z = true := by cases r <;> exact hp
    rw [encD_str] at h
    have h0 : t.drop s = strI (z.length : Int) ++ 58 :: (z ++ u) := by rw [h]; simp
    have hlen := drop_len h0 (strI_ne _)
    simp at hlen
    obtain ⟨c, cs, e, hc⟩ := strI_cons z.length
    have hn := pNum_enc (n := z.length) (by omega) h0 (by decide +kernel)
    have h1 := drop_app h0
    have g58 := drop_get h1
    have h2 : t.drop (s + (strI (z.length : Int)).length + 1) = z ++ u := by
      have := drop_app (a := [58]) (u := z ++ u) h1
      exact this
    refine ⟨?_, ?_⟩
    · rw [e] at h0
      rw [drop_get (u := cs ++ 58 :: (z ++ u)) h0]
      intro q
      cases q
      omega
    · unfold pLeaf
      rw [hn]
      dsimp only
      rw [if_neg (by rw [g58]; decide), if_pos ⟨g58, by omega⟩, h2, List.take_left, if_pos hz, encD_str]
      simp
      omega
  | int i =>
    obtain ⟨k, rfl, hk⟩ := int_nat hp
    rw [encD_int] at h
    have h0 : t.drop s = strI (k : Int) ++ 46 :: u := by rw [h]; simp
    obtain ⟨c, cs, e, hc⟩ := strI_cons k
    have hn := pNum_enc (n := k) hk h0 (by decide +kernel)
    have g46 := drop_get (drop_app h0)
    refine ⟨?_, ?_⟩
    · rw [e] at h0
      rw [drop_get (u := cs ++ 46 :: u) h0]
      intro q
      cases q
      omega
    · unfold pLeaf
      rw [hn]
      dsimp only
      rw [if_pos g46, encD_int]
      simp
      omega
  | tup xs => exact absurd rfl (hd xs)
  | _ => cases r <;> simp [plainD] at hp
theorem pIts_enc {t : List Nat} {r : Nat} {f : Nat → Option (D × Nat)} (hf : ∀ d s u, plainD r d = true → t.drop s = encD d ++ u → f s = some (d, s + (encD d).length)) :
    ∀ (xs : List D) (k s : Nat) (u : List Nat), xs.all (plainD r) = true → t.drop s = encL xs ++ 93 :: u → t.length - s < k → pIts f t k s = some (xs, s + (encL xs).length + 1) := by
  intro xs
  induction xs with
  | nil =>
    intro k s u _ h hk
    obtain ⟨k', rfl⟩ : ∃ k', k = k' + 1 := ⟨k - 1, by omega⟩
    rw [encL] at h ⊢
    unfold pIts
    rw [if_pos (drop_get h)]
    rfl
  | cons x xs ih =>
    intro k s u hp h hk
    obtain ⟨k', rfl⟩ : ∃ k', k = k' + 1 := ⟨k - 1, by omega⟩
    simp only [List.all_cons, Bool.and_eq_true] at hp
    rw [encL] at h ⊢
    have h0 : t.drop s = encD x ++ (encL xs ++ 93 :: u) := by rw [h]; simp
    have hl := drop_len h0 (encD_pos r x hp.1)
    have hpos := encD_pos r x hp.1
    obtain ⟨c, cs, e, hc⟩ := encD_head hp.1
    have n93 : ¬ t[s]? = some 93 := by
      rw [e] at h0
      rw [drop_get (u := cs ++ (encL xs ++ 93 :: u)) h0]
      intro q
      cases q
      omega
    unfold pIts
    rw [if_neg n93, hf x s _ hp.1 h0]
    dsimp only
    rw [ih k' (s + (encD x).length) u hp.2 (drop_app h0) (by omega)]
    simp
    omega
theorem parse_enc {t : List Nat} (hl : t.length ≤ 100000) : ∀ (r : Nat) (d : D) (s : Nat) (u : List Nat), plainD r d = true → t.drop s = encD d ++ u → pVal t r s = some (d, s + (encD d).length) := by
  intro r
  induction r with
  | zero =>
    intro d s u hp h
    have hd : ∀ xs, d ≠ .tup xs := by
      intro xs e
      subst e
      simp [plainD] at hp
    obtain ⟨h1, h2⟩ := leaf_enc hl hp hd h
    unfold pVal
    rw [if_neg h1, h2]
  | succ r ih =>
    intro d s u hp h
    by_cases c : ∃ xs, d = .tup xs
    · obtain ⟨xs, rfl⟩ := c
      rw [encD_tup] at h
      have h0 : t.drop s = 91 :: (encL xs ++ 93 :: u) := by rw [h]; simp
      have h1 : t.drop (s + 1) = encL xs ++ 93 :: u := drop_app (a := [91]) h0
      unfold pVal
      rw [if_pos (drop_get h0), pIts_enc ih xs (t.length + 1) (s + 1) u (by simpa [plainD] using hp) h1 (by omega), encD_tup]
      simp
      omega
    · obtain ⟨h1, h2⟩ := leaf_enc hl hp (fun xs e => c ⟨xs, e⟩) h
      unfold pVal
      rw [if_neg h1, h2]
theorem decD_enc {d : D} (h : encOk 8 d = true) : decD (.str (encD d)) = some d := by
  unfold encOk at h
  simp only [Bool.and_eq_true, decide_eq_true_eq] at h
  have := parse_enc (t := encD d) h.2 8 d 0 [] h.1 (by simp)
  unfold decD
  simp only [if_pos h.2, this]
  simp
end HM
set_option Elab.async false
set_option linter.all false
set_option maxRecDepth 100000
set_option maxHeartbeats 4000000
namespace HM
open PySem L2
/-! ### the law's own text of a value, and its comparison -/
theorem encL_mem {xs : List D} {x : D} (h : x ∈ xs) : (encD x).length ≤ (encL xs).length := by
  induction xs with
  | nil => cases h
  | cons a xs ih =>
    rw [encL, List.length_append]
    rcases List.mem_cons.mp h with rfl | h
    · omega
    · have := ih h
      omega
theorem encL_cnt {r : Nat} : ∀ {xs : List D}, (∀ x ∈ xs, plainD r x = true) → xs.length ≤ (encL xs).length
  | [], _ => by simp
  | x :: xs, h => by
    rw [encL, List.length_append]
    have h1 := encD_pos r x (h x (by simp))
    have h2 := encL_cnt (xs := xs) fun y hy => h y (List.mem_cons_of_mem _ hy)
    simp
    omega
theorem text_core {r n : Nat} {d : D} {h : LH} (hp : plainD r d = true) (hl : (encD d).length ≤ 16000000)
    (H : ∀ xs r', d = .tup xs → r = r' + 1 → ∀ x ∈ xs, ∀ g, ∃ h', Kp g h' ∧ L.F__law_text n 0 [x] g = .ok (.str (encD x)) h') :
    ∃ h', Kp h h' ∧ L.F__law_text (n + 1) 0 [d] h = .ok (.str (encD d)) h' := by
  show ∃ h', Kp h h' ∧ mkF 1 2 (L.b__law_text (L.F__law_text n)) [d] h = _
  rw [mkF_eq (by rfl)]
  unfold L.b__law_text
  cases d with
  | str s =>
    rw [encD_str] at hl ⊢
    have ec := S_eq ":"
    simp at ec
    simp at hl
    have hs : s.length ≤ 16777216 := by omega
    have sl := strI_len (n := s.length) (by omega)
    have ds : dStr [.int ((s.length : Nat) : Int)] h = .ok (.str (strI s.length)) h := dStr_int (by omega)
    have a1 : dAdd (.str (strI s.length)) (.str [58]) h = .ok (.str (strI s.length ++ [58])) h := dAdd_str (by simp; omega)
    have a2 : dAdd (.str (strI s.length ++ [58])) (.str s) h = .ok (.str (strI s.length ++ 58 :: s)) h := by
      rw [dAdd_str (by simp; omega)]
      simp
    refine ⟨h, Kp.refl h, ?_⟩
    simp only [ev_seq]
    simp [tyD, isB, truD, dLen_str hs, ds, ec, a1, a2]
  | int i =>
    obtain ⟨k, rfl, hk⟩ := int_nat hp
    have ec := S_eq "."
    simp at ec
    have sl := strI_len (n := k) hk
    have ds : dStr [.int ((k : Nat) : Int)] h = .ok (.str (strI k)) h := dStr_int (by omega)
    have a1 : dAdd (.str (strI k)) (.str [46]) h = .ok (.str (encD (.int k))) h := by
      rw [dAdd_str (by simp; omega), encD_int]
    refine ⟨h, Kp.refl h, ?_⟩
    simp only [ev_seq]
    simp [tyD, isB, truD, ds, ec, a1]
  | tup xs =>
    cases r with
    | zero => simp [plainD] at hp
    | succ r =>
      have hx : ∀ x ∈ xs, plainD r x = true := by
        have : xs.all (plainD r) = true := hp
        exact List.all_eq_true.mp this
      have cnt := encL_cnt hx
      rw [tup_len] at hl
      have e1 := S_eq "["
      have e2 := S_eq "]"
      simp at e1 e2
      obtain ⟨acc, g, eC, K, hg, ha⟩ := loopC_gen (g := itL xs) (t := .nm 1) (c := mYes) (y := mApp (L.F__law_text n 0) (mCons (mVar 1) mNil)) (e := [some (.tup xs), none]) (k := h.length) (N := xs.length) (fun j => xs.getD j .non)
        (fun j acc g => Kp h g ∧ g[h.length]? = some (.lst acc) ∧ acc = ((xs.take j).map encD).map D.str)
        (fun j acc g hj hi => by
          unfold itL
          by_cases c : j < xs.length
          · rw [if_pos c, List.getD_eq_getElem?_getD, List.getElem?_eq_getElem c]; rfl
          · rw [if_neg c, List.getElem?_eq_none (by omega)])
        (fun j acc g hj hi => hi.2.1) (by
          rintro j acc g hj ⟨K, hg, ha⟩
          have ej : xs[j]? = some (xs.getD j .non) := by rw [List.getD_eq_getElem?_getD, List.getElem?_eq_getElem hj]; rfl
          have et : xs.take (j + 1) = xs.take j ++ [xs.getD j .non] := by rw [List.take_succ, ej]; rfl
          obtain ⟨g1, K1, ex⟩ := H xs r rfl rfl _ (List.mem_of_getElem? ej) g
          have hg1 := K1.get hg
          refine ⟨_, rfl, .inr ⟨g, .str (encD (xs.getD j .non)), g1, acc, rfl, ?_, hg1, ?_, (K.trans K1).set (Nat.le_refl _), ?_, ?_⟩⟩
          · generalize xs.getD j .non = z at *
            simp [ex]
          · rw [ha, List.length_map, List.length_map, List.length_take]; omega
          · rw [List.getElem?_set_self (lt_of_get hg1)]
          · rw [et, ha]; simp) xs.length 0 [] (h ++ [.lst []]) (by omega) ⟨Kp.push h _, by simp, rfl⟩
      rw [List.take_length] at ha
      subst ha
      have hj := dJoin_ref (a := []) hg (by
        have : ((xs.map encD).map (·.length)).sum = (encL xs).length := by
          rw [encL_eq, List.length_flatten]
        rw [this]
        simp
        omega)
      rw [joinL_nil, ← encL_eq] at hj
      have a1 : dAdd (.str [91]) (.str (encL xs)) g = .ok (.str (91 :: encL xs)) g := dAdd_str (by simp; omega)
      have a2 : dAdd (.str (91 :: encL xs)) (.str [93]) g = .ok (.str (encD (.tup xs))) g := by
        rw [dAdd_str (by simp; omega), encD_tup]
        simp
      refine ⟨g, K, ?_⟩
      simp only [ev_seq]
      simp [tyD, isB, truD, e1, S_nil, isStr, wipeM, eC, hj, a1, e2, a2]
  | _ => cases r <;> simp [plainD] at hp
theorem text_ok : ∀ (r n : Nat), r + 1 ≤ n → ∀ (d : D) (h : LH), plainD r d = true → (encD d).length ≤ 16000000 → ∃ h', Kp h h' ∧ L.F__law_text n 0 [d] h = .ok (.str (encD d)) h' := by
  intro r
  induction r with
  | zero =>
    intro n hn d h hp hl
    obtain ⟨m, rfl⟩ : ∃ m, n = m + 1 := ⟨n - 1, by omega⟩
    exact text_core hp hl fun xs r' _ z => absurd z (by omega)
  | succ r ih =>
    intro n hn d h hp hl
    obtain ⟨m, rfl⟩ : ∃ m, n = m + 1 := ⟨n - 1, by omega⟩
    refine text_core hp hl fun xs r' hx hr x hm g => ?_
    subst hx
    have e : r' = r := by omega
    subst e
    have hx : ∀ x ∈ xs, plainD r' x = true := by
      have : xs.all (plainD r') = true := hp
      exact List.all_eq_true.mp this
    rw [tup_len] at hl
    exact ih m (by omega) x g (hx x hm) (by have := encL_mem hm; omega)
def eqD : Nat → D → D → Bool
  | _, .str s, .str t => decide (s = t)
  | _, .int i, .int j => decide (i = j)
  | r + 1, .tup xs, .tup ys => decide (xs.length = ys.length) && (xs.zip ys).all (fun p => eqD r p.1 p.2)
  | _, _, _ => false
theorem same_core {r n : Nat} {a b : D} {h : LH} (ha : plainD r a = true) (hb : plainD r b = true) (hl : (encD b).length ≤ 16000000)
    (H : ∀ xs ys r', a = .tup xs → b = .tup ys → r = r' + 1 → ∀ x y, x ∈ xs → y ∈ ys → L.F__law_same n 0 [x, y] h = .ok (.bl (eqD r' x y)) h) :
    L.F__law_same (n + 1) 0 [a, b] h = .ok (.bl (eqD r a b)) h := by
  show mkF 2 3 (L.b__law_same (L.F__law_same n)) [a, b] h = _
  rw [mkF_eq (by rfl)]
  unfold L.b__law_same
  have kinds : ∀ {d : D}, plainD r d = true → (∃ s, d = .str s) ∨ (∃ i, d = .int i) ∨ ∃ xs r', d = .tup xs ∧ r = r' + 1 := by
    intro d hd
    cases d with
    | str s => exact .inl ⟨s, rfl⟩
    | int i => exact .inr (.inl ⟨i, rfl⟩)
    | tup xs =>
      cases r with
      | zero => simp [plainD] at hd
      | succ r => exact .inr (.inr ⟨xs, r, rfl, rfl⟩)
    | _ => cases r <;> simp [plainD] at hd
  have dis : ∀ x : D, ∀ g, dIs x .non g = .ok (.bl (dIsN x)) g := fun _ _ => rfl
  rcases kinds hb with ⟨t, rfl⟩ | ⟨j, rfl⟩ | ⟨ys, r', rfl, rfl⟩
  · rcases kinds ha with ⟨s, rfl⟩ | ⟨i, rfl⟩ | ⟨xs, r', rfl, hr⟩
    · have e : eqD r (.str s) (.str t) = decide (s = t) := by cases r <;> rfl
      rw [e]
      simp only [ev_seq]
      simp [tyD, isB, truD, dis, dIsN, dEq_str]
    · have e : eqD r (.int i) (.str t) = false := by cases r <;> rfl
      rw [e]
      simp only [ev_seq]
      simp [tyD, isB, truD, dis, dIsN]
    · have e : eqD r (.tup xs) (.str t) = false := by cases r <;> rfl
      rw [e]
      simp only [ev_seq]
      simp [tyD, isB, truD, dis, dIsN]
  · rcases kinds ha with ⟨s, rfl⟩ | ⟨i, rfl⟩ | ⟨xs, r', rfl, hr⟩
    · have e : eqD r (.str s) (.int j) = false := by cases r <;> rfl
      rw [e]
      simp only [ev_seq]
      simp [tyD, isB, truD, dis, dIsN]
    · have e : eqD r (.int i) (.int j) = decide (i = j) := by cases r <;> rfl
      rw [e]
      simp only [ev_seq]
      simp [tyD, isB, truD, dis, dIsN, dEq_int]
    · have e : eqD r (.tup xs) (.int j) = false := by cases r <;> rfl
      rw [e]
      simp only [ev_seq]
      simp [tyD, isB, truD, dis, dIsN]
  · rcases kinds ha with ⟨s, rfl⟩ | ⟨i, rfl⟩ | ⟨xs, r2, rfl, hr⟩
    · have e : eqD (r' + 1) (.str s) (.tup ys) = false := rfl
      rw [e]
      simp only [ev_seq]
      simp [tyD, isB, truD, ev_seq]
    · have e : eqD (r' + 1) (.int i) (.tup ys) = false := rfl
      rw [e]
      simp only [ev_seq]
      simp [tyD, isB, truD, ev_seq]
    · have e : eqD (r' + 1) (.tup xs) (.tup ys) = (decide (xs.length = ys.length) && (xs.zip ys).all (fun p => eqD r' p.1 p.2)) := rfl
      rw [e]
      have hy : ∀ x ∈ ys, plainD r' x = true := by
        have : ys.all (plainD r') = true := hb
        exact List.all_eq_true.mp this
      by_cases c : xs.length = ys.length
      · have c' : (xs.length : Int) = ys.length := by omega
        obtain ⟨B, hB⟩ : ∃ B : MS, B = sIf (mTNot (mTru (mApp (L.F__law_same n 0) (mCons (mOp dIx (mVar 0) (mVar 2)) (mCons (mOp dIx (mVar 1) (mVar 2)) mNil))))) (sRet (mC (.bl false))) sNil := ⟨_, rfl⟩
        obtain ⟨G0, hG⟩ : ∃ G0, (xs.zip ys).all (fun p => eqD r' p.1 p.2) = G0 := ⟨_, rfl⟩
        have key := loopF_gen (g := itN ys.length) (t := .nm 2) (body := B) (N := ys.length) (fun j => .int (j : Nat))
          (fun j e g => g = h ∧ (∃ v, e = [some (.tup xs), some (.tup ys), v]) ∧ ((xs.drop j).zip (ys.drop j)).all (fun p => eqD r' p.1 p.2) = G0)
          (fun q => (∃ e, q = .next e h ∧ G0 = true) ∨ (q = .ret (.bl false) h ∧ G0 = false))
          (fun j e g hj hi => rfl) (by
            rintro j e g hj ⟨rfl, ⟨v, rfl⟩, hm⟩
            have jx : j < xs.length := by omega
            rw [List.drop_eq_getElem_cons jx, List.drop_eq_getElem_cons hj, List.zip_cons_cons, List.all_cons] at hm
            have ix1 : dIx (.tup xs) (.int (j : Nat)) g = .ok xs[j] g := dIx_tup (atI_of (by omega) (by rw [show ((j : Nat) : Int).toNat = j by omega]; exact List.getElem?_eq_getElem jx))
            have ix2 : dIx (.tup ys) (.int (j : Nat)) g = .ok ys[j] g := dIx_tup (atI_of (by omega) (by rw [show ((j : Nat) : Int).toNat = j by omega]; exact List.getElem?_eq_getElem hj))
            have es := H xs ys r' rfl rfl rfl xs[j] ys[j] (List.getElem_mem jx) (List.getElem_mem hj)
            refine ⟨[some (.tup xs), some (.tup ys), some (.int (j : Nat))], rfl, ?_⟩
            by_cases q : eqD r' xs[j] ys[j] = true
            · have eb : B [some (.tup xs), some (.tup ys), some (.int (j : Nat))] g = .next [some (.tup xs), some (.tup ys), some (.int (j : Nat))] g := by
                subst hB
                simp [ix1, ix2, es, q, truD]
              rw [eb]
              refine ⟨rfl, ⟨_, rfl⟩, ?_⟩
              rw [← hm]
              dsimp only
              rw [q, Bool.true_and]
            · have q' : eqD r' xs[j] ys[j] = false := by simpa using q
              have eb : B [some (.tup xs), some (.tup ys), some (.int (j : Nat))] g = .ret (.bl false) g := by
                subst hB
                simp [ix1, ix2, es, q', truD]
              rw [eb]
              refine .inr ⟨rfl, ?_⟩
              rw [← hm]
              dsimp only
              rw [q', Bool.false_and])
          (fun e g ⟨hg, _, hm⟩ => by
            subst hg
            rw [List.drop_length, List.zip_nil_right] at hm
            exact .inl ⟨e, rfl, hm.symm⟩) ys.length 0 [some (.tup xs), some (.tup ys), none] h (by omega) ⟨rfl, ⟨none, rfl⟩, by rw [List.drop_zero, List.drop_zero]; exact hG⟩
        subst hB
        have hlen : ys.length ≤ 1000000000 := by
          have := encL_cnt hy
          rw [tup_len] at hl
          omega
        have er1 := rng1_nat (n := ys.length) (a := mCons (mApp dLen (mCons (mVar 1) mNil)) mNil) (e := [some (.tup xs), some (.tup ys), none]) (h := h) (h1 := h) (by simp [dLen_tup]) hlen
        rw [hG, decide_eq_true c, Bool.true_and]
        have eC1 : (mTru (mIsI .tuple (mVar 1))) [some (.tup xs), some (.tup ys), none] h = .ok true h := rfl
        have eN : dNe (.int xs.length) (.int ys.length) h = .ok (.bl false) h := by rw [dNe_int, decide_eq_true c']; rfl
        have eC2 : (mTOr (mTNot (mTru (mIsI .tuple (mVar 0)))) (mTst (mOp dNe (mApp dLen (mCons (mVar 0) mNil)) (mApp dLen (mCons (mVar 1) mNil))))) [some (.tup xs), some (.tup ys), none] h = .ok false h := by
          show ((dNe (.int xs.length) (.int ys.length) h).bind fun x h1 => match x with | .bl b => Res.ok b h1 | _ => .bad) = _
          rw [eN]
          rfl
        have eI : (sSeq (sIf (mTOr (mTNot (mTru (mIsI .tuple (mVar 0)))) (mTst (mOp dNe (mApp dLen (mCons (mVar 0) mNil)) (mApp dLen (mCons (mVar 1) mNil))))) (sRet (mC (.bl false))) sNil)
            (sSeq (sFor (iRng1M (mCons (mApp dLen (mCons (mVar 1) mNil)) mNil)) (.nm 2) (sIf (mTNot (mTru (mApp (L.F__law_same n 0) (mCons (mOp dIx (mVar 0) (mVar 2)) (mCons (mOp dIx (mVar 1) (mVar 2)) mNil))))) (sRet (mC (.bl false))) sNil))
            (sRet (mC (.bl true))))) [some (.tup xs), some (.tup ys), none] h = .ret (.bl G0) h := by
          rw [ev_seq, ev_if, eC2]
          show (sSeq _ _) _ _ = _
          rw [ev_seq, ev_for, er1]
          rcases key with ⟨e, er, hq⟩ | ⟨er, hq⟩
          · show (match loopF _ _ _ _ _ _ _ with
              | .next e1 h1 => (sRet (mC (.bl true))) e1 h1
              | .ret d h1 => .ret d h1
              | .brk e1 h1 => .brk e1 h1
              | .cnt e1 h1 => .cnt e1 h1
              | .exc x e1 h1 => .exc x e1 h1
              | .bad => .bad) = _
            rw [er, hq]
            rfl
          · show (match loopF _ _ _ _ _ _ _ with
              | .next e1 h1 => (sRet (mC (.bl true))) e1 h1
              | .ret d h1 => .ret d h1
              | .brk e1 h1 => .brk e1 h1
              | .cnt e1 h1 => .cnt e1 h1
              | .exc x e1 h1 => .exc x e1 h1
              | .bad => .bad) = _
            rw [er, hq]
        rw [show List.map some [D.tup xs, D.tup ys] ++ List.replicate (3 - 2) none = [some (.tup xs), some (.tup ys), none] from rfl]
        rw [ev_seq, ev_if, eC1]
        simp only [rs_ok, if_true]
        rw [eI]
      · have c' : ¬ (xs.length : Int) = ys.length := by omega
        rw [decide_eq_false c, Bool.false_and]
        simp only [ev_seq]
        simp [tyD, isB, truD, dLen_tup, dNe_int, c, c', ev_seq]
theorem same_ok : ∀ (r n : Nat), r + 1 ≤ n → ∀ (a b : D) (h : LH), plainD r a = true → plainD r b = true → (encD b).length ≤ 16000000 → L.F__law_same n 0 [a, b] h = .ok (.bl (eqD r a b)) h := by
  intro r
  induction r with
  | zero =>
    intro n hn a b h ha hb hl
    obtain ⟨m, rfl⟩ : ∃ m, n = m + 1 := ⟨n - 1, by omega⟩
    exact same_core ha hb hl fun xs ys r' _ _ z => absurd z (by omega)
  | succ r ih =>
    intro n hn a b h ha hb hl
    obtain ⟨m, rfl⟩ : ∃ m, n = m + 1 := ⟨n - 1, by omega⟩
    refine same_core ha hb hl fun xs ys r' hx hy hr x y mx my => ?_
    subst hx hy
    have e : r' = r := by omega
    subst e
    have ha' : xs.all (plainD r') = true := ha
    have hb' : ys.all (plainD r') = true := hb
    rw [tup_len] at hl
    exact ih m (by omega) x y h (List.all_eq_true.mp ha' x mx) (List.all_eq_true.mp hb' y my) (by have := encL_mem my; omega)
theorem eqD_iff : ∀ (r : Nat) (a b : D), plainD r a = true → plainD r b = true → (eqD r a b = true ↔ a = b) := by
  intro r
  induction r with
  | zero =>
    intro a b ha hb
    cases a <;> cases b <;> simp [plainD, eqD] at ha hb ⊢
  | succ r ih =>
    intro a b ha hb
    cases a with
    | tup xs =>
      cases b with
      | tup ys =>
        have ha' : ∀ x ∈ xs, plainD r x = true := List.all_eq_true.mp ha
        have hb' : ∀ x ∈ ys, plainD r x = true := List.all_eq_true.mp hb
        show (decide (xs.length = ys.length) && (xs.zip ys).all (fun p => eqD r p.1 p.2)) = true ↔ D.tup xs = D.tup ys
        rw [D.tup.injEq]
        clear ha hb
        induction xs generalizing ys with
        | nil => cases ys <;> simp
        | cons x xs ihx =>
          cases ys with
          | nil => simp
          | cons y ys =>
            have h1 := ih x y (ha' x (by simp)) (hb' y (by simp))
            have h2 := ihx ys (fun z hz => ha' z (List.mem_cons_of_mem _ hz)) (fun z hz => hb' z (List.mem_cons_of_mem _ hz))
            simp only [Bool.and_eq_true, decide_eq_true_eq, List.length_cons, List.zip_cons_cons, List.all_cons, List.cons.injEq] at h2 ⊢
            rw [← h2, ← h1]
            constructor
            · rintro ⟨p, q, t⟩
              exact ⟨q, by omega, t⟩
            · rintro ⟨q, p, t⟩
              exact ⟨by omega, q, t⟩
      | _ => simp [eqD, plainD] at hb ⊢
    | _ => cases b <;> simp [plainD, eqD] at ha hb ⊢
end HM
set_option Elab.async false
set_option linter.all false
set_option maxRecDepth 100000
set_option maxHeartbeats 4000000
namespace HM
open PySem L2
/-! ### the values that the laws draw -/
/-- the stream at s and the room at q may have turned, all else stands -/
structure F2 (s q : Nat) (h h' : LH) : Prop where
  le : h.length ≤ h'.length
  keep : ∀ i, i < h.length → i ≠ s → i ≠ q → h'[i]? = h[i]?
  st : StrAt h' s
theorem F2.trans {s q : Nat} {h h1 h2 : LH} (a : F2 s q h h1) (b : F2 s q h1 h2) : F2 s q h h2 :=
  ⟨Nat.le_trans a.le b.le, fun i hi h1 h2 => (b.keep i (Nat.lt_of_lt_of_le hi a.le) h1 h2).trans (a.keep i hi h1 h2), b.st⟩
theorem F2.of {s q : Nat} {h h' : LH} (a : SF s h h') : F2 s q h h' := ⟨a.le, fun i hi h1 _ => a.keep i hi h1, a.st⟩
theorem F2.get {s q i : Nat} {h h' : LH} {o : LO} (a : F2 s q h h') (h1 : i ≠ s) (h2 : i ≠ q) (e : h[i]? = some o) : h'[i]? = some o := (a.keep i (lt_of_get e) h1 h2).trans e
theorem F2.setQ {s q : Nat} {h : LH} {o : LO} (st : StrAt h s) (hne : q ≠ s) : F2 s q h (h.set q o) :=
  ⟨by simp, fun i hi h1 h2 => by rw [List.getElem?_set_ne (Ne.symm h2)], SF.setO st hne⟩
/-- a draw below any bound -/
theorem take_big {h : LH} {r : Nat} {m : Int} (s : StrAt h r) (hm : 0 < m) (hl : m.natAbs.log2 < 9000) :
    ∃ v h', L.f__law_take [.ref r, .int m] h = .ok (.int v) h' ∧ 0 ≤ v ∧ v < m ∧ SF r h h' ∧ h'.length = h.length := by
  obtain ⟨a, b, e⟩ := s
  refine ⟨_, _, take_eq e hm hl, (tkV_mem hm).1, (tkV_mem hm).2, ⟨by simp, fun i hi hr => by rw [List.getElem?_set_ne (Ne.symm hr)], _, _, List.getElem?_set_self (lt_of_get e)⟩, by simp⟩
structure Vl (s q dp : Nat) (h h' : LH) (r r' : Int) (d : D) : Prop where
  pl : plainD dp d = true
  rm : h'[q]? = some (.lst [.int r'])
  fr : F2 s q h h'
  lo : r' ≤ r - 1
  hi : min (r - 1) (-(3 * (dp : Int))) ≤ r'
  ln : ((encD d).length : Int) ≤ 109 * (r - r')
theorem lc_allC {z : List Nat} (h : ∀ c ∈ z, LC c) : allC z = true := List.all_eq_true.mpr fun c hc => okC_iff.mpr (h c hc)
theorem int_len {v : Int} (h0 : 0 ≤ v) (h1 : v < 100000000000000000000) : (encD (.int v)).length ≤ 21 ∧ ∀ dp, plainD dp (.int v) = true := by
  obtain ⟨k, rfl⟩ : ∃ k : Nat, v = k := ⟨v.toNat, by omega⟩
  have := strI_len (n := k) (by omega)
  refine ⟨by rw [encD_int]; simp; omega, fun dp => ?_⟩
  cases dp <;> simp [plainD] <;> omega
theorem str_len2 {z : List Nat} (h : z.length ≤ 105) (hc : ∀ c ∈ z, LC c) : (encD (.str z)).length ≤ 109 ∧ ∀ dp, plainD dp (.str z) = true := by
  refine ⟨?_, fun dp => by cases dp <;> exact lc_allC hc⟩
  have h3 := (Nat.length_toDigits_le_iff (n := z.length) (b := 10) (k := 3) (by decide) (by decide)).mpr (by omega)
  rw [encD_str, strI_pos]
  simp
  omega
theorem draw_core {s q dp n : Nat} {h : LH} {r : Int} (st : StrAt h s) (hq : h[q]? = some (.lst [.int r])) (hne : q ≠ s)
    (H : ∀ dp', dp = dp' + 1 → ∀ g r1, StrAt g s → g[q]? = some (.lst [.int r1]) → ∃ d h' r', L.F__law_value n 0 [.ref s, .int dp', .ref q] g = .ok d h' ∧ Vl s q dp' g h' r1 r' d) :
    ∃ d h' r', L.F__law_value (n + 1) 0 [.ref s, .int dp, .ref q] h = .ok d h' ∧ Vl s q dp h h' r r' d := by
  have hql := lt_of_get hq
  obtain ⟨h0, e0⟩ : ∃ h0, h.set q (.lst [.int (r - 1)]) = h0 := ⟨_, rfl⟩
  have F0 : F2 s q h h0 := e0 ▸ F2.setQ st hne
  have q0 : h0[q]? = some (.lst [.int (r - 1)]) := by rw [← e0, List.getElem?_set_self hql]
  have ix : dIx (.ref q) (.int 0) h = .ok (.int r) h := dIx_ref hq rfl
  have hs : setL (.ref q) (.int 0) (.int (r - 1)) h = some h0 := by rw [setL_ref hq (show ixN [D.int r].length 0 = some 0 from rfl), ← e0]; rfl
  obtain ⟨k, h1, e1, k0, k1, F1, _⟩ := take_ok (m := 5) F0.st (by decide) (by decide)
  have q1 := F1.get hne q0
  have ix1 : dIx (.ref q) (.int 0) h1 = .ok (.int (r - 1)) h1 := dIx_ref q1 rfl
  have FF := F0.trans (F2.of F1)
  unfold L.F__law_value
  rw [mkF_eq (by rfl)]
  unfold L.b__law_value
  simp only [ev_seq]
  by_cases cA : 2 < k ∧ (0 : Int) < dp ∧ 0 < r - 1
  · obtain ⟨dp', rfl⟩ : ∃ dp', dp = dp' + 1 := ⟨dp - 1, by omega⟩
    have hdp : ((dp' + 1 : Nat) : Int) - 1 = dp' := by omega
    obtain ⟨m, h2, e2, m0, m1, G2, _⟩ := take_ok (m := 4) F1.st (by decide) (by decide)
    have q2 := G2.get hne q1
    have FF2 := FF.trans (F2.of G2)
    have hk : h2.length ≠ s ∧ h2.length ≠ q := by
      obtain ⟨a, b, e⟩ := G2.st
      have h1 := lt_of_get e
      have h2 := lt_of_get q2
      omega
    obtain ⟨acc, g, eC, Fg, hg, al, ds, rfl, hpl, r', hr', hlo, hhi, hln⟩ := loopC_gen (g := itN m.toNat) (t := .nm 5) (c := mYes) (y := mApp (L.F__law_value n 0) (mCons (mVar 0) (mCons (mOp dSub (mVar 1) (mC (.int 1))) (mCons (mVar 2) mNil))))
      (e := [some (.ref s), some (.int ((dp' + 1 : Nat) : Int)), some (.ref q), some (.int k), some (.int m), none]) (k := h2.length) (N := m.toNat) (fun j => .int (j : Nat))
      (fun j acc g => F2 s q h2 g ∧ g[h2.length]? = some (.lst acc) ∧ acc.length = j ∧ ∃ ds : List D, acc = ds ∧ (∀ d ∈ ds, plainD dp' d = true) ∧ ∃ r' : Int, g[q]? = some (.lst [.int r']) ∧ r' ≤ r - 1 - j ∧ min (r - 1 - j) (-(3 * (dp' : Int)) - j) ≤ r' ∧ ((encL ds).length : Int) ≤ 109 * (r - 1 - r'))
      (fun j acc g hj hi => rfl) (fun j acc g hj hi => hi.2.1) (by
        rintro j acc g hj ⟨Fg, hg, al, ds, rfl, hpl, r', hr', hlo, hhi, hln⟩
        obtain ⟨d, g1, r2, ed, V⟩ := H dp' rfl g r' Fg.st hr'
        have hg1 := V.fr.get hk.1 hk.2 hg
        have Fg1 := Fg.trans V.fr
        refine ⟨_, rfl, .inr ⟨g, d, g1, acc, rfl, ?_, hg1, by omega, ?_, ?_, by simp [al], acc ++ [d], rfl, ?_, r2, ?_, ?_, ?_, ?_⟩⟩
        · simp [dSub_int, ed]
        · obtain ⟨a, b, e⟩ := Fg1.st
          refine ⟨by simpa using Fg1.le, fun i hi h1 h2' => ?_, a, b, ?_⟩
          · rw [List.getElem?_set_ne (by omega)]; exact Fg1.keep i hi h1 h2'
          · rw [List.getElem?_set_ne hk.1]; exact e
        · rw [List.getElem?_set_self (lt_of_get hg1)]
        · intro x hx
          rcases List.mem_append.mp hx with hx | hx
          · exact hpl x hx
          · rw [List.mem_singleton.mp hx]; exact V.pl
        · rw [List.getElem?_set_ne hk.2]; exact V.rm
        · have := V.lo; omega
        · have := V.hi; omega
        · have := V.ln
          rw [encL_snoc, List.length_append]
          omega) m.toNat 0 [] (h2 ++ [.lst []]) (by omega)
      ⟨F2.of (SF.push G2.st), by simp, rfl, [], rfl, (fun _ h => nomatch h), r - 1, by rw [List.getElem?_append_left (lt_of_get q2)]; exact q2, by omega, by omega, by rw [encL]; simp⟩
    have et : dTuple [.ref h2.length] g = .ok (.tup acc) g := by
      show (match seqD (.ref h2.length) g with
        | some ys => Res.ok (D.tup ys) g
        | none => .bad) = _
      have : seqD (.ref h2.length) g = some acc := by
        show (match g[h2.length]? with
          | some (.lst xs) => some xs
          | _ => none) = _
        rw [hg]
      rw [this]
    refine ⟨.tup acc, g, r', ?_, ⟨List.all_eq_true.mpr hpl, hr', FF2.trans Fg, by omega, by omega, by rw [tup_len]; omega⟩⟩
    simp at eC
    simp [ix, dSub_int, hs, e1, dGt_int, cA.1, ix1, show (0 : Int) < (dp' : Int) + 1 by omega, cA.2.2, show (1 : Int) < r by omega, ev_seq, e2, ev_rng1, show -4611686018427387904 ≤ m ∧ m < 4611686018427387904 from ⟨by omega, by omega⟩, wipeM, eC, et]
  · have leafs : ∀ (d : D) (h' : LH), (∀ dp, plainD dp d = true) → (encD d).length ≤ 109 → SF s h1 h' → Vl s q dp h h' r (r - 1) d := by
      intro d h' hp hl F
      exact ⟨hp dp, F.get hne q1, FF.trans (F2.of F), by omega, by omega, by omega⟩
    have eT : (mTAnd (mTst (mOp dGt (mVar 3) (mC (.int 2)))) (mTAnd (mTst (mOp dGt (mVar 1) (mC (.int 0)))) (mTst (mOp dGt (mOp dIx (mVar 2) (mC (.int 0))) (mC (.int 0)))))) [some (.ref s), some (.int dp), some (.ref q), some (.int k), none, none] h1 = .ok false h1 := by
      by_cases c1 : 2 < k
      · by_cases c2 : (0 : Int) < dp
        · have c3 : ¬ 0 < r - 1 := fun z => cA ⟨c1, c2, z⟩
          simp [dGt_int, c1, ix1, c3]
          intro z
          omega
        · simp [dGt_int, c1]
          intro z
          omega
      · simp [dGt_int, c1]
    by_cases c0 : k = 0 ∨ k = 3
    · obtain ⟨v, h2, e2, v0, v1, G2, _⟩ := take_ok (m := 120) F1.st (by decide) (by decide)
      have hv := int_len v0 (by omega)
      refine ⟨.int v, h2, r - 1, ?_, leafs _ _ hv.2 (by omega) G2⟩
      have c0' : ¬ 2 < k ∨ 2 < k := by omega
      rcases c0 with c0 | c0
      · subst c0
        simp [ix, dSub_int, hs, e1, -ev_tAnd, eT, dEq_int, e2]
      · subst c0
        simp [ix, dSub_int, hs, e1, -ev_tAnd, eT, dEq_int, e2]
    · have c00 : ¬ k = 0 := fun z => c0 (.inl z)
      have c03 : ¬ k = 3 := fun z => c0 (.inr z)
      by_cases c1 : k = 1
      · have ep : dPow (.int 10) (.int 20) h1 = .ok (.int 100000000000000000000) h1 := by
          show (if (0 : Int) ≤ 20 ∧ (20 : Int) ≤ 1000000 ∧ Int.natAbs 10 < 2 ^ 64 then Res.ok (D.int (10 ^ (20 : Int).toNat)) h1 else .bad) = _
          rw [if_pos ⟨by decide, by decide, by decide⟩]
          rfl
        obtain ⟨v, h2, e2, v0, v1, G2, _⟩ := take_big (m := 100000000000000000000) F1.st (by decide) (by decide +kernel)
        have hv := int_len v0 v1
        refine ⟨.int v, h2, r - 1, ?_, leafs _ _ hv.2 (by omega) G2⟩
        subst c1
        simp [ix, dSub_int, hs, e1, -ev_tAnd, eT, dEq_int, ep, e2]
      · have hne1 : h1.length ≠ s := by
          obtain ⟨a, b, e⟩ := F1.st
          have := lt_of_get e
          omega
        obtain ⟨v, h2, e2, v0, v1, G2, _⟩ := take_ok (m := 5) (SF.push (o := .lst [.int 3, .int 12, .int 3, .int 3, .int 105]) F1.st).st (by decide) (by decide)
        obtain ⟨m, em, m0, m1⟩ : ∃ m : Int, atI [D.int 3, D.int 12, D.int 3, D.int 3, D.int 105] v = some (.int m) ∧ 0 ≤ m ∧ m ≤ 105 := by
          have : v = 0 ∨ v = 1 ∨ v = 2 ∨ v = 3 ∨ v = 4 := by omega
          rcases this with rfl | rfl | rfl | rfl | rfl
          · exact ⟨3, rfl, by decide, by decide⟩
          · exact ⟨12, rfl, by decide, by decide⟩
          · exact ⟨3, rfl, by decide, by decide⟩
          · exact ⟨3, rfl, by decide, by decide⟩
          · exact ⟨105, rfl, by decide, by decide⟩
        have hix : dIx (.ref h1.length) (.int v) h2 = .ok (.int m) h2 := dIx_ref (G2.get hne1 (by simp)) em
        obtain ⟨z, h3, e3, zl, zc, G3⟩ := string_ok (most := m) G2.st m0 (by omega)
        have hz := str_len2 (z := z) (by omega) zc
        refine ⟨.str z, h3, r - 1, ?_, leafs _ _ hz.2 hz.1 (((SF.push F1.st).trans G2).trans G3)⟩
        simp [ix, dSub_int, hs, e1, -ev_tAnd, eT, dEq_int, c00, c03, c1, e2, hix, e3]
theorem draw_ok {s q : Nat} (hne : q ≠ s) : ∀ (dp n : Nat), dp + 1 ≤ n → ∀ (h : LH) (r : Int), StrAt h s → h[q]? = some (.lst [.int r]) → ∃ d h' r', L.F__law_value n 0 [.ref s, .int dp, .ref q] h = .ok d h' ∧ Vl s q dp h h' r r' d := by
  intro dp
  induction dp with
  | zero =>
    intro n hn h r st hq
    obtain ⟨m, rfl⟩ : ∃ m, n = m + 1 := ⟨n - 1, by omega⟩
    exact draw_core st hq hne fun dp' z => absurd z (by omega)
  | succ dp ih =>
    intro n hn h r st hq
    obtain ⟨m, rfl⟩ : ∃ m, n = m + 1 := ⟨n - 1, by omega⟩
    refine draw_core st hq hne fun dp' z g r1 sg hg => ?_
    have e : dp' = dp := by omega
    subst e
    exact ih m (by omega) g r1 sg hg
theorem plain_up : ∀ {r : Nat} {d : D}, plainD r d = true → plainD (r + 1) d = true := by
  intro r
  induction r with
  | zero =>
    intro d h
    cases d <;> simp [plainD] at h ⊢ <;> exact h
  | succ r ih =>
    intro d h
    cases d with
    | tup xs =>
      have h' : xs.all (plainD r) = true := h
      show xs.all (plainD (r + 1)) = true
      exact List.all_eq_true.mpr fun x hx => ih (List.all_eq_true.mp h' x hx)
    | _ => simp [plainD] at h ⊢ <;> exact h
theorem plain_mono {r r' : Nat} {d : D} (hr : r ≤ r') (h : plainD r d = true) : plainD r' d = true := by
  induction hr with
  | refl => exact h
  | step _ ih => exact plain_up ih
theorem deep_ok {s : Nat} {h : LH} (st : StrAt h s) : ∃ d h', L.f__law_deep_value [.ref s] h = .ok d h' ∧ plainD 8 d = true ∧ (encD d).length ≤ 8000 ∧ SF s h h' := by
  obtain ⟨dp, h1, e1, d0, d1, F1, _⟩ := take_ok (m := 9) st (by decide) (by decide)
  obtain ⟨k, rfl⟩ : ∃ k : Nat, dp = k := ⟨dp.toNat, by omega⟩
  have hne : h1.length ≠ s := by
    obtain ⟨a, b, e⟩ := F1.st
    have := lt_of_get e
    omega
  obtain ⟨d, h2, r', e2, V⟩ := draw_ok hne k 24 (by omega) (h1 ++ [.lst [.int 40]]) 40 (SF.push F1.st).st (by simp)
  have e2' : L.f__law_value [.ref s, .int k, .ref h1.length] (h1 ++ [.lst [.int 40]]) = .ok d h2 := e2
  have F2' : SF s h1 h2 := ⟨by have := V.fr.le; simp at this; omega, fun i hi hs => by
    rw [V.fr.keep i (by simp; omega) hs (by omega), List.getElem?_append_left hi], V.fr.st⟩
  obtain ⟨w, h3, e3, w0, w1, F3, _⟩ := take_ok (m := 9 - (k : Int)) F2'.st (by omega) (by omega)
  have hl : (encD d).length ≤ 7500 := by
    have h1 := V.ln
    have h2 := V.hi
    omega
  have key := loopF_gen (g := itN w.toNat) (t := .nm 3) (body := sSet 2 (mTup (mCons (mVar 2) mNil))) (N := w.toNat) (fun j => .int (j : Nat))
    (fun j e g => g = h3 ∧ ∃ (x : D) (v3 : Option D), e = [some (.ref s), some (.int k), some x, v3] ∧ plainD (k + j) x = true ∧ (encD x).length ≤ 7500 + 2 * j)
    (fun q => ∃ (x : D) (v3 : Option D), q = .next [some (.ref s), some (.int k), some x, v3] h3 ∧ plainD (k + w.toNat) x = true ∧ (encD x).length ≤ 7500 + 2 * w.toNat)
    (fun j e g hj hi => rfl) (by
      rintro j e g hj ⟨rfl, x, v3, rfl, hx, xl⟩
      refine ⟨[some (.ref s), some (.int k), some x, some (.int (j : Nat))], rfl, ?_⟩
      have eb : (sSet 2 (mTup (mCons (mVar 2) mNil))) [some (.ref s), some (.int k), some x, some (.int (j : Nat))] g = .next [some (.ref s), some (.int k), some (.tup [x]), some (.int (j : Nat))] g := by
        simp
      rw [eb]
      refine ⟨rfl, .tup [x], _, rfl, ?_, ?_⟩
      · show [x].all (plainD (k + j)) = true
        simp [hx]
      · rw [tup_len, encL, encL]
        simp
        omega)
    (fun e g ⟨hg, x, v3, he, hx, xl⟩ => ⟨x, v3, by rw [hg, he], hx, xl⟩) w.toNat 0 [some (.ref s), some (.int k), some d, none] h3 (by omega) ⟨rfl, d, none, rfl, V.pl, by omega⟩
  obtain ⟨x, v3, er, hx, xl⟩ := key
  refine ⟨x, h3, ?_, plain_mono (by omega) hx, by omega, (F1.trans F2').trans F3⟩
  unfold L.f__law_deep_value
  rw [mkF_eq (by rfl)]
  unfold L.b__law_deep_value
  simp only [ev_seq]
  simp [e1, e2', dSub_int, e3, ev_rng1, show -4611686018427387904 ≤ w ∧ w < 4611686018427387904 from ⟨by omega, by omega⟩, er]
end HM
set_option Elab.async false
set_option linter.all false
set_option maxRecDepth 100000
set_option maxHeartbeats 4000000
namespace HM
open PySem L2
/-! ### closed values; == with texts and with the empty row -/
def okS (s : List Nat) : Prop := s.length ≤ 1000000 ∧ ∀ c ∈ s, c < 1114112
def Cl (h : LH) : Nat → D → Prop
  | 0, d => match d with
    | .non => True
    | .bl _ => True
    | .int _ => True
    | .str s => okS s
    | _ => False
  | r + 1, d => match d with
    | .non => True
    | .bl _ => True
    | .int _ => True
    | .str s => okS s
    | .tup xs => xs.length ≤ 200000 ∧ ∀ x ∈ xs, Cl h r x
    | .ref i => ∃ xs, h[i]? = some (.lst xs) ∧ xs.length ≤ 200000 ∧ ∀ x ∈ xs, Cl h r x
    | _ => False
theorem Cl.kp {h g : LH} (k : Kp h g) : ∀ {r : Nat} {d : D}, Cl h r d → Cl g r d := by
  intro r
  induction r with
  | zero =>
    intro d hd
    cases d <;> first | exact hd | trivial
  | succ r ih =>
    intro d hd
    cases d with
    | tup xs => exact ⟨hd.1, fun x hx => ih (hd.2 x hx)⟩
    | ref i =>
      obtain ⟨xs, e, hl, hx⟩ := hd
      exact ⟨xs, k.get e, hl, fun x hm => ih (hx x hm)⟩
    | _ => first | exact hd | trivial
theorem Cl.up {h : LH} : ∀ {r : Nat} {d : D}, Cl h r d → Cl h (r + 1) d := by
  intro r
  induction r with
  | zero =>
    intro d hd
    cases d <;> first | exact hd | exact hd.elim | trivial
  | succ r ih =>
    intro d hd
    cases d with
    | tup xs => exact ⟨hd.1, fun x hx => ih (hd.2 x hx)⟩
    | ref i =>
      obtain ⟨xs, e, hl, hx⟩ := hd
      exact ⟨xs, e, hl, fun x hm => ih (hx x hm)⟩
    | _ => first | exact hd | trivial
theorem Cl.mono {h : LH} {r r' : Nat} {d : D} (hr : r ≤ r') (c : Cl h r d) : Cl h r' d := by
  induction hr with
  | refl => exact c
  | step _ ih => exact ih.up
theorem Cl.str {h : LH} {r : Nat} {s : List Nat} (c : Cl h r (.str s)) : okS s := by cases r <;> exact c
theorem Cl.len {h : LH} {r : Nat} {d : D} (c : Cl h r d) : ∀ s, d = .str s → s.length ≤ 1000000 := by
  rintro s rfl
  exact c.str.1
theorem Cl.tup {h : LH} {r : Nat} {xs : List D} (c : Cl h (r + 1) (.tup xs)) : xs.length ≤ 200000 ∧ ∀ x ∈ xs, Cl h r x := c
theorem Cl.ty {h : LH} {r : Nat} {d : D} (c : Cl h r d) : ∃ t, tyD d h = some t := by
  cases r with
  | zero => cases d <;> first | exact ⟨_, rfl⟩ | exact c.elim
  | succ r =>
    cases d with
    | ref i =>
      obtain ⟨xs, e, _⟩ := c
      exact ⟨.list, by unfold tyD; simp only [e]⟩
    | scr _ => exact c.elim
    | exn _ => exact c.elim
    | exr _ _ _ => exact c.elim
    | _ => exact ⟨_, rfl⟩
/-- data of a closed value -/
def GP (r : Nat) (p : PyData) : Prop := PyData.canLay0 p = true ∧ PyData.depth p ≤ r
theorem clPs {h : LH} {r m : Nat} : ∀ {xs : List D}, (∀ x ∈ xs, ∀ n, m ≤ n → ∃ p, toP n h x = some p ∧ GP r p) → ∀ n, m + xs.length + 1 ≤ n → ∃ ps, toPs n h xs = some ps ∧ ps.length = xs.length ∧ PyData.canLayAll0 ps = true ∧ PyData.depthAll ps ≤ r
  | [], _, n, hn => by
    obtain ⟨k, rfl⟩ : ∃ k, n = k + 1 := ⟨n - 1, by omega⟩
    exact ⟨[], by unfold toPs; rfl, rfl, rfl, Nat.zero_le _⟩
  | x :: xs, hx, n, hn => by
    rw [List.length_cons] at hn
    obtain ⟨k, rfl⟩ : ∃ k, n = k + 1 := ⟨n - 1, by omega⟩
    obtain ⟨p, e1, g1⟩ := hx x (by simp) k (by omega)
    obtain ⟨ps, e2, l2, c2, d2⟩ := clPs (xs := xs) (fun y hy => hx y (by simp [hy])) k (by omega)
    refine ⟨p :: ps, ?_, by simp [l2], ?_, ?_⟩
    · unfold toPs
      simp only [e1, e2]
    · show (PyData.canLay0 p && PyData.canLayAll0 ps) = true
      rw [g1.1, c2]; rfl
    · show max (PyData.depth p) (PyData.depthAll ps) ≤ r
      have := g1.2
      omega
def toPK (d : D) (p : PyData) : Prop := match d with
  | .non => p = .none
  | .bl b => p = .bool b
  | .int i => p = .int i
  | .str s => p = .str ⟨s.toArray⟩
  | .tup xs => ∃ ps, p = .tuple ps ∧ ps.length = xs.length
  | .ref _ => ∃ ps, p = .list ps
  | _ => False
theorem strOk_ok {s : List Nat} (h : okS s) : PyData.strOk ⟨s.toArray⟩ = true := by
  unfold PyData.strOk
  simp only [List.all_toArray, List.all_eq_true, decide_eq_true_eq]
  intro c hc
  exact h.2 c hc
theorem clP {h : LH} : ∀ {r : Nat} {d : D}, Cl h r d → ∀ n, 200010 * (r + 1) ≤ n → ∃ p, toP n h d = some p ∧ GP r p ∧ toPK d p := by
  intro r
  induction r with
  | zero =>
    intro d hd n hn
    obtain ⟨k, rfl⟩ : ∃ k, n = k + 1 := ⟨n - 1, by omega⟩
    cases d with
    | non => exact ⟨_, by unfold toP; rfl, ⟨rfl, Nat.le_refl _⟩, rfl⟩
    | bl b => exact ⟨_, by unfold toP; rfl, ⟨rfl, Nat.le_refl _⟩, rfl⟩
    | int i => exact ⟨_, by unfold toP; rfl, ⟨rfl, Nat.le_refl _⟩, rfl⟩
    | str s => exact ⟨_, by unfold toP; rfl, ⟨(by show PyData.strOk _ = true; exact strOk_ok hd), Nat.le_refl _⟩, rfl⟩
    | _ => exact hd.elim
  | succ r ih =>
    intro d hd n hn
    obtain ⟨k, rfl⟩ : ∃ k, n = k + 1 := ⟨n - 1, by omega⟩
    cases d with
    | non => exact ⟨_, by unfold toP; rfl, ⟨rfl, Nat.zero_le _⟩, rfl⟩
    | bl b => exact ⟨_, by unfold toP; rfl, ⟨rfl, Nat.zero_le _⟩, rfl⟩
    | int i => exact ⟨_, by unfold toP; rfl, ⟨rfl, Nat.zero_le _⟩, rfl⟩
    | str s => exact ⟨_, by unfold toP; rfl, ⟨(by show PyData.strOk _ = true; exact strOk_ok hd), Nat.zero_le _⟩, rfl⟩
    | tup xs =>
      obtain ⟨ps, e, hl, c, dp⟩ := clPs (h := h) (r := r) (m := 200010 * (r + 1)) (xs := xs) (fun x hx n hn => by
        obtain ⟨p, a, b, _⟩ := ih (hd.2 x hx) n hn
        exact ⟨p, a, b⟩) k (by have := hd.1; omega)
      refine ⟨.tuple ps, ?_, ⟨c, ?_⟩, ps, rfl, hl⟩
      · unfold toP
        simp only [e, Option.map_some]
      · show PyData.depthAll ps + 1 ≤ r + 1
        omega
    | ref i =>
      obtain ⟨xs, ei, hl0, hx⟩ := hd
      obtain ⟨ps, e, hl, c, dp⟩ := clPs (h := h) (r := r) (m := 200010 * (r + 1)) (xs := xs) (fun x hm n hn => by
        obtain ⟨p, a, b, _⟩ := ih (hx x hm) n hn
        exact ⟨p, a, b⟩) k (by omega)
      refine ⟨.list ps, ?_, ⟨c, ?_⟩, ps, rfl⟩
      · unfold toP
        simp only [ei, e, Option.map_some]
      · show PyData.depthAll ps + 1 ≤ r + 1
        omega
    | _ => exact hd.elim
theorem GP.shaped {r : Nat} {p : PyData} (g : GP r p) (hr : r ≤ 40) : SeqAt.shaped p = true := by
  unfold SeqAt.shaped
  rw [g.1, Bool.true_and]
  exact decide_eq_true (by have := g.2; omega)
def isS (s : List Nat) (d : D) : Bool := match d with
  | .str t => decide (t = s)
  | _ => false
theorem dEqB_str {h : LH} {r : Nat} {d : D} {s : List Nat} (c : Cl h r d) (hr : r ≤ 40) (hs : okS s) : dEqB 10000000 d (.str s) h = some (isS s d) := by
  cases d with
  | tup xs =>
    obtain ⟨p, e, g, k⟩ := clP c 10000000 (by omega)
    obtain ⟨ps, rfl, _⟩ := k
    obtain ⟨q, e2, g2, k2⟩ := clP (h := h) (r := 0) (d := .str s) hs 10000000 (by omega)
    have k2' : q = .str ⟨s.toArray⟩ := k2
    subst k2'
    unfold dEqB
    simp only [e, e2, g.shaped hr, g2.shaped (by omega), Bool.and_self, if_true]
    simp [PyData.eqv, isS]
  | ref i =>
    obtain ⟨p, e, g, k⟩ := clP c 10000000 (by omega)
    obtain ⟨ps, rfl⟩ := k
    obtain ⟨q, e2, g2, k2⟩ := clP (h := h) (r := 0) (d := .str s) hs 10000000 (by omega)
    have k2' : q = .str ⟨s.toArray⟩ := k2
    subst k2'
    unfold dEqB
    simp only [e, e2, g.shaped hr, g2.shaped (by omega), Bool.and_self, if_true]
    simp [PyData.eqv, isS]
  | scr _ => cases r <;> exact c.elim
  | exn _ => cases r <;> exact c.elim
  | exr _ _ _ => cases r <;> exact c.elim
  | _ => rfl
theorem dEq_cl {h : LH} {r : Nat} {d : D} {s : List Nat} (c : Cl h r d) (hr : r ≤ 40) (hs : okS s) : dEq d (.str s) h = .ok (.bl (isS s d)) h := by
  unfold dEq
  rw [dEqB_str c hr hs]
theorem dNe_cl {h : LH} {r : Nat} {d : D} {s : List Nat} (c : Cl h r d) (hr : r ≤ 40) (hs : okS s) : dNe d (.str s) h = .ok (.bl (!isS s d)) h := by
  unfold dNe
  rw [dEqB_str c hr hs]
theorem dEqB_tup0 {h : LH} {r : Nat} {xs : List D} (c : Cl h r (.tup xs)) (hr : r ≤ 40) : dEqB 10000000 (.tup xs) (.tup []) h = some xs.isEmpty := by
  obtain ⟨p, e, g, k⟩ := clP c 10000000 (by omega)
  obtain ⟨ps, rfl, hl⟩ := k
  obtain ⟨q, e2, g2, k2⟩ := clP (h := h) (r := 1) (d := .tup []) ⟨by simp, by simp⟩ 10000000 (by omega)
  obtain ⟨qs, rfl, hl2⟩ := k2
  have : qs = [] := List.eq_nil_of_length_eq_zero (by simpa using hl2)
  subst this
  unfold dEqB
  simp only [e, e2, g.shaped hr, g2.shaped (by omega), Bool.and_self, if_true]
  cases ps with
  | nil =>
    have : xs = [] := List.eq_nil_of_length_eq_zero (by simpa using hl.symm)
    subst this
    simp [PyData.eqv, PyData.eqvAll]
  | cons a l =>
    cases xs with
    | nil => simp at hl
    | cons => simp [PyData.eqv, PyData.eqvAll]
theorem dEq_tup0 {h : LH} {r : Nat} {xs : List D} (c : Cl h r (.tup xs)) (hr : r ≤ 40) : dEq (.tup xs) (.tup []) h = .ok (.bl xs.isEmpty) h := by
  unfold dEq
  rw [dEqB_tup0 c hr]
theorem dNe_tup0 {h : LH} {r : Nat} {xs : List D} (c : Cl h r (.tup xs)) (hr : r ≤ 40) : dNe (.tup xs) (.tup []) h = .ok (.bl (!xs.isEmpty)) h := by
  unfold dNe
  rw [dEqB_tup0 c hr]
/-! ### rows, tables, numbers -/
def isRow (n : Int) (d : D) : Bool := match d with
  | .tup xs => decide ((xs.length : Int) = n)
  | _ => false
def isTab (n : Int) (d : D) : Bool := match d with
  | .tup xs => decide ((xs.length : Int) ≤ n)
  | _ => false
def isInt (lo hi : Int) (d : D) : Bool := match d with
  | .int i => decide (lo ≤ i ∧ i ≤ hi)
  | _ => false
theorem isInt_inv {lo hi : Int} {d : D} (h : isInt lo hi d = true) : ∃ i, d = .int i ∧ lo ≤ i ∧ i ≤ hi := by
  cases d with
  | int i => exact ⟨i, rfl, by simpa [isInt] using h⟩
  | _ => cases h
theorem isInt_of {lo hi i : Int} (h1 : lo ≤ i) (h2 : i ≤ hi) : isInt lo hi (.int i) = true := by
  simp [isInt, h1, h2]
theorem isInt_mono {lo lo' hi hi' : Int} {d : D} (h1 : lo ≤ lo') (h2 : hi' ≤ hi) (h : isInt lo hi d = false) : isInt lo' hi' d = false := by
  cases e : isInt lo' hi' d with
  | false => rfl
  | true =>
    obtain ⟨i, rfl, a, b⟩ := isInt_inv e
    rw [isInt_of (by omega) (by omega)] at h
    cases h
theorem tyD_tup {d : D} {h : LH} (t : tyD d h = some .tuple) : ∃ xs, d = .tup xs := by
  cases d with
  | tup xs => exact ⟨xs, rfl⟩
  | ref i =>
    unfold tyD at t
    simp only at t
    split at t <;> cases t
  | _ => cases t
theorem tyD_int {d : D} {h : LH} (t : tyD d h = some .int) : ∃ i, d = .int i := by
  cases d with
  | int i => exact ⟨i, rfl⟩
  | ref i =>
    unfold tyD at t
    simp only at t
    split at t <;> cases t
  | _ => cases t
theorem row_eq' {d : D} {h : LH} {t : BT} {n : Int} (ht : tyD d h = some t) : L.f_is_row [d, .int n] h = .ok (.bl (isRow n d)) h := by
  unfold L.f_is_row
  rw [mkF_eq (by rfl)]
  unfold L.b_is_row
  by_cases c : t = .tuple
  · subst c
    obtain ⟨xs, rfl⟩ := tyD_tup ht
    simp [tyD, isB, dLen_tup, dEq_int, isRow]
  · have e : isRow n d = false := by
      cases d with
      | tup xs => exact absurd (Option.some.inj ht).symm c
      | _ => rfl
    simp [ht, e]
    cases t <;> simp [isB] at c ⊢
theorem tab_eq {d : D} {h : LH} {t : BT} {n : Int} (ht : tyD d h = some t) : L.f_is_table [d, .int n] h = .ok (.bl (isTab n d)) h := by
  unfold L.f_is_table
  rw [mkF_eq (by rfl)]
  unfold L.b_is_table
  by_cases c : t = .tuple
  · subst c
    obtain ⟨xs, rfl⟩ := tyD_tup ht
    simp [tyD, isB, dLen_tup, dLe_int, isTab]
  · have e : isTab n d = false := by
      cases d with
      | tup xs => exact absurd (Option.some.inj ht).symm c
      | _ => rfl
    simp [ht, e]
    cases t <;> simp [isB] at c ⊢
theorem int_eq {d : D} {h : LH} {t : BT} {lo hi : Int} (ht : tyD d h = some t) : L.f_is_integer [d, .int lo, .int hi] h = .ok (.bl (isInt lo hi d)) h := by
  by_cases c : t = .int
  · subst c
    obtain ⟨i, rfl⟩ := tyD_int ht
    exact integer_eq
  · rw [integer_no ht c]
    cases d with
    | int i => exact absurd (Option.some.inj ht).symm c
    | _ => rfl
abbrev isVer (d : D) : Bool := isInt 1 1000000000000 d
abbrev isAm (d : D) : Bool := isInt 0 1000000000000 d
theorem ver_eq {d : D} {h : LH} {t : BT} (ht : tyD d h = some t) : L.f_is_version [d] h = .ok (.bl (isVer d)) h := by
  unfold L.f_is_version
  rw [mkF_eq (by rfl)]
  unfold L.b_is_version
  simp [int_eq ht]
theorem am_eq {d : D} {h : LH} {t : BT} (ht : tyD d h = some t) : L.f_is_amount [d] h = .ok (.bl (isAm d)) h := by
  unfold L.f_is_amount
  rw [mkF_eq (by rfl)]
  unfold L.b_is_amount
  simp [int_eq ht]
theorem lnum_eq {d : D} {h : LH} {t : BT} {lo : Int} (ht : tyD d h = some t) : L.f__law_number_v2 [d, .int lo] h = .ok (.bl (isInt lo 1000000000000 d)) h := by
  unfold L.f__law_number_v2
  rw [mkF_eq (by rfl)]
  unfold L.b__law_number_v2
  have ep : ∀ g, dPow (.int 10) (.int 12) g = .ok (.int 1000000000000) g := fun g => by
    show (if (0 : Int) ≤ 12 ∧ (12 : Int) ≤ 1000000 ∧ Int.natAbs 10 < 2 ^ 64 then Res.ok (D.int (10 ^ (12 : Int).toNat)) g else .bad) = _
    rw [if_pos ⟨by decide, by decide, by decide⟩]
    rfl
  by_cases c : t = .int
  · subst c
    obtain ⟨i, rfl⟩ := tyD_int ht
    by_cases c1 : lo ≤ i <;> simp [tyD, isB, dLe_int, ep, isInt, c1]
  · have e : isInt lo 1000000000000 d = false := by
      cases d with
      | int i => exact absurd (Option.some.inj ht).symm c
      | _ => rfl
    simp [ht, e]
    cases t <;> simp [isB, ht] at c ⊢
def isTL (lo hi : Int) (d : D) : Bool := match d with
  | .tup xs => decide (lo ≤ xs.length ∧ (xs.length : Int) ≤ hi)
  | _ => false
theorem ltup_eq {d : D} {h : LH} {t : BT} {lo hi : Int} (ht : tyD d h = some t) : L.f__law_tuple [d, .int lo, .int hi] h = .ok (.bl (isTL lo hi d)) h := by
  unfold L.f__law_tuple
  rw [mkF_eq (by rfl)]
  unfold L.b__law_tuple
  by_cases c : t = .tuple
  · subst c
    obtain ⟨xs, rfl⟩ := tyD_tup ht
    by_cases c1 : lo ≤ xs.length <;> simp [tyD, isB, dLen_tup, dLe_int, isTL, c1]
  · have e : isTL lo hi d = false := by
      cases d with
      | tup xs => exact absurd (Option.some.inj ht).symm c
      | _ => rfl
    simp [ht, e]
    cases t <;> simp [isB, ht] at c ⊢
/-! ### digests -/
def isDg (d : D) : Bool := match d with
  | .str s => decide (s.length = 18) && s.all (inC hxC)
  | _ => false
theorem dg_eq {d : D} {h : LH} {t : BT} (ht : tyD d h = some t) (hl : ∀ s, d = .str s → s.length ≤ 1000000) : L.f_is_digest [d] h = .ok (.bl (isDg d)) h := by
  unfold L.f_is_digest
  rw [mkF_eq (by rfl)]
  unfold L.b_is_digest
  by_cases c : t = .str
  · subst c
    obtain ⟨s, rfl⟩ := tyD_str ht
    have hl' := hl s rfl
    by_cases c1 : s.length = 18
    · have c1' : (s.length : Int) = 18 := by omega
      have key := loopS_test (body := (sIf (mTst (mOp dNotIn (mVar 1) (mC (.str hxC)))) (sRet (mC (.bl false))) sNil)) (i := 1) (s := s) (h := h) (e := [some (.str s), none]) (inC hxC) (by simp) (fun c hc => by
        by_cases q : c ∈ hxC <;> simp [dNotIn_chr, inC, q])
      by_cases q : s.all (inC hxC) = true
      · rw [if_pos q] at key
        obtain ⟨v, ev⟩ := key
        simp [ev_seq, tyD, isB, truD, dLen_str (show s.length ≤ 16777216 by omega), dNe_int, c1, S_ofH, isDg, q]
        simp [c1] at ev
        simp [ev]
      · rw [if_neg q] at key
        have q' : s.all (inC hxC) = false := by simpa using q
        simp [ev_seq, tyD, isB, truD, dLen_str (show s.length ≤ 16777216 by omega), dNe_int, c1, S_ofH, isDg, q']
        simp [c1] at key
        simp [key]
    · have c1' : ¬ (s.length : Int) = 18 := by omega
      simp [ev_seq, tyD, isB, truD, dLen_str (show s.length ≤ 16777216 by omega), dNe_int, c1, c1', isDg]
  · have e : isDg d = false := by
      cases d with
      | str xs => exact absurd (Option.some.inj ht).symm c
      | _ => rfl
    simp [ev_seq, ht, e]
    cases t <;> simp [isB, truD] at c ⊢
theorem hexed_eq {d : D} {h : LH} {t : BT} (ht : tyD d h = some t) (hl : ∀ s, d = .str s → s.length ≤ 1000000) : L.f__law_hexed [d] h = .ok (.bl (isDg d)) h := by
  unfold L.f__law_hexed
  rw [mkF_eq (by rfl)]
  unfold L.b__law_hexed
  by_cases c : t = .str
  · subst c
    obtain ⟨s, rfl⟩ := tyD_str ht
    have hl' := hl s rfl
    by_cases c1 : s.length = 18
    · have c1' : (s.length : Int) = 18 := by omega
      simp [tyD, isB, dLen_str (show s.length ≤ 16777216 by omega), dEq_int, c1, S_ofH, all_eq, isDg]
    · have c1' : ¬ (s.length : Int) = 18 := by omega
      simp [tyD, isB, dLen_str (show s.length ≤ 16777216 by omega), dEq_int, c1, c1', isDg]
  · have e : isDg d = false := by
      cases d with
      | str xs => exact absurd (Option.some.inj ht).symm c
      | _ => rfl
    simp [ht, e]
    cases t <;> simp [isB] at c ⊢
end HM
set_option Elab.async false
set_option linter.all false
set_option maxRecDepth 100000
set_option maxHeartbeats 4000000
namespace HM
open PySem L2
def cd : D → List Nat
  | .str s => s
  | _ => []
def ascL : List (List Nat) → Bool
  | a :: b :: l => decide (a < b) && ascL (b :: l)
  | _ => true
theorem ascL_iff : ∀ ss : List (List Nat), ascL ss = true ↔ ∀ i a b, ss[i]? = some a → ss[i + 1]? = some b → a < b
  | [] => ⟨fun _ i a b h => by simp at h, fun _ => rfl⟩
  | [x] => ⟨fun _ i a b _ h => by simp at h, fun _ => rfl⟩
  | x :: y :: l => by
    have ih := ascL_iff (y :: l)
    unfold ascL
    rw [Bool.and_eq_true, decide_eq_true_eq, ih]
    constructor
    · rintro ⟨h1, h2⟩ i a b ha hb
      cases i with
      | zero =>
        simp at ha hb
        subst ha hb
        exact h1
      | succ i =>
        simp only [List.getElem?_cons_succ] at ha hb
        exact h2 i a b ha (by simpa using hb)
    · intro h
      refine ⟨h 0 x y (by simp) (by simp), fun i a b ha hb => h (i + 1) a b (by simpa using ha) (by simpa using hb)⟩
theorem asc_eq {d : D} {h : LH} {ss : List (List Nat)} (hl : dLen [d] h = .ok (.int ss.length) h) (hx : ∀ (k : Nat) s, ss[k]? = some s → dIx d (.int k) h = .ok (.str s) h) (hn : ss.length ≤ 1000000) :
    L.f_is_ascending [d] h = .ok (.bl (ascL ss)) h := by
  unfold L.f_is_ascending
  rw [mkF_eq (by rfl)]
  unfold L.b_is_ascending
  have key := loopF_gen (g := itN2 1 (ss.length : Int)) (t := .nm 1) (body := sIf (mTst (mOp dGe (mOp dIx (mVar 0) (mOp dSub (mVar 1) (mC (.int 1)))) (mOp dIx (mVar 0) (mVar 1)))) (sRet (mC (.bl false))) sNil) (N := ss.length - 1) (fun j => .int (1 + (j : Nat)))
    (fun j e g => g = h ∧ (∃ v, e = [some d, v]) ∧ ∀ i a b, i < j → ss[i]? = some a → ss[i + 1]? = some b → a < b)
    (fun r => if ascL ss then ∃ v, r = .next [some d, v] h else r = .ret (.bl false) h)
    (fun j e g hj hi => by
      show some (if j < ((ss.length : Int) - 1).toNat then some (D.int (1 + j)) else none) = _
      rw [show ((ss.length : Int) - 1).toNat = ss.length - 1 by omega]) (by
      rintro j e g hj ⟨rfl, ⟨v, rfl⟩, hp⟩
      refine ⟨[some d, some (.int (1 + (j : Nat)))], rfl, ?_⟩
      have h1 : ss[j]? = some (ss[j]'(by omega)) := List.getElem?_eq_getElem _
      have h2 : ss[j + 1]? = some (ss[j + 1]'(by omega)) := List.getElem?_eq_getElem _
      have e1 := hx j _ h1
      have e2 := hx (j + 1) _ h2
      have c1 : 1 + (j : Int) - 1 = j := by omega
      have c2 : 1 + (j : Int) = ((j + 1 : Nat) : Int) := by omega
      have eg : ∀ (a b : List Nat), dGe (.str a) (.str b) g = .ok (.bl (!decide (a < b))) g := fun a b => rfl
      have key : (sIf (mTst (mOp dGe (mOp dIx (mVar 0) (mOp dSub (mVar 1) (mC (.int 1)))) (mOp dIx (mVar 0) (mVar 1)))) (sRet (mC (.bl false))) sNil) [some d, some (.int (1 + (j : Nat)))] g = if decide (ss[j] < ss[j + 1]) = true then .next [some d, some (.int (1 + (j : Nat)))] g else .ret (.bl false) g := by
        rw [c2] at *
        simp [dSub_int, show ((j + 1 : Nat) : Int) - 1 = j by omega, e1]
        have e2' : dIx d (.int ((j : Int) + 1)) g = .ok (.str ss[j + 1]) g := e2
        simp [e2', eg]
        by_cases q : ss[j] < ss[j + 1] <;> simp [q]
      rw [key]
      by_cases q : ss[j] < ss[j + 1]
      · rw [if_pos (decide_eq_true q)]
        refine ⟨rfl, ⟨_, rfl⟩, fun i a b hi ha hb => ?_⟩
        by_cases c : i = j
        · subst c
          rw [h1] at ha
          rw [h2] at hb
          cases ha
          cases hb
          exact q
        · exact hp i a b (by omega) ha hb
      · have : ¬ ascL ss = true := fun z => q ((ascL_iff ss).mp z j _ _ h1 h2)
        rw [if_neg (show ¬ decide (ss[j] < ss[j + 1]) = true from fun z => q (of_decide_eq_true z))]
        dsimp only
        rw [if_neg this])
    (fun e g ⟨hg, ⟨v, he⟩, hp⟩ => by
      subst hg he
      have : ascL ss = true := (ascL_iff ss).mpr fun i a b ha hb => hp i a b (by have := lt_of_get hb; omega) ha hb
      rw [if_pos this]
      exact ⟨v, rfl⟩) (ss.length - 1) 0 [some d, none] h (by omega) ⟨rfl, ⟨_, rfl⟩, fun i a b hi => by omega⟩
  simp -implicitDefEqProofs only [ev_seq]
  simp -implicitDefEqProofs [ev_rng2, hl, show (ss.length : Int) < 4611686018427387904 by omega, show -4611686018427387904 ≤ (ss.length : Int) by omega]
  by_cases q : ascL ss = true
  · rw [if_pos q] at key
    obtain ⟨v, ev⟩ := key
    simp [ev, q]
  · rw [if_neg q] at key
    have q' : ascL ss = false := by simpa using q
    simp [key, q']
theorem ris_eq {d : D} {h : LH} {ss : List (List Nat)} (hl : dLen [d] h = .ok (.int ss.length) h) (hx : ∀ (k : Nat) s, ss[k]? = some s → dIx d (.int k) h = .ok (.str s) h) (hn : ss.length ≤ 1000000) :
    L.f__law_rising [d] h = .ok (.bl (ascL ss)) h := by
  unfold L.f__law_rising
  rw [mkF_eq (by rfl)]
  unfold L.b__law_rising
  have key := loopF_gen (g := itN (ss.length - 1)) (t := .nm 1) (body := sIf (mTNot (mTst (mOp dLt (mOp dIx (mVar 0) (mVar 1)) (mOp dIx (mVar 0) (mOp dAdd (mVar 1) (mC (.int 1))))))) (sRet (mC (.bl false))) sNil) (N := ss.length - 1) (fun j => .int (j : Nat))
    (fun j e g => g = h ∧ (∃ v, e = [some d, v]) ∧ ∀ i a b, i < j → ss[i]? = some a → ss[i + 1]? = some b → a < b)
    (fun r => if ascL ss then ∃ v, r = .next [some d, v] h else r = .ret (.bl false) h)
    (fun j e g hj hi => rfl) (by
      rintro j e g hj ⟨rfl, ⟨v, rfl⟩, hp⟩
      refine ⟨[some d, some (.int (j : Nat))], rfl, ?_⟩
      have h1 : ss[j]? = some (ss[j]'(by omega)) := List.getElem?_eq_getElem _
      have h2 : ss[j + 1]? = some (ss[j + 1]'(by omega)) := List.getElem?_eq_getElem _
      have e1 := hx j _ h1
      have e2' : dIx d (.int ((j : Int) + 1)) g = .ok (.str ss[j + 1]) g := hx (j + 1) _ h2
      have eg : ∀ (a b : List Nat), dLt (.str a) (.str b) g = .ok (.bl (decide (a < b))) g := fun a b => rfl
      have key : (sIf (mTNot (mTst (mOp dLt (mOp dIx (mVar 0) (mVar 1)) (mOp dIx (mVar 0) (mOp dAdd (mVar 1) (mC (.int 1))))))) (sRet (mC (.bl false))) sNil) [some d, some (.int (j : Nat))] g = if decide (ss[j] < ss[j + 1]) = true then .next [some d, some (.int (j : Nat))] g else .ret (.bl false) g := by
        by_cases q : ss[j] < ss[j + 1] <;> simp [dAdd_int, e1, e2', eg, q]
      rw [key]
      by_cases q : ss[j] < ss[j + 1]
      · rw [if_pos (decide_eq_true q)]
        refine ⟨rfl, ⟨_, rfl⟩, fun i a b hi ha hb => ?_⟩
        by_cases c : i = j
        · subst c
          rw [h1] at ha
          rw [h2] at hb
          cases ha
          cases hb
          exact q
        · exact hp i a b (by omega) ha hb
      · have : ¬ ascL ss = true := fun z => q ((ascL_iff ss).mp z j _ _ h1 h2)
        rw [if_neg (show ¬ decide (ss[j] < ss[j + 1]) = true from fun z => q (of_decide_eq_true z))]
        dsimp only
        rw [if_neg this])
    (fun e g ⟨hg, ⟨v, he⟩, hp⟩ => by
      subst hg he
      have : ascL ss = true := (ascL_iff ss).mpr fun i a b ha hb => hp i a b (by have := lt_of_get hb; omega) ha hb
      rw [if_pos this]
      exact ⟨v, rfl⟩) (ss.length - 1) 0 [some d, none] h (by omega) ⟨rfl, ⟨_, rfl⟩, fun i a b hi => by omega⟩
  simp -implicitDefEqProofs only [ev_seq]
  have etn : ((ss.length : Int) - 1).toNat = ss.length - 1 := by omega
  simp -implicitDefEqProofs [ev_rng1, hl, dSub_int, etn, show (ss.length : Int) - 1 < 4611686018427387904 by omega, show -4611686018427387904 ≤ (ss.length : Int) - 1 by omega]
  by_cases q : ascL ss = true
  · rw [if_pos q] at key
    obtain ⟨v, ev⟩ := key
    simp [ev, q]
  · rw [if_neg q] at key
    have q' : ascL ss = false := by simpa using q
    simp [key, q']
/-! ### the law's own name, key -/
theorem lkey_eq {d : D} {h : LH} {t : BT} (ht : tyD d h = some t) (hl : ∀ s, d = .str s → s.length ≤ 1000000) : L.f__law_is_key [d] h = .ok (.bl (isKey d)) h := by
  unfold L.f__law_is_key
  rw [mkF_eq (by rfl)]
  unfold L.b__law_is_key
  by_cases c : t = .str
  · subst c
    obtain ⟨s, rfl⟩ := tyD_str ht
    have hs : s.length ≤ 16777216 := by have := hl s rfl; omega
    have hk := S_eq "k"
    simp at hk
    simp -implicitDefEqProofs only [ev_seq]
    simp [tyD, isB, dLen_str hs, dLt_int, dGt_int, truD]
    by_cases c1 : (s.length : Int) < 2
    · simp [c1, isKey, show ¬ 2 ≤ s.length by omega]
    · by_cases c2 : (12 : Int) < s.length
      · simp [c1, c2, isKey, show ¬ s.length ≤ 12 by omega]
      · have h0 : (0 : Nat) < s.length := by omega
        have e0 : s[0]? = some s[0] := List.getElem?_eq_getElem h0
        have ei : dIx (.str s) (.int 0) h = .ok (.str [s[0]]) h := dIx_str hs (atI_of (by decide) e0)
        simp [c1, c2, ei, hk, dEq_str, dSl_str hs, cut_from (show (0 : Int) ≤ 1 by decide), S_ofD, all_eq, isKey, show 2 ≤ s.length by omega, show s.length ≤ 12 by omega, e0]
        by_cases c3 : s[0] = 107 <;> simp [c3]
  · have hn : isKey d = false := by
      cases d <;> simp [isKey, tyD] at ht ⊢
      exact absurd ht.symm c
    simp -implicitDefEqProofs only [ev_seq]
    simp [ht, hn]
    cases t <;> simp [isB, truD] at c ⊢
theorem lname_eq {d : D} {h : LH} {t : BT} (ht : tyD d h = some t) (hl : ∀ s, d = .str s → s.length ≤ 1000000) : L.f__law_is_name [d] h = .ok (.bl (isLN d)) h := by
  unfold L.f__law_is_name
  rw [mkF_eq (by rfl)]
  unfold L.b__law_is_name
  by_cases c : t = .str
  · subst c
    obtain ⟨s, rfl⟩ := tyD_str ht
    have hs : s.length ≤ 16777216 := by have := hl s rfl; omega
    simp -implicitDefEqProofs only [ev_seq]
    simp [tyD, isB, dLen_str hs, dLt_int, dGt_int, truD]
    by_cases c1 : (s.length : Int) < 1
    · simp [c1, isLN, show ¬ 1 ≤ s.length by omega]
    · by_cases c2 : (12 : Int) < s.length
      · simp [c1, c2, isLN, show ¬ s.length ≤ 12 by omega]
      · simp [c1, c2, S_ofN, all_eq, isLN, show 1 ≤ s.length by omega, show s.length ≤ 12 by omega]
  · have hn : isLN d = false := by
      cases d <;> simp [isLN, tyD] at ht ⊢
      exact absurd ht.symm c
    simp -implicitDefEqProofs only [ev_seq]
    simp [ht, hn]
    cases t <;> simp [isB, truD] at c ⊢
theorem isKey_str {d : D} (h : isKey d = true) : d = .str (cd d) := by
  cases d <;> first | rfl | (simp [isKey] at h; done)
theorem isLN_str {d : D} (h : isLN d = true) : d = .str (cd d) := by
  cases d <;> first | rfl | (simp [isLN] at h; done)
theorem row_inv2 {d : D} (h : isRow 2 d = true) : ∃ a b, d = .tup [a, b] := by
  cases d with
  | tup xs =>
    simp [isRow] at h
    match xs, h with
    | [a, b], _ => exact ⟨a, b, rfl⟩
    | [], h => simp at h
    | [_], h => simp at h
    | _ :: _ :: _ :: _, h => simp at h; omega
  | _ => simp [isRow] at h
theorem row_inv3 {d : D} (h : isRow 3 d = true) : ∃ a b c, d = .tup [a, b, c] := by
  cases d with
  | tup xs =>
    simp [isRow] at h
    match xs, h with
    | [a, b, c], _ => exact ⟨a, b, c, rfl⟩
    | [], h => simp at h
    | [_], h => simp at h
    | [_, _], h => simp at h
    | _ :: _ :: _ :: _ :: _, h => simp at h; omega
  | _ => simp [isRow] at h
theorem row_inv4 {d : D} (h : isRow 4 d = true) : ∃ a b c e, d = .tup [a, b, c, e] := by
  cases d with
  | tup xs =>
    simp [isRow] at h
    match xs, h with
    | [a, b, c, e], _ => exact ⟨a, b, c, e, rfl⟩
    | [], h => simp at h
    | [_], h => simp at h
    | [_, _], h => simp at h
    | [_, _, _], h => simp at h
    | _ :: _ :: _ :: _ :: _ :: _, h => simp at h; omega
  | _ => simp [isRow] at h
theorem row_inv6 {d : D} (h : isRow 6 d = true) : ∃ a b c e f g, d = .tup [a, b, c, e, f, g] := by
  cases d with
  | tup xs =>
    simp [isRow] at h
    match xs, h with
    | [a, b, c, e, f, g], _ => exact ⟨a, b, c, e, f, g, rfl⟩
    | [], h => simp at h
    | [_], h => simp at h
    | [_, _], h => simp at h
    | [_, _, _], h => simp at h
    | [_, _, _, _], h => simp at h
    | [_, _, _, _, _], h => simp at h
    | _ :: _ :: _ :: _ :: _ :: _ :: _ :: _, h => simp at h; omega
  | _ => simp [isRow] at h
theorem tab_inv {d : D} {n : Int} (h : isTab n d = true) : ∃ xs, d = .tup xs ∧ (xs.length : Int) ≤ n := by
  cases d with
  | tup xs => exact ⟨xs, rfl, by simpa [isTab] using h⟩
  | _ => simp [isTab] at h
theorem tup_ix {xs : List D} {k : Nat} {x : D} {h : LH} (e : xs[k]? = some x) : dIx (.tup xs) (.int k) h = .ok x h := dIx_tup (atI_nat e)
/-- a tuple of texts, by its items -/
theorem cds_ix {xs : List D} {h : LH} (hx : ∀ x ∈ xs, x = .str (cd x)) : ∀ (k : Nat) s, (xs.map cd)[k]? = some s → dIx (.tup xs) (.int k) h = .ok (.str s) h := by
  intro k s hs
  rw [List.getElem?_map] at hs
  cases e : xs[k]? with
  | none => rw [e] at hs; cases hs
  | some x =>
    rw [e] at hs
    cases hs
    rw [tup_ix e]
    have := hx x (List.mem_of_getElem? e)
    rw [← this]
theorem asc_tup {xs : List D} {h : LH} (hx : ∀ x ∈ xs, x = .str (cd x)) (hn : xs.length ≤ 1000000) : L.f_is_ascending [.tup xs] h = .ok (.bl (ascL (xs.map cd))) h :=
  asc_eq (by rw [dLen_tup, List.length_map]) (cds_ix hx) (by rw [List.length_map]; exact hn)
theorem ris_tup {xs : List D} {h : LH} (hx : ∀ x ∈ xs, x = .str (cd x)) (hn : xs.length ≤ 1000000) : L.f__law_rising [.tup xs] h = .ok (.bl (ascL (xs.map cd))) h :=
  ris_eq (by rw [dLen_tup, List.length_map]) (cds_ix hx) (by rw [List.length_map]; exact hn)
/-! ### roles -/
def isRole (d : D) : Bool := match d with
  | .tup [a, .tup ks] => decide (ks.length ≤ 16) && (ks.all isKey && (ascL (ks.map cd) && isInt 1 ks.length a))
  | _ => false
theorem role_no1 {d : D} (h : isRow 2 d = false) : isRole d = false := by
  cases e : isRole d with
  | false => rfl
  | true =>
    unfold isRole at e
    split at e
    · simp [isRow] at h
    · cases e
theorem role_no2 {a b : D} (h : isTab 16 b = false) : isRole (.tup [a, b]) = false := by
  cases b with
  | tup ks =>
    have : ¬ ks.length ≤ 16 := by
      simp [isTab] at h
      omega
    simp [isRole, this]
  | _ => rfl
theorem role_eq {d : D} {h : LH} {r : Nat} (c : Cl h r d) : L.f_is_role [d] h = .ok (.bl (isRole d)) h := by
  obtain ⟨t, ht⟩ := c.ty
  unfold L.f_is_role
  rw [mkF_eq (by rfl)]
  unfold L.b_is_role
  have e1 := row_eq' (n := 2) ht
  cases q1 : isRow 2 d with
  | false =>
    rw [q1] at e1
    simp -implicitDefEqProofs only [ev_seq]
    simp -implicitDefEqProofs [e1, truD, role_no1 q1]
  | true =>
    rw [q1] at e1
    obtain ⟨a, b, rfl⟩ := row_inv2 q1
    cases r with
    | zero => exact c.elim
    | succ r =>
    have ca := c.2 a (by simp)
    have cb := c.2 b (by simp)
    obtain ⟨ta, hta⟩ := ca.ty
    obtain ⟨tb, htb⟩ := cb.ty
    have i0 : ∀ g, dIx (.tup [a, b]) (.int 0) g = .ok a g := fun _ => rfl
    have i1 : ∀ g, dIx (.tup [a, b]) (.int 1) g = .ok b g := fun _ => rfl
    have e2 := tab_eq (n := 16) htb
    cases q2 : isTab 16 b with
    | false =>
      rw [q2] at e2
      simp -implicitDefEqProofs only [ev_seq]
      simp -implicitDefEqProofs [e1, truD, i1, e2, role_no2 q2]
    | true =>
      rw [q2] at e2
      obtain ⟨ks, rfl, hk⟩ := tab_inv q2
      have ck : ∀ x ∈ ks, ∃ t, tyD x h = some t ∧ ∀ s, x = .str s → s.length ≤ 1000000 := by
        intro x hx
        cases r with
        | zero => exact cb.elim
        | succ r =>
          obtain ⟨t, ht⟩ := (cb.2 x hx).ty
          exact ⟨t, ht, (cb.2 x hx).len⟩
      have key := loopF_test (body := sIf (mTNot (mTru (mApp L.f_is_key (mCons (mVar 1) mNil)))) (sRet (mC (.bl false))) sNil) (i := 1) (xs := ks) (h := h) (e := [some (.tup [a, .tup ks]), none]) isKey (by simp) (fun x hx => by
        obtain ⟨t, h1, h2⟩ := ck x hx
        have := key_eq h1 fun s hs => by have := h2 s hs; omega
        cases q : isKey x <;> simp -implicitDefEqProofs [this, q, truD])
      have e3 := int_eq (lo := 1) (hi := ks.length) (h := h) hta
      have h16 : ks.length ≤ 16 := by omega
      cases q3 : ks.all isKey with
      | false =>
        rw [q3] at key
        simp only [Bool.false_eq_true, if_false] at key
        simp -implicitDefEqProofs only [ev_seq]
        simp -implicitDefEqProofs [e1, truD, i1, e2, key, isRole, q3]
      | true =>
        rw [q3] at key
        simp only [if_true] at key
        obtain ⟨v, ev⟩ := key
        have e4 := asc_tup (h := h) (xs := ks) (fun x hx => isKey_str (List.all_eq_true.mp q3 x hx)) (by omega)
        simp -implicitDefEqProofs only [ev_seq]
        cases q4 : ascL (ks.map cd) <;> rw [q4] at e4 <;> simp -implicitDefEqProofs [e1, truD, i0, i1, e2, ev, dLen_tup, e4, e3, isRole, q3, q4, h16]
theorem lrole_eq {d : D} {h : LH} {r : Nat} (c : Cl h r d) : L.f__law_is_role [d] h = .ok (.bl (isRole d)) h := by
  obtain ⟨t, ht⟩ := c.ty
  unfold L.f__law_is_role
  rw [mkF_eq (by rfl)]
  unfold L.b__law_is_role
  have e1 := ltup_eq (lo := 2) (hi := 2) ht
  cases q1 : isRow 2 d with
  | false =>
    have : isTL 2 2 d = false := by
      cases d with
      | tup xs =>
        simp -implicitDefEqProofs [isRow] at q1
        simp -implicitDefEqProofs [isTL]
        omega
      | _ => rfl
    rw [this] at e1
    simp -implicitDefEqProofs only [ev_seq]
    simp -implicitDefEqProofs [e1, truD, role_no1 q1]
  | true =>
    obtain ⟨a, b, rfl⟩ := row_inv2 q1
    have : isTL 2 2 (.tup [a, b]) = true := by simp [isTL]
    rw [this] at e1
    cases r with
    | zero => exact c.elim
    | succ r =>
    have ca := c.2 a (by simp)
    have cb := c.2 b (by simp)
    obtain ⟨ta, hta⟩ := ca.ty
    obtain ⟨tb, htb⟩ := cb.ty
    have i0 : ∀ g, dIx (.tup [a, b]) (.int 0) g = .ok a g := fun _ => rfl
    have i1 : ∀ g, dIx (.tup [a, b]) (.int 1) g = .ok b g := fun _ => rfl
    have e2 := ltup_eq (lo := 1) (hi := 16) htb
    have e5 := lnum_eq (lo := 1) hta
    cases q2 : isTab 16 b with
    | false =>
      have : isTL 1 16 b = false := by
        cases b with
        | tup xs =>
          simp -implicitDefEqProofs [isTab] at q2
          simp -implicitDefEqProofs [isTL]
          omega
        | _ => rfl
      rw [this] at e2
      simp -implicitDefEqProofs only [ev_seq]
      simp -implicitDefEqProofs [e1, truD, i1, e2, role_no2 q2]
    | true =>
      obtain ⟨ks, rfl, hk⟩ := tab_inv q2
      by_cases q0 : ks.length = 0
      · have : isTL 1 16 (.tup ks) = false := by
          apply decide_eq_false
          omega
        rw [this] at e2
        have : ks = [] := List.eq_nil_of_length_eq_zero q0
        subst this
        simp -implicitDefEqProofs only [ev_seq]
        simp -implicitDefEqProofs [e1, truD, i1, e2, isRole]
        intro _
        cases a <;> simp -implicitDefEqProofs [isInt]
        omega
      · have : isTL 1 16 (.tup ks) = true := by
          apply decide_eq_true
          omega
        rw [this] at e2
        have ck : ∀ x ∈ ks, ∃ t, tyD x h = some t ∧ ∀ s, x = .str s → s.length ≤ 1000000 := by
          intro x hx
          cases r with
          | zero => exact cb.elim
          | succ r =>
            obtain ⟨t, ht⟩ := (cb.2 x hx).ty
            exact ⟨t, ht, (cb.2 x hx).len⟩
        have key := loopF_test (body := sIf (mTNot (mTru (mApp L.f__law_is_key (mCons (mVar 1) mNil)))) (sRet (mC (.bl false))) sNil) (i := 1) (xs := ks) (h := h) (e := [some (.tup [a, .tup ks]), none]) isKey (by simp) (fun x hx => by
          obtain ⟨t, h1, h2⟩ := ck x hx
          have := lkey_eq h1 h2
          cases q : isKey x <;> simp -implicitDefEqProofs [this, q, truD])
        have h16 : ks.length ≤ 16 := by omega
        cases q5 : isInt 1 1000000000000 a with
        | false =>
          rw [q5] at e5
          have : isInt 1 ks.length a = false := isInt_mono (by omega) (by omega) q5
          simp -implicitDefEqProofs only [ev_seq]
          simp -implicitDefEqProofs [e1, truD, i0, i1, e2, e5, isRole, this]
        | true =>
          rw [q5] at e5
          obtain ⟨i, rfl, hi, _⟩ := isInt_inv q5
          cases q3 : ks.all isKey with
          | false =>
            rw [q3] at key
            simp only [Bool.false_eq_true, if_false] at key
            simp -implicitDefEqProofs only [ev_seq]
            simp -implicitDefEqProofs [e1, truD, i0, i1, e2, e5, key, isRole, q3]
          | true =>
            rw [q3] at key
            simp only [if_true] at key
            obtain ⟨v, ev⟩ := key
            have e4 := ris_tup (h := h) (xs := ks) (fun x hx => isKey_str (List.all_eq_true.mp q3 x hx)) (by omega)
            simp -implicitDefEqProofs only [ev_seq]
            cases q4 : ascL (ks.map cd) <;> rw [q4] at e4 <;> simp -implicitDefEqProofs [e1, truD, i0, i1, e2, e5, ev, dLen_tup, e4, isRole, q3, q4, h16, dLe_int, isInt, hi]
end HM
set_option Elab.async false
set_option linter.all false
set_option maxRecDepth 100000
set_option maxHeartbeats 4000000
namespace HM
open PySem L2
/-! ### sums, heads, charters, stamps -/
def kCr : List Nat := (Str.ofString "charter").cps.toList
def kSt : List Nat := (Str.ofString "stamp").cps.toList
def kSh : List Nat := (Str.ofString "shelf").cps.toList
def kLi : List Nat := (Str.ofString "list").cps.toList
theorem S_ch : S "charter" = .str kCr := rfl
theorem S_st : S "stamp" = .str kSt := rfl
theorem S_sh : S "shelf" = .str kSh := rfl
theorem S_li : S "list" = .str kLi := rfl
theorem okS_of {s : List Nat} (h1 : s.length ≤ 1000000) (h2 : s.all (fun c => decide (c < 1114112)) = true) : okS s :=
  ⟨h1, fun c hc => of_decide_eq_true (List.all_eq_true.mp h2 c hc)⟩
theorem ok_kCr : okS kCr := okS_of (by decide +kernel) (by decide +kernel)
theorem ok_kSt : okS kSt := okS_of (by decide +kernel) (by decide +kernel)
theorem ok_kSh : okS kSh := okS_of (by decide +kernel) (by decide +kernel)
theorem ok_kLi : okS kLi := okS_of (by decide +kernel) (by decide +kernel)
theorem kinds : kCr ≠ kSt ∧ kCr ≠ kSh ∧ kCr ≠ kLi ∧ kSt ≠ kSh ∧ kSt ≠ kLi ∧ kSh ≠ kLi := by decide +kernel
def isSum (d : D) : Bool := match d with
  | .tup [a, b, c] => isVer a && (isAm b && isDg c)
  | _ => false
theorem row3_no {d : D} (h : isRow 3 d = false) : isSum d = false := by
  cases e : isSum d with
  | false => rfl
  | true =>
    unfold isSum at e
    split at e
    · simp [isRow] at h
    · cases e
theorem row_lrow {n : Int} {d : D} : isTL n n d = isRow n d := by
  cases d with
  | tup xs =>
    unfold isTL isRow
    simp only [decide_eq_decide]
    omega
  | _ => rfl
theorem tab_ltab {n : Int} {d : D} : isTL 0 n d = isTab n d := by
  cases d with
  | tup xs =>
    unfold isTL isTab
    simp only [decide_eq_decide]
    omega
  | _ => rfl
theorem lrow_eq {d : D} {h : LH} {t : BT} {n : Int} (ht : tyD d h = some t) : L.f__law_tuple [d, .int n, .int n] h = .ok (.bl (isRow n d)) h := by
  rw [ltup_eq ht, row_lrow]
theorem sum_eq {d : D} {h : LH} {r : Nat} (c : Cl h r d) : L.f_is_sum [d] h = .ok (.bl (isSum d)) h := by
  obtain ⟨t, ht⟩ := c.ty
  unfold L.f_is_sum
  rw [mkF_eq (by rfl)]
  unfold L.b_is_sum
  have e1 := row_eq' (n := 3) ht
  cases q1 : isRow 3 d with
  | false =>
    rw [q1] at e1
    simp -implicitDefEqProofs [e1, row3_no q1]
  | true =>
    rw [q1] at e1
    obtain ⟨a, b, f, rfl⟩ := row_inv3 q1
    cases r with
    | zero => exact c.elim
    | succ r =>
    have ca := c.2 a (by simp)
    have cb := c.2 b (by simp)
    have cf := c.2 f (by simp)
    obtain ⟨ta, hta⟩ := ca.ty
    obtain ⟨tb, htb⟩ := cb.ty
    obtain ⟨tf, htf⟩ := cf.ty
    have i0 : ∀ g, dIx (.tup [a, b, f]) (.int 0) g = .ok a g := fun _ => rfl
    have i1 : ∀ g, dIx (.tup [a, b, f]) (.int 1) g = .ok b g := fun _ => rfl
    have i2 : ∀ g, dIx (.tup [a, b, f]) (.int 2) g = .ok f g := fun _ => rfl
    have e2 := ver_eq hta
    have e3 := am_eq htb
    have e4 := dg_eq htf cf.len
    have es : isSum (.tup [a, b, f]) = (isVer a && (isAm b && isDg f)) := rfl
    rw [es]
    cases q2 : isVer a <;> cases q3 : isAm b <;> rw [q2] at e2 <;> rw [q3] at e3 <;> simp -implicitDefEqProofs [e1, i0, i1, i2, e2, e3, e4]
theorem lsum_eq {d : D} {h : LH} {r : Nat} (c : Cl h r d) : L.f__law_is_sum [d] h = .ok (.bl (isSum d)) h := by
  obtain ⟨t, ht⟩ := c.ty
  unfold L.f__law_is_sum
  rw [mkF_eq (by rfl)]
  unfold L.b__law_is_sum
  have e1 := lrow_eq (n := 3) ht
  cases q1 : isRow 3 d with
  | false =>
    rw [q1] at e1
    simp -implicitDefEqProofs [e1, row3_no q1]
  | true =>
    rw [q1] at e1
    obtain ⟨a, b, f, rfl⟩ := row_inv3 q1
    cases r with
    | zero => exact c.elim
    | succ r =>
    have ca := c.2 a (by simp)
    have cb := c.2 b (by simp)
    have cf := c.2 f (by simp)
    obtain ⟨ta, hta⟩ := ca.ty
    obtain ⟨tb, htb⟩ := cb.ty
    obtain ⟨tf, htf⟩ := cf.ty
    have i0 : ∀ g, dIx (.tup [a, b, f]) (.int 0) g = .ok a g := fun _ => rfl
    have i1 : ∀ g, dIx (.tup [a, b, f]) (.int 1) g = .ok b g := fun _ => rfl
    have i2 : ∀ g, dIx (.tup [a, b, f]) (.int 2) g = .ok f g := fun _ => rfl
    have e2 : L.f__law_number_v2 [a, .int 1] h = .ok (.bl (isVer a)) h := lnum_eq hta
    have e3 : L.f__law_number_v2 [b, .int 0] h = .ok (.bl (isAm b)) h := lnum_eq htb
    have e4 := hexed_eq htf cf.len
    have es : isSum (.tup [a, b, f]) = (isVer a && (isAm b && isDg f)) := rfl
    rw [es]
    cases q2 : isVer a <;> cases q3 : isAm b <;> rw [q2] at e2 <;> rw [q3] at e3 <;> simp -implicitDefEqProofs [e1, i0, i1, i2, e2, e3, e4]
theorem head_eq {xs : List D} {a v e : D} {k : List Nat} {n : Nat} {h : LH} {r : Nat} (ok : okS k) (i0 : xs[0]? = some a) (i1 : xs[n]? = some v) (i2 : xs[n + 1]? = some e) (c : Cl h r (.tup xs)) (hr : r ≤ 40) :
    L.f_has_head [.tup xs, .str k, .int n] h = .ok (.bl (isS k a && (isVer v && isAm e))) h := by
  cases r with
  | zero => exact c.elim
  | succ r =>
  have ca := c.2 a (List.mem_of_getElem? i0)
  obtain ⟨tv, htv⟩ := (c.2 v (List.mem_of_getElem? i1)).ty
  obtain ⟨te, hte⟩ := (c.2 e (List.mem_of_getElem? i2)).ty
  unfold L.f_has_head
  rw [mkF_eq (by rfl)]
  unfold L.b_has_head
  have j0 : ∀ g, dIx (.tup xs) (.int 0) g = .ok a g := fun g => tup_ix (k := 0) i0
  have j1 : ∀ g, dIx (.tup xs) (.int n) g = .ok v g := fun g => tup_ix i1
  have j2 : ∀ g, dIx (.tup xs) (.int ((n : Int) + 1)) g = .ok e g := fun g => tup_ix (k := n + 1) i2
  have e1 := dEq_cl ca (by omega) ok
  have e2 := ver_eq htv
  have e3 := am_eq hte
  cases q1 : isS k a <;> cases q2 : isVer v <;> rw [q1] at e1 <;> rw [q2] at e2 <;> simp -implicitDefEqProofs [j0, j1, j2, dAdd_int, e1, e2, e3]
def isStamp (d : D) : Bool := match d with
  | .tup [k, v, e, s] => isS kSt k && (isVer v && (isAm e && isSum s))
  | _ => false
def isCharter (d : D) : Bool := match d with
  | .tup [k, v, e, .tup rs] => isS kCr k && (isVer v && (isAm e && (decide (rs.length = 4) && rs.all isRole)))
  | _ => false
theorem stamp_no {d : D} (h : isRow 4 d = false) : isStamp d = false := by
  cases e : isStamp d with
  | false => rfl
  | true =>
    unfold isStamp at e
    split at e
    · simp [isRow] at h
    · cases e
theorem charter_no {d : D} (h : isRow 4 d = false) : isCharter d = false := by
  cases e : isCharter d with
  | false => rfl
  | true =>
    unfold isCharter at e
    split at e
    · simp [isRow] at h
    · cases e
theorem charter_no2 {k v e b : D} (h : isRow 4 b = false) : isCharter (.tup [k, v, e, b]) = false := by
  cases b with
  | tup rs =>
    have : ¬ rs.length = 4 := by
      simp [isRow] at h
      omega
    simp [isCharter, this]
  | _ => rfl
theorem stamp_eq {d : D} {h : LH} {r : Nat} (c : Cl h r d) (hr : r ≤ 40) : L.f_is_stamp [d] h = .ok (.bl (isStamp d)) h := by
  obtain ⟨t, ht⟩ := c.ty
  unfold L.f_is_stamp
  rw [mkF_eq (by rfl)]
  unfold L.b_is_stamp
  have e1 := row_eq' (n := 4) ht
  cases q1 : isRow 4 d with
  | false =>
    rw [q1] at e1
    simp -implicitDefEqProofs [e1, stamp_no q1]
  | true =>
    rw [q1] at e1
    obtain ⟨k, v, e, s, rfl⟩ := row_inv4 q1
    have e2 : L.f_has_head [.tup [k, v, e, s], .str kSt, .int 1] h = _ := head_eq (n := 1) ok_kSt rfl rfl rfl c hr
    cases r with
    | zero => exact c.elim
    | succ r =>
    have i3 : ∀ g, dIx (.tup [k, v, e, s]) (.int 3) g = .ok s g := fun _ => rfl
    have e3 := sum_eq (c.2 s (by simp))
    have es : isStamp (.tup [k, v, e, s]) = (isS kSt k && (isVer v && (isAm e && isSum s))) := rfl
    rw [es, S_st]
    cases q2 : isS kSt k <;> cases q3 : isVer v <;> cases q4 : isAm e <;> rw [q2, q3, q4] at e2 <;> simp -implicitDefEqProofs [e1, i3, e2, e3]
theorem lstamp_eq {d : D} {h : LH} {r : Nat} (c : Cl h r d) (hr : r ≤ 40) : L.f__law_is_stamp [d] h = .ok (.bl (isStamp d)) h := by
  obtain ⟨t, ht⟩ := c.ty
  unfold L.f__law_is_stamp
  rw [mkF_eq (by rfl)]
  unfold L.b__law_is_stamp
  rw [ev_seq]
  have e1 := lrow_eq (n := 4) ht
  cases q1 : isRow 4 d with
  | false =>
    rw [q1] at e1
    simp -implicitDefEqProofs [e1, truD, stamp_no q1]
  | true =>
    rw [q1] at e1
    obtain ⟨k, v, e, s, rfl⟩ := row_inv4 q1
    cases r with
    | zero => exact c.elim
    | succ r =>
    obtain ⟨tv, htv⟩ := (c.2 v (by simp)).ty
    obtain ⟨te, hte⟩ := (c.2 e (by simp)).ty
    have i0 : ∀ g, dIx (.tup [k, v, e, s]) (.int 0) g = .ok k g := fun _ => rfl
    have i1 : ∀ g, dIx (.tup [k, v, e, s]) (.int 1) g = .ok v g := fun _ => rfl
    have i2 : ∀ g, dIx (.tup [k, v, e, s]) (.int 2) g = .ok e g := fun _ => rfl
    have i3 : ∀ g, dIx (.tup [k, v, e, s]) (.int 3) g = .ok s g := fun _ => rfl
    have e2 := dNe_cl (c.2 k (by simp)) (by omega) ok_kSt
    have e3 := lsum_eq (c.2 s (by simp))
    have e4 : L.f__law_number_v2 [v, .int 1] h = .ok (.bl (isVer v)) h := lnum_eq htv
    have e5 : L.f__law_number_v2 [e, .int 0] h = .ok (.bl (isAm e)) h := lnum_eq hte
    have es : isStamp (.tup [k, v, e, s]) = (isS kSt k && (isVer v && (isAm e && isSum s))) := rfl
    rw [es, S_st]
    cases q2 : isS kSt k <;> cases q3 : isVer v <;> cases q4 : isAm e <;> cases q5 : isSum s <;> rw [q2] at e2 <;> rw [q3] at e4 <;> rw [q4] at e5 <;> rw [q5] at e3 <;> simp -implicitDefEqProofs [e1, i0, i1, i2, i3, truD, e2, e3, e4, e5]
theorem charter_eq {d : D} {h : LH} {r : Nat} (c : Cl h r d) (hr : r ≤ 40) : L.f_is_charter [d] h = .ok (.bl (isCharter d)) h := by
  obtain ⟨t, ht⟩ := c.ty
  unfold L.f_is_charter
  rw [mkF_eq (by rfl)]
  unfold L.b_is_charter
  rw [ev_seq]
  have e1 := row_eq' (n := 4) ht
  cases q1 : isRow 4 d with
  | false =>
    rw [q1] at e1
    simp -implicitDefEqProofs [e1, truD, charter_no q1]
  | true =>
    rw [q1] at e1
    obtain ⟨k, v, e, s, rfl⟩ := row_inv4 q1
    have e2 : L.f_has_head [.tup [k, v, e, s], .str kCr, .int 1] h = _ := head_eq (n := 1) ok_kCr rfl rfl rfl c hr
    cases r with
    | zero => exact c.elim
    | succ r =>
    have i3 : ∀ g, dIx (.tup [k, v, e, s]) (.int 3) g = .ok s g := fun _ => rfl
    obtain ⟨ts, hts⟩ := (c.2 s (by simp)).ty
    have e3 := row_eq' (n := 4) hts
    rw [S_ch]
    cases q2 : (isS kCr k && (isVer v && isAm e)) with
    | false =>
      rw [q2] at e2
      have : isCharter (.tup [k, v, e, s]) = false := by
        unfold isCharter
        split
        · rename_i w
          cases w
          cases a1 : isS kCr k <;> cases a2 : isVer v <;> cases a3 : isAm e <;> rw [a1, a2, a3] at q2 <;> first | rfl | cases q2
        · rfl
      simp -implicitDefEqProofs [e1, truD, e2, this]
    | true =>
      rw [q2] at e2
      rw [Bool.and_eq_true, Bool.and_eq_true] at q2
      cases q3 : isRow 4 s with
      | false =>
        rw [q3] at e3
        simp -implicitDefEqProofs [e1, truD, e2, i3, e3, charter_no2 q3]
      | true =>
        rw [q3] at e3
        obtain ⟨rs, rfl, hl⟩ : ∃ rs, s = .tup rs ∧ rs.length = 4 := by
          cases s with
          | tup rs => exact ⟨rs, rfl, by simp [isRow] at q3; omega⟩
          | _ => cases q3
        have cs := c.2 (.tup rs) (by simp)
        cases r with
        | zero => exact cs.elim
        | succ r =>
        have key := loopF_test (body := sIf (mTNot (mTru (mApp L.f_is_role (mCons (mVar 1) mNil)))) (sRet (mC (.bl false))) sNil) (i := 1) (xs := rs) (h := h) (e := [some (.tup [k, v, e, .tup rs]), none]) isRole (by simp) (fun x hx => by
          have := role_eq (cs.2 x hx)
          cases q : isRole x <;> simp -implicitDefEqProofs [this, q, truD])
        cases q4 : rs.all isRole with
        | false =>
          rw [q4] at key
          simp only [Bool.false_eq_true, if_false] at key
          simp -implicitDefEqProofs [ev_seq, e1, truD, e2, i3, e3, key, isCharter, q4]
        | true =>
          rw [q4] at key
          simp only [if_true] at key
          obtain ⟨w, ev⟩ := key
          rw [hl] at ev
          simp -implicitDefEqProofs [ev_seq, e1, truD, e2, i3, e3, ev, isCharter, q4, q2.1, q2.2.1, q2.2.2, hl]
theorem lcharter_eq {d : D} {h : LH} {r : Nat} (c : Cl h r d) (hr : r ≤ 40) : L.f__law_is_charter [d] h = .ok (.bl (isCharter d)) h := by
  obtain ⟨t, ht⟩ := c.ty
  unfold L.f__law_is_charter
  rw [mkF_eq (by rfl)]
  unfold L.b__law_is_charter
  rw [ev_seq]
  have e1 := lrow_eq (n := 4) ht
  cases q1 : isRow 4 d with
  | false =>
    rw [q1] at e1
    simp -implicitDefEqProofs [e1, truD, charter_no q1]
  | true =>
    rw [q1] at e1
    obtain ⟨k, v, e, s, rfl⟩ := row_inv4 q1
    cases r with
    | zero => exact c.elim
    | succ r =>
    obtain ⟨tv, htv⟩ := (c.2 v (by simp)).ty
    obtain ⟨te, hte⟩ := (c.2 e (by simp)).ty
    obtain ⟨ts, hts⟩ := (c.2 s (by simp)).ty
    have i0 : ∀ g, dIx (.tup [k, v, e, s]) (.int 0) g = .ok k g := fun _ => rfl
    have i1 : ∀ g, dIx (.tup [k, v, e, s]) (.int 1) g = .ok v g := fun _ => rfl
    have i2 : ∀ g, dIx (.tup [k, v, e, s]) (.int 2) g = .ok e g := fun _ => rfl
    have i3 : ∀ g, dIx (.tup [k, v, e, s]) (.int 3) g = .ok s g := fun _ => rfl
    have e2 := dNe_cl (c.2 k (by simp)) (by omega) ok_kCr
    have e3 := lrow_eq (n := 4) hts
    have e4 : L.f__law_number_v2 [v, .int 1] h = .ok (.bl (isVer v)) h := lnum_eq htv
    have e5 : L.f__law_number_v2 [e, .int 0] h = .ok (.bl (isAm e)) h := lnum_eq hte
    rw [S_ch]
    cases q2 : isS kCr k with
    | false =>
      rw [q2] at e2
      have : isCharter (.tup [k, v, e, s]) = false := by
        unfold isCharter
        split
        · rename_i w
          cases w
          rw [q2]; rfl
        · rfl
      simp -implicitDefEqProofs [e1, truD, e2, i0, this]
    | true =>
      rw [q2] at e2
      cases q3 : isRow 4 s with
      | false =>
        rw [q3] at e3
        simp -implicitDefEqProofs [e1, truD, e2, i0, i3, e3, charter_no2 q3]
      | true =>
        rw [q3] at e3
        obtain ⟨rs, rfl, hl⟩ : ∃ rs, s = .tup rs ∧ rs.length = 4 := by
          cases s with
          | tup rs => exact ⟨rs, rfl, by simp [isRow] at q3; omega⟩
          | _ => cases q3
        have cs := c.2 (.tup rs) (by simp)
        cases r with
        | zero => exact cs.elim
        | succ r =>
        have key := loopF_test (body := sIf (mTNot (mTru (mApp L.f__law_is_role (mCons (mVar 1) mNil)))) (sRet (mC (.bl false))) sNil) (i := 1) (xs := rs) (h := h) (e := [some (.tup [k, v, e, .tup rs]), none]) isRole (by simp) (fun x hx => by
          have := lrole_eq (cs.2 x hx)
          cases q : isRole x <;> simp -implicitDefEqProofs [this, q, truD])
        have es : isCharter (.tup [k, v, e, .tup rs]) = (isS kCr k && (isVer v && (isAm e && (decide (rs.length = 4) && rs.all isRole)))) := rfl
        rw [es, q2, hl]
        cases q4 : rs.all isRole with
        | false =>
          rw [q4] at key
          simp only [Bool.false_eq_true, if_false] at key
          simp -implicitDefEqProofs [ev_seq, e1, truD, e2, i0, i3, e3, key]
        | true =>
          rw [q4] at key
          simp only [if_true] at key
          obtain ⟨w, ev⟩ := key
          cases q5 : isVer v <;> rw [q5] at e4 <;> simp -implicitDefEqProofs [ev_seq, e1, truD, e2, i0, i1, i2, i3, e3, ev, e4, e5]
end HM
set_option Elab.async false
set_option linter.all false
set_option maxRecDepth 100000
set_option maxHeartbeats 4000000
namespace HM
open PySem L2
/-! ### first items; shelves -/
/-- [row[0] for row in rows] -/
theorem comp_map {i : Nat} {y : M D} {e : EN} {h : LH} {xs : List D} (f : D → D) (hn : xs.length ≤ 16777216)
    (hy : ∀ x g, x ∈ xs → y (e.set i (some x)) g = .ok (f x) g) :
    loopC (itL xs) (.nm i) mYes y e h.length xs.length 0 (h ++ [.lst []]) = .ok (.ref h.length) (h ++ [.lst (xs.map f)]) := by
  have key := compP (it := itL xs) (i := i) (n := xs.length) (y := y) (e := e) (h := h) (fun j => f (xs.getD j .non)) (fun j => xs.getD j .non) hn (fun j g hj => by
    unfold itL
    by_cases c : j < xs.length
    · rw [if_pos c, List.getD_eq_getElem?_getD, List.getElem?_eq_getElem c]; rfl
    · rw [if_neg c, List.getElem?_eq_none (by omega)]) (fun j acc hj => by
    have e1 : xs[j]? = some (xs.getD j .non) := by rw [List.getD_eq_getElem?_getD, List.getElem?_eq_getElem hj]; rfl
    exact hy _ _ (List.mem_of_getElem? e1))
  rw [key]
  congr 4
  apply List.ext_getElem
  · simp
  · intro j h1 h2
    simp at h1
    simp [List.getD_eq_getElem?_getD, h1]
def fst' (d : D) : D := match d with
  | .tup (x :: _) => x
  | _ => .non
def fstC (d : D) : List Nat := cd (fst' d)
theorem dIn_strs {s : List Nat} {r : Nat} {h : LH} {ss : List (List Nat)} (hr : h[r]? = some (.lst (ss.map D.str))) : dIn (.str s) (.ref r) h = .ok (.bl (ss.any fun t => decide (t = s))) h := by
  have e : seqD (.ref r) h = some (ss.map D.str) := by
    show (match h[r]? with
      | some (.lst xs) => some xs
      | _ => none) = _
    rw [hr]
  have f : (ss.map D.str).all flD = true := by simp [flD]
  have a : ((ss.map D.str).any fun y => eqF y (.str s)) = ss.any fun t => decide (t = s) := by
    rw [List.any_map]
    congr 1
    funext t
    show (t == s) = decide (t = s)
    rw [Bool.eq_iff_iff]
    simp
  have key : (match seqD (.ref r) h with
    | some xs => if (flD (.str s) && xs.all flD) = true then Res.ok (D.bl (xs.any fun y => eqF y (.str s))) h else .bad
    | none => .bad) = .ok (D.bl (ss.any fun t => decide (t = s))) h := by
    rw [e]
    simp only [f, a]
    simp [flD]
  match s with
  | [] => exact key
  | [c] => exact key
  | _ :: _ :: _ => exact key
theorem strs_of {xs : List D} (hx : ∀ x ∈ xs, x = .str (cd x)) : xs = (xs.map cd).map D.str := by
  rw [List.map_map]
  conv => lhs; rw [← List.map_id xs]
  exact List.map_congr_left fun x hm => hx x hm
theorem asc_ref {r : Nat} {h : LH} {ss : List (List Nat)} (hr : h[r]? = some (.lst (ss.map D.str))) (hn : ss.length ≤ 1000000) : L.f_is_ascending [.ref r] h = .ok (.bl (ascL ss)) h :=
  asc_eq (by rw [dLen_ref hr, List.length_map]) (fun k s hs => dIx_ref hr (atI_nat (by rw [List.getElem?_map, hs]; rfl))) hn
theorem ris_ref {r : Nat} {h : LH} {ss : List (List Nat)} (hr : h[r]? = some (.lst (ss.map D.str))) (hn : ss.length ≤ 1000000) : L.f__law_rising [.ref r] h = .ok (.bl (ascL ss)) h :=
  ris_eq (by rw [dLen_ref hr, List.length_map]) (fun k s hs => dIx_ref hr (atI_nat (by rw [List.getElem?_map, hs]; rfl))) hn
theorem dSl_tup {xs : List D} {lo hi : Option Int} {h : LH} : dSl (.tup xs) lo hi h = .ok (.tup (cutD xs lo hi)) h := rfl
def isEnt (d : D) : Bool := match d with
  | .tup [n, a, b, c] => isLN n && isSum (.tup [a, b, c])
  | _ => false
def isShelf (d : D) : Bool := match d with
  | .tup [k, v, e, .tup rs] => isS kSh k && (isVer v && (isAm e && (decide (rs.length ≤ 32) && (rs.all isEnt && (ascL (rs.map fstC) && (rs.map fstC).any fun t => decide (t = kLi))))))
  | _ => false
theorem ent_no {d : D} (h : isRow 4 d = false) : isEnt d = false := by
  cases e : isEnt d with
  | false => rfl
  | true =>
    unfold isEnt at e
    split at e
    · simp [isRow] at h
    · cases e
theorem shelf_no {d : D} (h : isRow 4 d = false) : isShelf d = false := by
  cases e : isShelf d with
  | false => rfl
  | true =>
    unfold isShelf at e
    split at e
    · simp [isRow] at h
    · cases e
theorem shelf_no2 {k v e b : D} (h : isTab 32 b = false) : isShelf (.tup [k, v, e, b]) = false := by
  cases b with
  | tup rs =>
    have : ¬ rs.length ≤ 32 := by
      simp [isTab] at h
      omega
    simp [isShelf, this]
  | _ => rfl
theorem ent_fst {d : D} (h : isEnt d = true) : fst' d = .str (fstC d) := by
  unfold isEnt at h
  split at h
  · rw [Bool.and_eq_true] at h
    exact isLN_str h.1
  · cases h
theorem ent_body {x : D} {h : LH} {r : Nat} {e : EN} (c : Cl h r x) (hi : 1 < e.length) :
    (sIf (mTOr (mTNot (mTru (mApp L.f_is_row (mCons (mVar 1) (mCons (mC (.int 4)) mNil))))) (mTOr (mTNot (mTru (mApp L.f_is_list_name (mCons (mOp dIx (mVar 1) (mC (.int 0))) mNil)))) (mTNot (mTru (mApp L.f_is_sum (mCons (mSl (mVar 1) (mPart (mC (.int 1))) mNoP) mNil)))))) (sRet (mC (.bl false))) sNil) (e.set 1 (some x)) h =
      if isEnt x then .next (e.set 1 (some x)) h else .ret (.bl false) h := by
  obtain ⟨t, ht⟩ := c.ty
  have e0 : (e.set 1 (some x))[1]? = some (some x) := List.getElem?_set_self hi
  have e1 := row_eq' (n := 4) ht
  cases q1 : isRow 4 x with
  | false =>
    rw [q1] at e1
    simp -implicitDefEqProofs [e0, e1, truD, ent_no q1]
  | true =>
    rw [q1] at e1
    obtain ⟨n, a, b, f, rfl⟩ := row_inv4 q1
    cases r with
    | zero => exact c.elim
    | succ r =>
    obtain ⟨tn, htn⟩ := (c.2 n (by simp)).ty
    have i0 : ∀ g, dIx (.tup [n, a, b, f]) (.int 0) g = .ok n g := fun _ => rfl
    have e2 := name_eq htn (fun s hs => by have := (c.2 n (by simp)).len s hs; omega)
    have c3 : Cl h (r + 1) (.tup [a, b, f]) := ⟨by simp, fun y hy => c.2 y (by simp at hy ⊢; rcases hy with h | h | h <;> simp [h])⟩
    have e3 := sum_eq c3
    have s3 : ∀ g, dSl (.tup [n, a, b, f]) (some 1) none g = .ok (.tup [a, b, f]) g := fun g => rfl
    have es : isEnt (.tup [n, a, b, f]) = (isLN n && isSum (.tup [a, b, f])) := rfl
    rw [es]
    cases q2 : isLN n <;> rw [q2] at e2 <;> cases q3 : isSum (.tup [a, b, f]) <;> rw [q3] at e3 <;> simp -implicitDefEqProofs [e0, e1, truD, i0, e2, s3, e3]
theorem lent_body {x : D} {h : LH} {r : Nat} {e : EN} (c : Cl h r x) (hi : 1 < e.length) :
    (sIf (mTOr (mTNot (mTru (mApp L.f__law_tuple (mCons (mVar 1) (mCons (mC (.int 4)) (mCons (mC (.int 4)) mNil)))))) (mTOr (mTNot (mTru (mApp L.f__law_is_name (mCons (mOp dIx (mVar 1) (mC (.int 0))) mNil)))) (mTNot (mTru (mApp L.f__law_is_sum (mCons (mSl (mVar 1) (mPart (mC (.int 1))) mNoP) mNil)))))) (sRet (mC (.bl false))) sNil) (e.set 1 (some x)) h =
      if isEnt x then .next (e.set 1 (some x)) h else .ret (.bl false) h := by
  obtain ⟨t, ht⟩ := c.ty
  have e0 : (e.set 1 (some x))[1]? = some (some x) := List.getElem?_set_self hi
  have e1 := lrow_eq (n := 4) ht
  cases q1 : isRow 4 x with
  | false =>
    rw [q1] at e1
    simp -implicitDefEqProofs [e0, e1, truD, ent_no q1]
  | true =>
    rw [q1] at e1
    obtain ⟨n, a, b, f, rfl⟩ := row_inv4 q1
    cases r with
    | zero => exact c.elim
    | succ r =>
    obtain ⟨tn, htn⟩ := (c.2 n (by simp)).ty
    have i0 : ∀ g, dIx (.tup [n, a, b, f]) (.int 0) g = .ok n g := fun _ => rfl
    have e2 := lname_eq htn (c.2 n (by simp)).len
    have c3 : Cl h (r + 1) (.tup [a, b, f]) := ⟨by simp, fun y hy => c.2 y (by simp at hy ⊢; rcases hy with h | h | h <;> simp [h])⟩
    have e3 := lsum_eq c3
    have s3 : ∀ g, dSl (.tup [n, a, b, f]) (some 1) none g = .ok (.tup [a, b, f]) g := fun g => rfl
    have es : isEnt (.tup [n, a, b, f]) = (isLN n && isSum (.tup [a, b, f])) := rfl
    rw [es]
    cases q2 : isLN n <;> rw [q2] at e2 <;> cases q3 : isSum (.tup [a, b, f]) <;> rw [q3] at e3 <;> simp -implicitDefEqProofs [e0, e1, truD, i0, e2, s3, e3]
theorem shelf_eq {d : D} {h : LH} {r : Nat} (c : Cl h r d) (hr : r ≤ 40) : ∃ h', Kp h h' ∧ L.f_is_shelf [d] h = .ok (.bl (isShelf d)) h' := by
  obtain ⟨t, ht⟩ := c.ty
  unfold L.f_is_shelf
  rw [mkF_eq (by rfl)]
  unfold L.b_is_shelf
  rw [ev_seq]
  have e1 := row_eq' (n := 4) ht
  cases q1 : isRow 4 d with
  | false =>
    rw [q1] at e1
    refine ⟨h, Kp.refl h, ?_⟩
    simp -implicitDefEqProofs [e1, truD, shelf_no q1]
  | true =>
    rw [q1] at e1
    obtain ⟨k, v, e, s, rfl⟩ := row_inv4 q1
    have e2 : L.f_has_head [.tup [k, v, e, s], .str kSh, .int 1] h = _ := head_eq (n := 1) ok_kSh rfl rfl rfl c hr
    cases r with
    | zero => exact c.elim
    | succ r =>
    have i3 : ∀ g, dIx (.tup [k, v, e, s]) (.int 3) g = .ok s g := fun _ => rfl
    obtain ⟨ts, hts⟩ := (c.2 s (by simp)).ty
    have e3 := tab_eq (n := 32) hts
    rw [S_sh]
    cases q2 : (isS kSh k && (isVer v && isAm e)) with
    | false =>
      rw [q2] at e2
      have : isShelf (.tup [k, v, e, s]) = false := by
        unfold isShelf
        split
        · rename_i w
          cases w
          cases a1 : isS kSh k <;> cases a2 : isVer v <;> cases a3 : isAm e <;> rw [a1, a2, a3] at q2 <;> first | rfl | cases q2
        · rfl
      refine ⟨h, Kp.refl h, ?_⟩
      simp -implicitDefEqProofs [e1, truD, e2, this]
    | true =>
      rw [q2] at e2
      rw [Bool.and_eq_true, Bool.and_eq_true] at q2
      cases q3 : isTab 32 s with
      | false =>
        rw [q3] at e3
        refine ⟨h, Kp.refl h, ?_⟩
        simp -implicitDefEqProofs [e1, truD, e2, i3, e3, shelf_no2 q3]
      | true =>
        rw [q3] at e3
        obtain ⟨rs, rfl, hl⟩ := tab_inv q3
        have hl' : rs.length ≤ 32 := by omega
        have cs := c.2 (.tup rs) (by simp)
        cases r with
        | zero => exact cs.elim
        | succ r =>
        have key := loopF_test (body := (sIf (mTOr (mTNot (mTru (mApp L.f_is_row (mCons (mVar 1) (mCons (mC (.int 4)) mNil))))) (mTOr (mTNot (mTru (mApp L.f_is_list_name (mCons (mOp dIx (mVar 1) (mC (.int 0))) mNil)))) (mTNot (mTru (mApp L.f_is_sum (mCons (mSl (mVar 1) (mPart (mC (.int 1))) mNoP) mNil)))))) (sRet (mC (.bl false))) sNil)) (i := 1) (xs := rs) (h := h) (e := [some (.tup [k, v, e, .tup rs]), none, none]) isEnt (by simp) (fun x hx => ent_body (cs.2 x hx) (by simp))
        have es : isShelf (.tup [k, v, e, .tup rs]) = (isS kSh k && (isVer v && (isAm e && (decide (rs.length ≤ 32) && (rs.all isEnt && (ascL (rs.map fstC) && (rs.map fstC).any fun t => decide (t = kLi))))))) := rfl
        rw [es, q2.1, q2.2.1, q2.2.2, decide_eq_true hl']
        cases q4 : rs.all isEnt with
        | false =>
          rw [q4] at key
          simp only [Bool.false_eq_true, if_false] at key
          refine ⟨h, Kp.refl h, ?_⟩
          simp -implicitDefEqProofs [ev_seq, e1, truD, e2, i3, e3, key]
        | true =>
          rw [q4] at key
          simp only [if_true] at key
          obtain ⟨w, ev⟩ := key
          have hf : ∀ x ∈ rs, fst' x = .str (fstC x) := fun x hx => ent_fst (List.all_eq_true.mp q4 x hx)
          have cm := comp_map (i := 1) (y := mOp dIx (mVar 1) (mC (.int 0))) (e := [some (.tup [k, v, e, .tup rs]), none, none]) (h := h) (xs := rs) fst' (by omega) (fun x g hx => by
            have hx' := List.all_eq_true.mp q4 x hx
            unfold isEnt at hx'
            split at hx'
            · rename_i n a b f
              have i0 : ∀ g, dIx (.tup [n, a, b, f]) (.int 0) g = .ok n g := fun _ => rfl
              simp -implicitDefEqProofs [i0, fst']
            · cases hx')
          have em : rs.map fst' = (rs.map fstC).map D.str := by
            rw [List.map_map]
            exact List.map_congr_left fun x hx => hf x hx
          rw [em] at cm
          obtain ⟨h1, eh1⟩ : ∃ h1, h1 = h ++ [LO.lst ((rs.map fstC).map D.str)] := ⟨_, rfl⟩
          have hr1 : h1[h.length]? = some (.lst ((rs.map fstC).map D.str)) := by rw [eh1]; simp
          rw [← eh1] at cm
          have ea := asc_ref hr1 (by rw [List.length_map]; omega)
          have ei := dIn_strs (s := kLi) hr1
          refine ⟨h1, eh1 ▸ Kp.push _ _, ?_⟩
          cases q5 : ascL (rs.map fstC) <;> rw [q5] at ea <;> simp -implicitDefEqProofs [ev_seq, e1, truD, e2, i3, e3, ev, wipeM, cm, ea, S_li, ei]
theorem lshelf_eq {d : D} {h : LH} {r : Nat} (c : Cl h r d) (hr : r ≤ 40) : ∃ h', Kp h h' ∧ L.f__law_is_shelf [d] h = .ok (.bl (isShelf d)) h' := by
  obtain ⟨t, ht⟩ := c.ty
  unfold L.f__law_is_shelf
  rw [mkF_eq (by rfl)]
  unfold L.b__law_is_shelf
  rw [ev_seq]
  have e1 := lrow_eq (n := 4) ht
  cases q1 : isRow 4 d with
  | false =>
    rw [q1] at e1
    refine ⟨h, Kp.refl h, ?_⟩
    simp -implicitDefEqProofs [e1, truD, shelf_no q1]
  | true =>
    rw [q1] at e1
    obtain ⟨k, v, e, s, rfl⟩ := row_inv4 q1
    cases r with
    | zero => exact c.elim
    | succ r =>
    have i0 : ∀ g, dIx (.tup [k, v, e, s]) (.int 0) g = .ok k g := fun _ => rfl
    have i1 : ∀ g, dIx (.tup [k, v, e, s]) (.int 1) g = .ok v g := fun _ => rfl
    have i2 : ∀ g, dIx (.tup [k, v, e, s]) (.int 2) g = .ok e g := fun _ => rfl
    have i3 : ∀ g, dIx (.tup [k, v, e, s]) (.int 3) g = .ok s g := fun _ => rfl
    obtain ⟨ts, hts⟩ := (c.2 s (by simp)).ty
    obtain ⟨tv, htv⟩ := (c.2 v (by simp)).ty
    obtain ⟨te, hte⟩ := (c.2 e (by simp)).ty
    have e2 := dNe_cl (c.2 k (by simp)) (by omega) ok_kSh
    have e3 := ltup_eq (lo := 1) (hi := 32) hts
    have e4 : ∀ g, Kp h g → L.f__law_number_v2 [v, .int 1] g = .ok (.bl (isVer v)) g := fun g K => by
      obtain ⟨tv, htv⟩ := ((c.2 v (by simp)).kp K).ty
      exact lnum_eq htv
    have e5 : ∀ g, Kp h g → L.f__law_number_v2 [e, .int 0] g = .ok (.bl (isAm e)) g := fun g K => by
      obtain ⟨te, hte⟩ := ((c.2 e (by simp)).kp K).ty
      exact lnum_eq hte
    rw [S_sh]
    cases q2 : isS kSh k with
    | false =>
      rw [q2] at e2
      have : isShelf (.tup [k, v, e, s]) = false := by
        unfold isShelf
        split
        · rename_i w
          cases w
          rw [q2]; rfl
        · rfl
      refine ⟨h, Kp.refl h, ?_⟩
      simp -implicitDefEqProofs [e1, truD, i0, e2, this]
    | true =>
      rw [q2] at e2
      cases q3 : isTL 1 32 s with
      | false =>
        rw [q3] at e3
        have : isShelf (.tup [k, v, e, s]) = false := by
          cases s with
          | tup rs =>
            by_cases z : rs.length = 0
            · have : rs = [] := List.eq_nil_of_length_eq_zero z
              subst this
              simp [isShelf]
            · have : ¬ rs.length ≤ 32 := by
                unfold isTL at q3
                have := of_decide_eq_false q3
                omega
              simp [isShelf, this]
          | _ => rfl
        refine ⟨h, Kp.refl h, ?_⟩
        simp -implicitDefEqProofs [e1, truD, i0, e2, i3, e3, this]
      | true =>
        rw [q3] at e3
        obtain ⟨rs, rfl, hl'⟩ : ∃ rs, s = .tup rs ∧ rs.length ≤ 32 := by
          cases s with
          | tup rs =>
            unfold isTL at q3
            have := of_decide_eq_true q3
            exact ⟨rs, rfl, by omega⟩
          | _ => cases q3
        have cs := c.2 (.tup rs) (by simp)
        cases r with
        | zero => exact cs.elim
        | succ r =>
        have key := loopF_test (body := (sIf (mTOr (mTNot (mTru (mApp L.f__law_tuple (mCons (mVar 1) (mCons (mC (.int 4)) (mCons (mC (.int 4)) mNil)))))) (mTOr (mTNot (mTru (mApp L.f__law_is_name (mCons (mOp dIx (mVar 1) (mC (.int 0))) mNil)))) (mTNot (mTru (mApp L.f__law_is_sum (mCons (mSl (mVar 1) (mPart (mC (.int 1))) mNoP) mNil)))))) (sRet (mC (.bl false))) sNil)) (i := 1) (xs := rs) (h := h) (e := [some (.tup [k, v, e, .tup rs]), none, none]) isEnt (by simp) (fun x hx => lent_body (cs.2 x hx) (by simp))
        have es : isShelf (.tup [k, v, e, .tup rs]) = (isS kSh k && (isVer v && (isAm e && (decide (rs.length ≤ 32) && (rs.all isEnt && (ascL (rs.map fstC) && (rs.map fstC).any fun t => decide (t = kLi))))))) := rfl
        rw [es, q2, decide_eq_true hl']
        cases q4 : rs.all isEnt with
        | false =>
          rw [q4] at key
          simp only [Bool.false_eq_true, if_false] at key
          refine ⟨h, Kp.refl h, ?_⟩
          simp -implicitDefEqProofs [ev_seq, e1, truD, i0, e2, i3, e3, key]
        | true =>
          rw [q4] at key
          simp only [if_true] at key
          obtain ⟨w, ev⟩ := key
          have hf : ∀ x ∈ rs, fst' x = .str (fstC x) := fun x hx => ent_fst (List.all_eq_true.mp q4 x hx)
          have cm := comp_map (i := 1) (y := mOp dIx (mVar 1) (mC (.int 0))) (e := [some (.tup [k, v, e, .tup rs]), none, none]) (h := h) (xs := rs) fst' (by omega) (fun x g hx => by
            have hx' := List.all_eq_true.mp q4 x hx
            unfold isEnt at hx'
            split at hx'
            · rename_i n a b f
              have i0 : ∀ g, dIx (.tup [n, a, b, f]) (.int 0) g = .ok n g := fun _ => rfl
              simp -implicitDefEqProofs [i0, fst']
            · cases hx')
          have em : rs.map fst' = (rs.map fstC).map D.str := by
            rw [List.map_map]
            exact List.map_congr_left fun x hx => hf x hx
          rw [em] at cm
          obtain ⟨h1, eh1⟩ : ∃ h1, h1 = h ++ [LO.lst ((rs.map fstC).map D.str)] := ⟨_, rfl⟩
          have hr1 : h1[h.length]? = some (.lst ((rs.map fstC).map D.str)) := by rw [eh1]; simp
          have K1 : Kp h h1 := eh1 ▸ Kp.push _ _
          rw [← eh1] at cm
          have ea := ris_ref hr1 (by rw [List.length_map]; omega)
          have ei := dIn_strs (s := kLi) hr1
          have e4' := e4 h1 K1
          have e5' := e5 h1 K1
          refine ⟨h1, K1, ?_⟩
          cases q6 : (rs.map fstC).any (fun t => decide (t = kLi)) <;> cases q5 : ascL (rs.map fstC) <;> cases q7 : isVer v <;> rw [q5] at ea <;> rw [q6] at ei <;> rw [q7] at e4' <;> simp -implicitDefEqProofs [ev_seq, e1, truD, e2, i0, i1, i2, i3, e3, ev, wipeM, cm, ea, S_li, ei, e4', e5']
end HM
set_option Elab.async false
set_option linter.all false
set_option maxRecDepth 100000
set_option maxHeartbeats 4000000
namespace HM
open PySem L2
/-! ### grants, goods, lists -/
theorem loopL_kp {body : MS} {i : Nat} {xs : List D} {h : LH} {e : EN} (p : D → Bool) (hi : i < e.length)
    (step : ∀ d g, d ∈ xs → Kp h g → ∃ g', Kp g g' ∧ body (e.set i (some d)) g = if p d then .next (e.set i (some d)) g' else .ret (.bl false) g') :
    ∃ g, Kp h g ∧ (if xs.all p then ∃ v, loopF (itL xs) (.nm i) body xs.length 0 e h = .next (e.set i v) g else loopF (itL xs) (.nm i) body xs.length 0 e h = .ret (.bl false) g) := by
  refine loopF_list (fun j e' g => Kp h g ∧ (∃ v, e' = e.set i v) ∧ (xs.take j).all p = true) (fun r => ∃ g, Kp h g ∧ (if xs.all p then ∃ v, r = .next (e.set i v) g else r = .ret (.bl false) g)) (fun j d e1 g hd ⟨q, ⟨v, ev⟩, ha⟩ => ?_) (fun e1 g ⟨q, ⟨v, ev⟩, ha⟩ => ?_) ⟨Kp.refl h, ⟨_, set_self hi⟩, by simp⟩
  · subst ev
    refine ⟨e.set i (some d), ?_, ?_⟩
    · show some ((e.set i v).set i (some d)) = _
      rw [List.set_set]
    · obtain ⟨g', K, eb⟩ := step d g (List.mem_of_getElem? hd) q
      rw [eb]
      by_cases c : p d = true
      · rw [if_pos c]
        refine ⟨q.trans K, ⟨_, rfl⟩, ?_⟩
        rw [List.take_succ, hd]
        simp [ha, c]
      · rw [if_neg c]
        have : ¬ xs.all p = true := fun z => c (List.all_eq_true.mp z d (List.mem_of_getElem? hd))
        exact ⟨g', q.trans K, by rw [if_neg this]⟩
  · subst ev
    rw [List.take_length] at ha
    exact ⟨g, q, by rw [if_pos ha]; exact ⟨v, rfl⟩⟩
abbrev isPa (d : D) : Bool := hasD d pcC
abbrev isPt (d : D) : Bool := hasD d ptC
theorem path_kp {d : D} {h : LH} {r : Nat} (c : Cl h r d) : ∃ h', Kp h h' ∧ L.f_is_path [d] h = .ok (.bl (isPa d)) h' := by
  obtain ⟨t, ht⟩ := c.ty
  obtain ⟨h', e, g, _⟩ := path_eq ht c.len
  exact ⟨h', Kp.of_gr g, e⟩
theorem pat_kp {d : D} {h : LH} {r : Nat} (c : Cl h r d) : ∃ h', Kp h h' ∧ L.f_is_pattern [d] h = .ok (.bl (isPt d)) h' := by
  obtain ⟨t, ht⟩ := c.ty
  obtain ⟨h', e, g, _⟩ := pattern_eq ht c.len
  exact ⟨h', Kp.of_gr g, e⟩
theorem lpath_kp {d : D} {h : LH} {r : Nat} {more : List Nat} (c : Cl h r d) (hm : more.length ≤ 100) : ∃ h', Kp h h' ∧ L.f__law_is_path [d, .str more] h = .ok (.bl (hasD d (pcC ++ more))) h' := by
  obtain ⟨t, ht⟩ := c.ty
  have hl := c.len
  unfold L.f__law_is_path
  rw [mkF_eq (by rfl)]
  unfold L.b__law_is_path
  have esl := S_eq "/"
  simp at esl
  by_cases ct : t = .str
  · subst ct
    obtain ⟨s, rfl⟩ := tyD_str ht
    have hs := hl s rfl
    have hs' : s.length ≤ 16777216 := by omega
    by_cases c1 : s.length ≤ 60
    · have c1' : ¬ (60 : Int) < s.length := by omega
      obtain ⟨P, hP⟩ : ∃ P, cut1 47 [] s = P := ⟨_, rfl⟩
      have es : dSplit (.str s) [.str [47]] h = .ok (.ref h.length) (h ++ [.lst (P.map D.str)]) := by
        rw [dSplit_one (by decide) hs, hP]
      obtain ⟨h1, eh1⟩ : ∃ h1, h1 = h ++ [LO.lst (P.map D.str)] := ⟨_, rfl⟩
      have hr1 : h1[h.length]? = some (.lst (P.map D.str)) := by rw [eh1]; simp
      rw [← eh1] at es
      have el : dLen [.ref h.length] h1 = .ok (.int P.length) h1 := by rw [dLen_ref hr1, List.length_map]
      have ad : ∀ g, dAdd (.str pcC) (.str more) g = .ok (.str (pcC ++ more)) g := fun g => dAdd_str (by rw [pc_len]; omega)
      have key := loopO_test (body := sIf (mTOr (mTst (mOp dEq (mVar 3) (mC (S "")))) (mTNot (mTru (mApp L.f__law_all (mCons (mVar 3) (mCons (mOp dAdd (mC (S "abcdefghijklmnopqrstuvwxyz0123456789.-_")) (mVar 1)) mNil)))))) (sRet (mC (.bl false))) sNil) (i := 3) (r := h.length) (xs := P.map D.str) (h := h1)
        (e := [some (.str s), some (.str more), some (.ref h.length), none]) (fun d => match d with | .str p => okP (pcC ++ more) p | _ => false) hr1 (by simp) (by
          intro d hd
          obtain ⟨p, hp, rfl⟩ := List.mem_map.mp hd
          by_cases q1 : p = []
          · subst q1
            simp -implicitDefEqProofs [S_nil, dEq_str, okP]
          · cases q2 : p.all (inC (pcC ++ more)) <;> simp -implicitDefEqProofs [S_nil, dEq_str, okP, q1, S_ofP, ad, all_eq, q2, truD])
      rw [List.length_map, List.all_map] at key
      refine ⟨h1, eh1 ▸ Kp.push _ _, ?_⟩
      have hx : hasD (.str s) (pcC ++ more) = (decide (P.length ≤ 6) && P.all (okP (pcC ++ more))) := by
        show hasP s (pcC ++ more) = _
        unfold hasP
        rw [hP, decide_eq_true c1, Bool.true_and]
      rw [hx]
      have e3 : (P.all ((fun d => match d with | .str p => okP (pcC ++ more) p | _ => false) ∘ D.str)) = P.all (okP (pcC ++ more)) := rfl
      rw [e3] at key
      have hit : (iAny (mVar 2)) [some (.str s), some (.str more), some (.ref h.length), none] h1 = .ok (itO h.length, P.length) h1 := by
        simp -implicitDefEqProofs [hr1]
      cases q : P.all (okP (pcC ++ more)) with
      | true =>
        rw [q] at key
        simp only [if_true] at key
        obtain ⟨v, ev⟩ := key
        simp -implicitDefEqProofs [ev_seq, tyD, isB, truD, dLen_str hs', dGt_int, c1', esl, isStr, es, hr1, ev, el, dLe_int]
        omega
      | false =>
        rw [q] at key
        simp only [Bool.false_eq_true, if_false] at key
        simp -implicitDefEqProofs [ev_seq, tyD, isB, truD, dLen_str hs', dGt_int, c1', esl, isStr, es, hr1, key]
    · have c1' : (60 : Int) < s.length := by omega
      refine ⟨h, Kp.refl h, ?_⟩
      simp -implicitDefEqProofs [ev_seq, tyD, isB, truD, dLen_str hs', dGt_int, c1', hasD, hasP, c1]
  · have hn : hasD d (pcC ++ more) = false := by
      cases d <;> simp [hasD, tyD] at ht ⊢
      exact absurd ht.symm ct
    refine ⟨h, Kp.refl h, ?_⟩
    simp -implicitDefEqProofs [ev_seq, ht, hn]
    cases t <;> simp [isB, truD] at ct ⊢
def isGrant (d : D) : Bool := match d with
  | .tup [n, rl, .tup ps, l] => isLN n && (!isS kLi n && (isRole rl && (decide (ps.length ≤ 8) && (!ps.isEmpty && (ps.all isPt && isInt 0 1 l)))))
  | _ => false
theorem grant_no {d : D} (h : isRow 4 d = false) : isGrant d = false := by
  cases e : isGrant d with
  | false => rfl
  | true =>
    unfold isGrant at e
    split at e
    · simp [isRow] at h
    · cases e
theorem grant_no2 {n rl b l : D} (h : isTab 8 b = false) : isGrant (.tup [n, rl, b, l]) = false := by
  cases b with
  | tup rs =>
    have : ¬ rs.length ≤ 8 := by
      simp [isTab] at h
      omega
    simp [isGrant, this]
  | _ => rfl
theorem grant_no3 {n rl b l : D} (h : (isLN n && (!isS kLi n && isRole rl)) = false) : isGrant (.tup [n, rl, b, l]) = false := by
  unfold isGrant
  split
  · rename_i w
    cases w
    cases a1 : isLN n <;> cases a2 : isS kLi n <;> cases a3 : isRole rl <;> rw [a1, a2, a3] at h <;> first | rfl | cases h
  · rfl
theorem grant_eq {d : D} {h : LH} {r : Nat} (c : Cl h r d) (hr : r ≤ 40) : ∃ h', Kp h h' ∧ L.f_is_grant [d] h = .ok (.bl (isGrant d)) h' := by
  obtain ⟨t, ht⟩ := c.ty
  unfold L.f_is_grant
  rw [mkF_eq (by rfl)]
  unfold L.b_is_grant
  rw [ev_seq]
  have e1 := row_eq' (n := 4) ht
  cases q1 : isRow 4 d with
  | false =>
    rw [q1] at e1
    refine ⟨h, Kp.refl h, ?_⟩
    simp -implicitDefEqProofs [e1, truD, grant_no q1]
  | true =>
    rw [q1] at e1
    obtain ⟨n, rl, b, l, rfl⟩ := row_inv4 q1
    cases r with
    | zero => exact c.elim
    | succ r =>
    have i0 : ∀ g, dIx (.tup [n, rl, b, l]) (.int 0) g = .ok n g := fun _ => rfl
    have i1 : ∀ g, dIx (.tup [n, rl, b, l]) (.int 1) g = .ok rl g := fun _ => rfl
    have i2 : ∀ g, dIx (.tup [n, rl, b, l]) (.int 2) g = .ok b g := fun _ => rfl
    have i3 : ∀ g, dIx (.tup [n, rl, b, l]) (.int 3) g = .ok l g := fun _ => rfl
    have cn := c.2 n (by simp)
    have cb := c.2 b (by simp)
    have cl := c.2 l (by simp)
    obtain ⟨tn, htn⟩ := cn.ty
    obtain ⟨tb, htb⟩ := cb.ty
    have e2 := name_eq htn (fun s hs => by have := cn.len s hs; omega)
    have e3 := dEq_cl cn (by omega) ok_kLi
    have e4 := role_eq (c.2 rl (by simp))
    have e5 := tab_eq (n := 8) htb
    cases q2 : (isLN n && (!isS kLi n && isRole rl)) with
    | false =>
      refine ⟨h, Kp.refl h, ?_⟩
      rw [grant_no3 q2]
      cases a1 : isLN n <;> rw [a1] at e2
      · simp -implicitDefEqProofs [e1, truD, i0, e2]
      · cases a2 : isS kLi n <;> rw [a2] at e3
        · have a3 : isRole rl = false := by rw [a1, a2] at q2; exact q2
          rw [a3] at e4
          simp -implicitDefEqProofs [ev_seq, e1, truD, i0, i1, e2, S_li, e3, e4]
        · simp -implicitDefEqProofs [e1, truD, i0, e2, S_li, e3]
    | true =>
      rw [Bool.and_eq_true, Bool.and_eq_true] at q2
      have q2b : isS kLi n = false := by simpa using q2.2.1
      rw [q2.1] at e2
      rw [q2b] at e3
      rw [q2.2.2] at e4
      cases q3 : isTab 8 b with
      | false =>
        rw [q3] at e5
        refine ⟨h, Kp.refl h, ?_⟩
        simp -implicitDefEqProofs [ev_seq, e1, truD, i0, i1, i2, e2, S_li, e3, e4, e5, grant_no2 q3]
      | true =>
        rw [q3] at e5
        obtain ⟨ps, rfl, hl⟩ := tab_inv q3
        have hl' : ps.length ≤ 8 := by omega
        have e6 := dEq_tup0 cb (by omega)
        have es : isGrant (.tup [n, rl, .tup ps, l]) = (isLN n && (!isS kLi n && (isRole rl && (decide (ps.length ≤ 8) && (!ps.isEmpty && (ps.all isPt && isInt 0 1 l)))))) := rfl
        rw [es, q2.1, q2b, q2.2.2, decide_eq_true hl']
        cases q4 : ps.isEmpty with
        | true =>
          rw [q4] at e6
          refine ⟨h, Kp.refl h, ?_⟩
          simp -implicitDefEqProofs [ev_seq, e1, truD, i0, i1, i2, e2, S_li, e3, e4, e5, e6]
        | false =>
          rw [q4] at e6
          cases r with
          | zero => exact cb.elim
          | succ r =>
          obtain ⟨h1, K1, key⟩ := loopL_kp (body := sIf (mTNot (mTru (mApp L.f_is_pattern (mCons (mVar 1) mNil)))) (sRet (mC (.bl false))) sNil) (i := 1) (xs := ps) (h := h) (e := [some (.tup [n, rl, .tup ps, l]), none]) isPt (by simp) (fun x g hx K => by
            obtain ⟨g', K', ep⟩ := pat_kp ((cb.2 x hx).kp K)
            refine ⟨g', K', ?_⟩
            cases q : isPt x <;> rw [q] at ep <;> simp -implicitDefEqProofs [ep, truD])
          obtain ⟨tl, htl⟩ := (cl.kp K1).ty
          have e7 := int_eq (lo := 0) (hi := 1) htl
          refine ⟨h1, K1, ?_⟩
          cases q5 : ps.all isPt with
          | false =>
            rw [q5] at key
            simp only [Bool.false_eq_true, if_false] at key
            simp -implicitDefEqProofs [ev_seq, e1, truD, i0, i1, i2, e2, S_li, e3, e4, e5, e6, key]
          | true =>
            rw [q5] at key
            simp only [if_true] at key
            obtain ⟨w, ev⟩ := key
            simp -implicitDefEqProofs [ev_seq, e1, truD, i0, i1, i2, i3, e2, S_li, e3, e4, e5, e6, ev, e7]
theorem lgrant_eq {d : D} {h : LH} {r : Nat} (c : Cl h r d) (hr : r ≤ 40) : ∃ h', Kp h h' ∧ L.f__law_is_grant [d] h = .ok (.bl (isGrant d)) h' := by
  obtain ⟨t, ht⟩ := c.ty
  unfold L.f__law_is_grant
  rw [mkF_eq (by rfl)]
  unfold L.b__law_is_grant
  rw [ev_seq]
  have e1 := lrow_eq (n := 4) ht
  cases q1 : isRow 4 d with
  | false =>
    rw [q1] at e1
    refine ⟨h, Kp.refl h, ?_⟩
    simp -implicitDefEqProofs [e1, truD, grant_no q1]
  | true =>
    rw [q1] at e1
    obtain ⟨n, rl, b, l, rfl⟩ := row_inv4 q1
    cases r with
    | zero => exact c.elim
    | succ r =>
    have i0 : ∀ g, dIx (.tup [n, rl, b, l]) (.int 0) g = .ok n g := fun _ => rfl
    have i1 : ∀ g, dIx (.tup [n, rl, b, l]) (.int 1) g = .ok rl g := fun _ => rfl
    have i2 : ∀ g, dIx (.tup [n, rl, b, l]) (.int 2) g = .ok b g := fun _ => rfl
    have i3 : ∀ g, dIx (.tup [n, rl, b, l]) (.int 3) g = .ok l g := fun _ => rfl
    have cn := c.2 n (by simp)
    have cb := c.2 b (by simp)
    have cl := c.2 l (by simp)
    obtain ⟨tn, htn⟩ := cn.ty
    obtain ⟨tb, htb⟩ := cb.ty
    have e2 := lname_eq htn cn.len
    have e3 := dEq_cl cn (by omega) ok_kLi
    have e4 := lrole_eq (c.2 rl (by simp))
    have e5 := ltup_eq (lo := 1) (hi := 8) htb
    cases q2 : (isLN n && (!isS kLi n && isRole rl)) with
    | false =>
      refine ⟨h, Kp.refl h, ?_⟩
      rw [grant_no3 q2]
      cases a1 : isLN n <;> rw [a1] at e2
      · simp -implicitDefEqProofs [e1, truD, i0, e2]
      · cases a2 : isS kLi n <;> rw [a2] at e3
        · have a3 : isRole rl = false := by rw [a1, a2] at q2; exact q2
          rw [a3] at e4
          simp -implicitDefEqProofs [ev_seq, e1, truD, i0, i1, e2, S_li, e3, e4]
        · simp -implicitDefEqProofs [e1, truD, i0, e2, S_li, e3]
    | true =>
      rw [Bool.and_eq_true, Bool.and_eq_true] at q2
      have q2b : isS kLi n = false := by simpa using q2.2.1
      rw [q2.1] at e2
      rw [q2b] at e3
      rw [q2.2.2] at e4
      cases q3 : isTL 1 8 b with
      | false =>
        rw [q3] at e5
        have : isGrant (.tup [n, rl, b, l]) = false := by
          cases b with
          | tup rs =>
            by_cases z : rs.length = 0
            · have : rs = [] := List.eq_nil_of_length_eq_zero z
              subst this
              simp [isGrant]
            · have : ¬ rs.length ≤ 8 := by
                unfold isTL at q3
                have := of_decide_eq_false q3
                omega
              simp [isGrant, this]
          | _ => rfl
        refine ⟨h, Kp.refl h, ?_⟩
        simp -implicitDefEqProofs [ev_seq, e1, truD, i0, i1, i2, e2, S_li, e3, e4, e5, this]
      | true =>
        rw [q3] at e5
        obtain ⟨ps, rfl, hl0, hl'⟩ : ∃ rs, b = .tup rs ∧ 1 ≤ rs.length ∧ rs.length ≤ 8 := by
          cases b with
          | tup rs =>
            unfold isTL at q3
            have := of_decide_eq_true q3
            exact ⟨rs, rfl, by omega, by omega⟩
          | _ => cases q3
        have es : isGrant (.tup [n, rl, .tup ps, l]) = (isLN n && (!isS kLi n && (isRole rl && (decide (ps.length ≤ 8) && (!ps.isEmpty && (ps.all isPt && isInt 0 1 l)))))) := rfl
        have q4 : ps.isEmpty = false := by
          cases ps with
          | nil => simp at hl0
          | cons => rfl
        rw [es, q2.1, q2b, q2.2.2, decide_eq_true hl', q4]
        cases r with
        | zero => exact cb.elim
        | succ r =>
        have est : S "*" = .str [42] := S_eq "*"
        obtain ⟨h1, K1, key⟩ := loopL_kp (body := sIf (mTNot (mTru (mApp L.f__law_is_path (mCons (mVar 1) (mCons (mC (S "*")) mNil))))) (sRet (mC (.bl false))) sNil) (i := 1) (xs := ps) (h := h) (e := [some (.tup [n, rl, .tup ps, l]), none]) isPt (by simp) (fun x g hx K => by
          obtain ⟨g', K', ep⟩ := lpath_kp (more := [42]) ((cb.2 x hx).kp K) (by simp)
          rw [pt_eq] at ep
          have ep : L.f__law_is_path [x, .str [42]] g = .ok (.bl (isPt x)) g' := ep
          refine ⟨g', K', ?_⟩
          cases q : isPt x <;> rw [q] at ep <;> simp -implicitDefEqProofs [est, ep, truD])
        obtain ⟨tl, htl⟩ := (cl.kp K1).ty
        have e7 : L.f__law_number_v2 [l, .int 0] h1 = .ok (.bl (isAm l)) h1 := lnum_eq htl
        refine ⟨h1, K1, ?_⟩
        cases q5 : ps.all isPt with
        | false =>
          rw [q5] at key
          simp only [Bool.false_eq_true, if_false] at key
          simp -implicitDefEqProofs [ev_seq, e1, truD, i0, i1, i2, e2, S_li, e3, e4, e5, key]
        | true =>
          rw [q5] at key
          simp only [if_true] at key
          obtain ⟨w, ev⟩ := key
          cases q6 : isAm l with
          | false =>
            rw [q6] at e7
            have : isInt 0 1 l = false := isInt_mono (by omega) (by omega) q6
            simp -implicitDefEqProofs [ev_seq, e1, truD, i0, i1, i2, i3, e2, S_li, e3, e4, e5, ev, e7, this]
          | true =>
            rw [q6] at e7
            obtain ⟨z, rfl, hz, _⟩ := isInt_inv q6
            have : isInt 0 1 (.int z) = decide (z ≤ 1) := by simp [isInt, hz]
            simp -implicitDefEqProofs [ev_seq, e1, truD, i0, i1, i2, i3, e2, S_li, e3, e4, e5, ev, e7, dLe_int, this]
end HM
set_option Elab.async false
set_option linter.all false
set_option maxRecDepth 100000
set_option maxHeartbeats 4000000
namespace HM
open PySem L2
/-! ### goods, the grants of a list, lists -/
def isGood (d : D) : Bool := match d with
  | .tup [p, l, g] => isPa p && (isAm l && isDg g)
  | _ => false
def areGoods (d : D) : Bool := match d with
  | .tup rs => decide (rs.length ≤ 64) && (rs.all isGood && ascL (rs.map fstC))
  | _ => false
theorem good_no {d : D} (h : isRow 3 d = false) : isGood d = false := by
  cases e : isGood d with
  | false => rfl
  | true =>
    unfold isGood at e
    split at e
    · simp [isRow] at h
    · cases e
theorem isPa_str {cs : List Nat} {d : D} (h : hasD d cs = true) : d = .str (cd d) := by
  cases d <;> first | rfl | (simp [hasD] at h; done)
theorem good_fst {d : D} (h : isGood d = true) : fst' d = .str (fstC d) := by
  unfold isGood at h
  split at h
  · rw [Bool.and_eq_true] at h
    exact isPa_str h.1
  · cases h
theorem first_ix {rs : List D} {p : D → Bool} (hp : ∀ x, p x = true → fst' x = .str (fstC x)) (h : rs.all p = true) {e : EN} {x : D} {g : LH} (hi : 1 < e.length) (hx : x ∈ rs) : (mOp dIx (mVar 1) (mC (.int 0))) (e.set 1 (some x)) g = .ok (fst' x) g := by
  have h1 := hp x (List.all_eq_true.mp h x hx)
  have e0 : (e.set 1 (some x))[1]? = some (some x) := List.getElem?_set_self hi
  cases x with
  | tup xs =>
    cases xs with
    | nil => cases h1
    | cons a l =>
      have i0 : dIx (.tup (a :: l)) (.int 0) g = .ok a g := tup_ix (k := 0) rfl
      simp -implicitDefEqProofs [e0, i0, fst']
  | _ => cases h1
theorem firsts {rs : List D} {p : D → Bool} (hp : ∀ x, p x = true → fst' x = .str (fstC x)) (h : rs.all p = true) : rs.map fst' = (rs.map fstC).map D.str := by
  rw [List.map_map]
  exact List.map_congr_left fun x hx => hp x (List.all_eq_true.mp h x hx)
theorem good_body {x : D} {h : LH} {r : Nat} {e : EN} (c : Cl h r x) (hi : 1 < e.length) :
    ∃ h', Kp h h' ∧ (sIf (mTOr (mTNot (mTru (mApp L.f_is_row (mCons (mVar 1) (mCons (mC (.int 3)) mNil))))) (mTOr (mTNot (mTru (mApp L.f_is_path (mCons (mOp dIx (mVar 1) (mC (.int 0))) mNil)))) (mTOr (mTNot (mTru (mApp L.f_is_amount (mCons (mOp dIx (mVar 1) (mC (.int 1))) mNil)))) (mTNot (mTru (mApp L.f_is_digest (mCons (mOp dIx (mVar 1) (mC (.int 2))) mNil))))))) (sRet (mC (.bl false))) sNil) (e.set 1 (some x)) h =
      if isGood x then .next (e.set 1 (some x)) h' else .ret (.bl false) h' := by
  obtain ⟨t, ht⟩ := c.ty
  have e0 : (e.set 1 (some x))[1]? = some (some x) := List.getElem?_set_self hi
  have e1 := row_eq' (n := 3) ht
  cases q1 : isRow 3 x with
  | false =>
    rw [q1] at e1
    refine ⟨h, Kp.refl h, ?_⟩
    simp -implicitDefEqProofs [e0, e1, truD, good_no q1]
  | true =>
    rw [q1] at e1
    obtain ⟨p, l, f, rfl⟩ := row_inv3 q1
    cases r with
    | zero => exact c.elim
    | succ r =>
    have i0 : ∀ g, dIx (.tup [p, l, f]) (.int 0) g = .ok p g := fun _ => rfl
    have i1 : ∀ g, dIx (.tup [p, l, f]) (.int 1) g = .ok l g := fun _ => rfl
    have i2 : ∀ g, dIx (.tup [p, l, f]) (.int 2) g = .ok f g := fun _ => rfl
    obtain ⟨h1, K1, e2⟩ := path_kp (c.2 p (by simp))
    obtain ⟨tl, htl⟩ := ((c.2 l (by simp)).kp K1).ty
    have cf := (c.2 f (by simp)).kp K1
    obtain ⟨tf, htf⟩ := cf.ty
    have e3 := am_eq htl
    have e4 := dg_eq htf cf.len
    have es : isGood (.tup [p, l, f]) = (isPa p && (isAm l && isDg f)) := rfl
    rw [es]
    refine ⟨h1, K1, ?_⟩
    cases q2 : isPa p <;> rw [q2] at e2 <;> cases q3 : isAm l <;> rw [q3] at e3 <;> cases q4 : isDg f <;> rw [q4] at e4 <;> simp -implicitDefEqProofs [e0, e1, truD, i0, i1, i2, e2, e3, e4]
theorem lgood_body {x : D} {h : LH} {r : Nat} {e : EN} (c : Cl h r x) (hi : 1 < e.length) :
    ∃ h', Kp h h' ∧ (sIf (mTOr (mTNot (mTru (mApp L.f__law_tuple (mCons (mVar 1) (mCons (mC (.int 3)) (mCons (mC (.int 3)) mNil)))))) (mTOr (mTNot (mTru (mApp L.f__law_is_path (mCons (mOp dIx (mVar 1) (mC (.int 0))) (mCons (mC (S "")) mNil))))) (mTNot (mTru (mApp L.f__law_is_sum (mCons (mOp dAdd (mTup (mCons (mC (.int 1)) mNil)) (mSl (mVar 1) (mPart (mC (.int 1))) mNoP)) mNil)))))) (sRet (mC (.bl false))) sNil) (e.set 1 (some x)) h =
      if isGood x then .next (e.set 1 (some x)) h' else .ret (.bl false) h' := by
  obtain ⟨t, ht⟩ := c.ty
  have e0 : (e.set 1 (some x))[1]? = some (some x) := List.getElem?_set_self hi
  have e1 := lrow_eq (n := 3) ht
  cases q1 : isRow 3 x with
  | false =>
    rw [q1] at e1
    refine ⟨h, Kp.refl h, ?_⟩
    simp -implicitDefEqProofs [e0, e1, truD, good_no q1]
  | true =>
    rw [q1] at e1
    obtain ⟨p, l, f, rfl⟩ := row_inv3 q1
    cases r with
    | zero => exact c.elim
    | succ r =>
    have i0 : ∀ g, dIx (.tup [p, l, f]) (.int 0) g = .ok p g := fun _ => rfl
    obtain ⟨h1, K1, e2⟩ := lpath_kp (more := []) (c.2 p (by simp)) (by simp)
    rw [List.append_nil] at e2
    have e2 : L.f__law_is_path [p, .str []] h = .ok (.bl (isPa p)) h1 := e2
    have c3 : Cl h1 (r + 1) (.tup [.int 1, l, f]) := ⟨by simp, fun y hy => by
      simp at hy
      rcases hy with rfl | rfl | rfl
      · cases r <;> trivial
      · exact (c.2 y (by simp)).kp K1
      · exact (c.2 y (by simp)).kp K1⟩
    have e3 := lsum_eq c3
    have s3 : ∀ g, dSl (.tup [p, l, f]) (some 1) none g = .ok (.tup [l, f]) g := fun g => rfl
    have a3 : ∀ g, dAdd (.tup [.int 1]) (.tup [l, f]) g = .ok (.tup [.int 1, l, f]) g := fun g => rfl
    have es : isGood (.tup [p, l, f]) = (isPa p && (isAm l && isDg f)) := rfl
    have es2 : isSum (.tup [.int 1, l, f]) = (isAm l && isDg f) := by
      show (isVer (.int 1) && (isAm l && isDg f)) = _
      rw [show isVer (.int 1) = true from isInt_of (by omega) (by omega), Bool.true_and]
    rw [es2] at e3
    rw [es]
    refine ⟨h1, K1, ?_⟩
    cases q2 : isPa p <;> rw [q2] at e2 <;> cases q3 : (isAm l && isDg f) <;> rw [q3] at e3 <;> simp -implicitDefEqProofs [e0, e1, truD, i0, S_nil, e2, s3, a3, e3]
theorem goods_eq {d : D} {h : LH} {r : Nat} (c : Cl h r d) : ∃ h', Kp h h' ∧ L.f_are_goods [d] h = .ok (.bl (areGoods d)) h' := by
  obtain ⟨t, ht⟩ := c.ty
  unfold L.f_are_goods
  rw [mkF_eq (by rfl)]
  unfold L.b_are_goods
  rw [ev_seq]
  have e1 := tab_eq (n := 64) ht
  cases q1 : isTab 64 d with
  | false =>
    rw [q1] at e1
    refine ⟨h, Kp.refl h, ?_⟩
    have : areGoods d = false := by
      cases d with
      | tup rs =>
        have : ¬ rs.length ≤ 64 := by
          simp [isTab] at q1
          omega
        simp [areGoods, this]
      | _ => rfl
    simp -implicitDefEqProofs [e1, truD, this]
  | true =>
    rw [q1] at e1
    obtain ⟨rs, rfl, hl⟩ := tab_inv q1
    have hl' : rs.length ≤ 64 := by omega
    cases r with
    | zero => exact c.elim
    | succ r =>
    obtain ⟨h1, K1, key⟩ := loopL_kp (body := (sIf (mTOr (mTNot (mTru (mApp L.f_is_row (mCons (mVar 1) (mCons (mC (.int 3)) mNil))))) (mTOr (mTNot (mTru (mApp L.f_is_path (mCons (mOp dIx (mVar 1) (mC (.int 0))) mNil)))) (mTOr (mTNot (mTru (mApp L.f_is_amount (mCons (mOp dIx (mVar 1) (mC (.int 1))) mNil)))) (mTNot (mTru (mApp L.f_is_digest (mCons (mOp dIx (mVar 1) (mC (.int 2))) mNil))))))) (sRet (mC (.bl false))) sNil)) (i := 1) (xs := rs) (h := h) (e := [some (.tup rs), none]) isGood (by simp) (fun x g hx K => good_body ((c.2 x hx).kp K) (by simp))
    have es : areGoods (.tup rs) = (decide (rs.length ≤ 64) && (rs.all isGood && ascL (rs.map fstC))) := rfl
    rw [es, decide_eq_true hl']
    cases q4 : rs.all isGood with
    | false =>
      rw [q4] at key
      simp only [Bool.false_eq_true, if_false] at key
      refine ⟨h1, K1, ?_⟩
      simp -implicitDefEqProofs [ev_seq, e1, truD, key]
    | true =>
      rw [q4] at key
      simp only [if_true] at key
      obtain ⟨w, ev⟩ := key
      have cm := comp_map (i := 1) (y := mOp dIx (mVar 1) (mC (.int 0))) (e := [some (.tup rs), none]) (h := h1) (xs := rs) fst' (by omega) (fun x g hx => first_ix (fun x => good_fst) q4 (by simp) hx)
      rw [firsts (fun x => good_fst) q4] at cm
      obtain ⟨h2, eh2⟩ : ∃ h2, h2 = h1 ++ [LO.lst ((rs.map fstC).map D.str)] := ⟨_, rfl⟩
      have hr2 : h2[h1.length]? = some (.lst ((rs.map fstC).map D.str)) := by rw [eh2]; simp
      rw [← eh2] at cm
      have ea := asc_ref hr2 (by rw [List.length_map]; omega)
      refine ⟨h2, K1.trans (eh2 ▸ Kp.push _ _), ?_⟩
      simp -implicitDefEqProofs [ev_seq, e1, truD, ev, wipeM, cm, ea]
theorem lgoods_eq {d : D} {h : LH} {r : Nat} (c : Cl h r d) : ∃ h', Kp h h' ∧ L.f__law_is_goods [d] h = .ok (.bl (areGoods d)) h' := by
  obtain ⟨t, ht⟩ := c.ty
  unfold L.f__law_is_goods
  rw [mkF_eq (by rfl)]
  unfold L.b__law_is_goods
  rw [ev_seq]
  have e1 := ltup_eq (lo := 0) (hi := 64) ht
  rw [tab_ltab] at e1
  cases q1 : isTab 64 d with
  | false =>
    rw [q1] at e1
    refine ⟨h, Kp.refl h, ?_⟩
    have : areGoods d = false := by
      cases d with
      | tup rs =>
        have : ¬ rs.length ≤ 64 := by
          simp [isTab] at q1
          omega
        simp [areGoods, this]
      | _ => rfl
    simp -implicitDefEqProofs [e1, truD, this]
  | true =>
    rw [q1] at e1
    obtain ⟨rs, rfl, hl⟩ := tab_inv q1
    have hl' : rs.length ≤ 64 := by omega
    cases r with
    | zero => exact c.elim
    | succ r =>
    obtain ⟨h1, K1, key⟩ := loopL_kp (body := (sIf (mTOr (mTNot (mTru (mApp L.f__law_tuple (mCons (mVar 1) (mCons (mC (.int 3)) (mCons (mC (.int 3)) mNil)))))) (mTOr (mTNot (mTru (mApp L.f__law_is_path (mCons (mOp dIx (mVar 1) (mC (.int 0))) (mCons (mC (S "")) mNil))))) (mTNot (mTru (mApp L.f__law_is_sum (mCons (mOp dAdd (mTup (mCons (mC (.int 1)) mNil)) (mSl (mVar 1) (mPart (mC (.int 1))) mNoP)) mNil)))))) (sRet (mC (.bl false))) sNil)) (i := 1) (xs := rs) (h := h) (e := [some (.tup rs), none]) isGood (by simp) (fun x g hx K => lgood_body ((c.2 x hx).kp K) (by simp))
    have es : areGoods (.tup rs) = (decide (rs.length ≤ 64) && (rs.all isGood && ascL (rs.map fstC))) := rfl
    rw [es, decide_eq_true hl']
    cases q4 : rs.all isGood with
    | false =>
      rw [q4] at key
      simp only [Bool.false_eq_true, if_false] at key
      refine ⟨h1, K1, ?_⟩
      simp -implicitDefEqProofs [ev_seq, e1, truD, key]
    | true =>
      rw [q4] at key
      simp only [if_true] at key
      obtain ⟨w, ev⟩ := key
      have cm := comp_map (i := 1) (y := mOp dIx (mVar 1) (mC (.int 0))) (e := [some (.tup rs), none]) (h := h1) (xs := rs) fst' (by omega) (fun x g hx => first_ix (fun x => good_fst) q4 (by simp) hx)
      rw [firsts (fun x => good_fst) q4] at cm
      obtain ⟨h2, eh2⟩ : ∃ h2, h2 = h1 ++ [LO.lst ((rs.map fstC).map D.str)] := ⟨_, rfl⟩
      have hr2 : h2[h1.length]? = some (.lst ((rs.map fstC).map D.str)) := by rw [eh2]; simp
      rw [← eh2] at cm
      have ea := ris_ref hr2 (by rw [List.length_map]; omega)
      refine ⟨h2, K1.trans (eh2 ▸ Kp.push _ _), ?_⟩
      simp -implicitDefEqProofs [ev_seq, e1, truD, ev, wipeM, cm, ea]
/-! the grants -/
def grOk : List (List Nat) → List D → Bool
  | _, [] => true
  | seen, g :: gs => isGrant g && (!(seen.any fun t => decide (t = fstC g)) && grOk (seen ++ [fstC g]) gs)
theorem grOk_cons {seen : List (List Nat)} {g : D} {gs : List D} : grOk seen (g :: gs) = (isGrant g && (!(seen.any fun t => decide (t = fstC g)) && grOk (seen ++ [fstC g]) gs)) := by
  rw [grOk]
def areGrants (s : List Nat) (d : D) : Bool := match d with
  | .tup gs => decide (gs.length ≤ 32) && grOk [s] gs
  | _ => false
theorem grant_fst {d : D} (h : isGrant d = true) : fst' d = .str (fstC d) := by
  unfold isGrant at h
  split at h
  · rw [Bool.and_eq_true] at h
    exact isLN_str h.1
  · cases h
theorem fst_ix {d : D} {h : LH} (e : fst' d = .str (fstC d)) : dIx d (.int 0) h = .ok (.str (fstC d)) h := by
  cases d with
  | tup xs =>
    cases xs with
    | nil => cases e
    | cons a l =>
      have e' : a = .str (fstC (.tup (a :: l))) := e
      have i0 : dIx (.tup (a :: l)) (.int 0) h = .ok a h := tup_ix (k := 0) rfl
      rw [i0, ← e']
  | _ => cases e
def grB (F : MF) (iG iN : Nat) : MS := sSeq (sIf (mTOr (mTNot (mTru (mApp F (mCons (mVar iG) mNil)))) (mTst (mOp dIn (mOp dIx (mVar iG) (mC (.int 0))) (mVar iN)))) (sRet (mC (.bl false))) sNil)
    (sExpr (mMet isLst dAppend (mVar iN) (mCons (mOp dIx (mVar iG) (mC (.int 0))) mNil)))
theorem grants_loop {F : MF} {iG iN R : Nat} {gs : List D} {h0 h : LH} {e : EN} {s0 : List Nat} (hF : ∀ d g, d ∈ gs → Kp h0 g → ∃ g', Kp g g' ∧ F [d] g = .ok (.bl (isGrant d)) g')
    (hR : h[R]? = some (.lst [.str s0])) (hR0 : h0.length ≤ R) (K0 : Kp h0 h) (hi : iG < e.length) (hN : e[iN]? = some (some (.ref R))) (hne : iG ≠ iN) (hlen : gs.length ≤ 1000) :
    ∃ g, Kp h0 g ∧ (if grOk [s0] gs then ∃ v, loopF (itL gs) (.nm iG) (grB F iG iN) gs.length 0 e h = .next (e.set iG v) g else loopF (itL gs) (.nm iG) (grB F iG iN) gs.length 0 e h = .ret (.bl false) g) := by
  refine loopF_list (fun j e' g => Kp h0 g ∧ (∃ v, e' = e.set iG v) ∧ g[R]? = some (.lst ((s0 :: (gs.take j).map fstC).map D.str)) ∧ grOk [s0] gs = grOk (s0 :: (gs.take j).map fstC) (gs.drop j))
    (fun r => ∃ g, Kp h0 g ∧ (if grOk [s0] gs then ∃ v, r = .next (e.set iG v) g else r = .ret (.bl false) g)) (fun j d e1 g hd ⟨K, ⟨v, ev⟩, hg, hk⟩ => ?_) (fun e1 g ⟨K, ⟨v, ev⟩, hg, hk⟩ => ?_) ⟨K0, ⟨_, set_self hi⟩, by simpa using hR, by simp⟩
  · subst ev
    refine ⟨e.set iG (some d), ?_, ?_⟩
    · show some ((e.set iG v).set iG (some d)) = _
      rw [List.set_set]
    · have hj := lt_of_get hd
      have ed : gs.drop j = d :: gs.drop (j + 1) := by
        rw [List.drop_eq_getElem_cons hj]
        congr 1
        rw [List.getElem?_eq_getElem hj] at hd
        exact Option.some.inj hd
      have et : gs.take (j + 1) = gs.take j ++ [d] := by rw [List.take_succ, hd]; rfl
      rw [ed, grOk_cons] at hk
      obtain ⟨g', K', eF⟩ := hF d g (List.mem_of_getElem? hd) K
      have v1 : (e.set iG (some d))[iG]? = some (some d) := List.getElem?_set_self hi
      have v2 : (e.set iG (some d))[iN]? = some (some (.ref R)) := by rw [List.getElem?_set_ne hne]; exact hN
      have hg' := K'.get hg
      unfold grB
      cases q1 : isGrant d with
      | false =>
        rw [q1] at eF
        rw [q1, Bool.false_and] at hk
        simp -implicitDefEqProofs [ev_seq, v1, eF, truD]
        exact ⟨K.trans K', hk⟩
      | true =>
        rw [q1] at eF
        have ix : ∀ g, dIx d (.int 0) g = .ok (.str (fstC d)) g := fun g => fst_ix (grant_fst q1)
        have ei := dIn_strs (s := fstC d) hg'
        cases q2 : (s0 :: (gs.take j).map fstC).any (fun t => decide (t = fstC d)) with
        | true =>
          rw [q2] at ei
          rw [q1, q2, Bool.true_and, Bool.not_true, Bool.false_and] at hk
          simp -implicitDefEqProofs [ev_seq, v1, v2, eF, truD, ix, ei]
          exact ⟨K.trans K', hk⟩
        | false =>
          rw [q2] at ei
          have il := isLst_ref hg'
          have ea := dAppend_ref (y := .str (fstC d)) hg' (by simp; omega)
          have key : (sSeq (sIf (mTOr (mTNot (mTru (mApp F (mCons (mVar iG) mNil)))) (mTst (mOp dIn (mOp dIx (mVar iG) (mC (.int 0))) (mVar iN)))) (sRet (mC (.bl false))) sNil)
    (sExpr (mMet isLst dAppend (mVar iN) (mCons (mOp dIx (mVar iG) (mC (.int 0))) mNil)))) (e.set iG (some d)) g = .next (e.set iG (some d)) (g'.set R (.lst ((s0 :: (gs.take j).map fstC).map D.str ++ [.str (fstC d)]))) := by
            simp -implicitDefEqProofs [ev_seq, v1, v2, eF, truD, ix, ei, il, ea]
          rw [key]
          refine ⟨(K.trans K').set hR0, ⟨_, rfl⟩, ?_, ?_⟩
          · rw [List.getElem?_set_self (lt_of_get hg'), et]
            simp
          · rw [hk, q1, q2, et]
            simp
  · subst ev
    rw [List.take_length, List.drop_length] at hk
    have : grOk [s0] gs = true := hk
    refine ⟨g, K, ?_⟩
    rw [if_pos this]
    exact ⟨v, rfl⟩
def isList (d : D) : Bool := match d with
  | .tup [k, n, v, e, g, gr] => isS kLi k && (isVer v && (isAm e && (isLN n && (areGoods g && areGrants (cd n) gr))))
  | _ => false
theorem list_no {d : D} (h : isRow 6 d = false) : isList d = false := by
  cases e : isList d with
  | false => rfl
  | true =>
    unfold isList at e
    split at e
    · simp [isRow] at h
    · cases e
theorem grants_eq {d : D} {h : LH} {r : Nat} {s : List Nat} (c : Cl h r d) (hr : r ≤ 40) : ∃ h', Kp h h' ∧ L.f_are_grants [d, .str s] h = .ok (.bl (areGrants s d)) h' := by
  obtain ⟨t, ht⟩ := c.ty
  unfold L.f_are_grants
  rw [mkF_eq (by rfl)]
  unfold L.b_are_grants
  rw [ev_seq]
  have e1 := tab_eq (n := 32) ht
  cases q1 : isTab 32 d with
  | false =>
    rw [q1] at e1
    refine ⟨h, Kp.refl h, ?_⟩
    have : areGrants s d = false := by
      cases d with
      | tup rs =>
        have : ¬ rs.length ≤ 32 := by
          simp [isTab] at q1
          omega
        simp [areGrants, this]
      | _ => rfl
    simp -implicitDefEqProofs [e1, truD, this]
  | true =>
    rw [q1] at e1
    obtain ⟨gs, rfl, hl⟩ := tab_inv q1
    have hl' : gs.length ≤ 32 := by omega
    cases r with
    | zero => exact c.elim
    | succ r =>
    obtain ⟨h1, K1, key⟩ := grants_loop (F := L.f_is_grant) (iG := 3) (iN := 2) (R := h.length) (gs := gs) (h0 := h) (h := h ++ [.lst [.str s]]) (e := [some (.tup gs), some (.str s), some (.ref h.length), none]) (s0 := s)
      (fun d g hd K => grant_eq ((c.2 d hd).kp K) (by omega)) (by simp) (Nat.le_refl _) (Kp.push _ _) (by simp) rfl (by decide) (by omega)
    unfold grB at key
    have es : areGrants s (.tup gs) = (decide (gs.length ≤ 32) && grOk [s] gs) := rfl
    rw [es, decide_eq_true hl']
    refine ⟨h1, K1, ?_⟩
    cases q4 : grOk [s] gs with
    | false =>
      rw [q4] at key
      simp only [Bool.false_eq_true, if_false] at key
      simp -implicitDefEqProofs [ev_seq, e1, truD, key]
    | true =>
      rw [q4] at key
      simp only [if_true] at key
      obtain ⟨w, ev⟩ := key
      simp -implicitDefEqProofs [ev_seq, e1, truD, ev]
theorem list_eq {d : D} {h : LH} {r : Nat} (c : Cl h r d) (hr : r ≤ 40) : ∃ h', Kp h h' ∧ L.f_is_list [d] h = .ok (.bl (isList d)) h' := by
  obtain ⟨t, ht⟩ := c.ty
  unfold L.f_is_list
  rw [mkF_eq (by rfl)]
  unfold L.b_is_list
  rw [ev_seq]
  have e1 := row_eq' (n := 6) ht
  cases q1 : isRow 6 d with
  | false =>
    rw [q1] at e1
    refine ⟨h, Kp.refl h, ?_⟩
    simp -implicitDefEqProofs [e1, truD, list_no q1]
  | true =>
    rw [q1] at e1
    obtain ⟨k, n, v, e, g, gr, rfl⟩ := row_inv6 q1
    have e2 : L.f_has_head [.tup [k, n, v, e, g, gr], .str kLi, .int 2] h = _ := head_eq (n := 2) ok_kLi rfl rfl rfl c hr
    cases r with
    | zero => exact c.elim
    | succ r =>
    have i1 : ∀ z, dIx (.tup [k, n, v, e, g, gr]) (.int 1) z = .ok n z := fun _ => rfl
    have i4 : ∀ z, dIx (.tup [k, n, v, e, g, gr]) (.int 4) z = .ok g z := fun _ => rfl
    have i5 : ∀ z, dIx (.tup [k, n, v, e, g, gr]) (.int 5) z = .ok gr z := fun _ => rfl
    have cn := c.2 n (by simp)
    obtain ⟨tn, htn⟩ := cn.ty
    have e3 := name_eq htn (fun s hs => by have := cn.len s hs; omega)
    have es : isList (.tup [k, n, v, e, g, gr]) = (isS kLi k && (isVer v && (isAm e && (isLN n && (areGoods g && areGrants (cd n) gr))))) := rfl
    rw [es]
    cases q2 : (isS kLi k && (isVer v && isAm e)) with
    | false =>
      rw [q2] at e2
      refine ⟨h, Kp.refl h, ?_⟩
      have : (isS kLi k && (isVer v && (isAm e && (isLN n && (areGoods g && areGrants (cd n) gr))))) = false := by
        cases a1 : isS kLi k <;> cases a2 : isVer v <;> cases a3 : isAm e <;> rw [a1, a2, a3] at q2 <;> first | rfl | cases q2
      simp -implicitDefEqProofs [e1, truD, S_li, e2, this]
    | true =>
      rw [q2] at e2
      rw [Bool.and_eq_true, Bool.and_eq_true] at q2
      rw [q2.1, q2.2.1, q2.2.2]
      cases q3 : isLN n with
      | false =>
        rw [q3] at e3
        refine ⟨h, Kp.refl h, ?_⟩
        simp -implicitDefEqProofs [e1, truD, S_li, e2, i1, e3]
      | true =>
        rw [q3] at e3
        have en := isLN_str q3
        obtain ⟨h1, K1, e4⟩ := goods_eq (c.2 g (by simp))
        cases q4 : areGoods g with
        | false =>
          rw [q4] at e4
          refine ⟨h1, K1, ?_⟩
          simp -implicitDefEqProofs [ev_seq, e1, truD, S_li, e2, i1, e3, i4, e4]
        | true =>
          rw [q4] at e4
          obtain ⟨h2, K2, e5⟩ := grants_eq (s := cd n) ((c.2 gr (by simp)).kp K1) (by omega)
          rw [← en] at e5
          refine ⟨h2, K1.trans K2, ?_⟩
          simp -implicitDefEqProofs [ev_seq, e1, truD, S_li, e2, i1, e3, i4, e4, i5, e5]
theorem llist_eq {d : D} {h : LH} {r : Nat} (c : Cl h r d) (hr : r ≤ 40) : ∃ h', Kp h h' ∧ L.f__law_is_list [d] h = .ok (.bl (isList d)) h' := by
  obtain ⟨t, ht⟩ := c.ty
  unfold L.f__law_is_list
  rw [mkF_eq (by rfl)]
  unfold L.b__law_is_list
  rw [ev_seq]
  have e1 := lrow_eq (n := 6) ht
  cases q1 : isRow 6 d with
  | false =>
    rw [q1] at e1
    refine ⟨h, Kp.refl h, ?_⟩
    simp -implicitDefEqProofs [e1, truD, list_no q1]
  | true =>
    rw [q1] at e1
    obtain ⟨k, n, v, e, g, gr, rfl⟩ := row_inv6 q1
    cases r with
    | zero => exact c.elim
    | succ r =>
    have i0 : ∀ z, dIx (.tup [k, n, v, e, g, gr]) (.int 0) z = .ok k z := fun _ => rfl
    have i1 : ∀ z, dIx (.tup [k, n, v, e, g, gr]) (.int 1) z = .ok n z := fun _ => rfl
    have i2 : ∀ z, dIx (.tup [k, n, v, e, g, gr]) (.int 2) z = .ok v z := fun _ => rfl
    have i3 : ∀ z, dIx (.tup [k, n, v, e, g, gr]) (.int 3) z = .ok e z := fun _ => rfl
    have i4 : ∀ z, dIx (.tup [k, n, v, e, g, gr]) (.int 4) z = .ok g z := fun _ => rfl
    have i5 : ∀ z, dIx (.tup [k, n, v, e, g, gr]) (.int 5) z = .ok gr z := fun _ => rfl
    have cn := c.2 n (by simp)
    have cgr := c.2 gr (by simp)
    obtain ⟨tn, htn⟩ := cn.ty
    obtain ⟨tv, htv⟩ := (c.2 v (by simp)).ty
    obtain ⟨te, hte⟩ := (c.2 e (by simp)).ty
    obtain ⟨tgr, htgr⟩ := cgr.ty
    have e2 := dNe_cl (c.2 k (by simp)) (by omega) ok_kLi
    have e3 := lname_eq htn cn.len
    have e4 : L.f__law_number_v2 [v, .int 1] h = .ok (.bl (isVer v)) h := lnum_eq htv
    have e5 : L.f__law_number_v2 [e, .int 0] h = .ok (.bl (isAm e)) h := lnum_eq hte
    have e6 := ltup_eq (lo := 0) (hi := 32) htgr
    rw [tab_ltab] at e6
    have es : isList (.tup [k, n, v, e, g, gr]) = (isS kLi k && (isVer v && (isAm e && (isLN n && (areGoods g && areGrants (cd n) gr))))) := rfl
    rw [es]
    cases q2 : isS kLi k with
    | false =>
      rw [q2] at e2
      refine ⟨h, Kp.refl h, ?_⟩
      simp -implicitDefEqProofs [e1, truD, i0, S_li, e2]
    | true =>
    rw [q2] at e2
    cases q3 : isLN n with
    | false =>
      rw [q3] at e3
      refine ⟨h, Kp.refl h, ?_⟩
      simp -implicitDefEqProofs [e1, truD, i0, S_li, e2, i1, e3]
    | true =>
    rw [q3] at e3
    cases q4 : isVer v with
    | false =>
      rw [q4] at e4
      refine ⟨h, Kp.refl h, ?_⟩
      simp -implicitDefEqProofs [ev_seq, e1, truD, i0, S_li, e2, i1, e3, i2, e4]
    | true =>
    rw [q4] at e4
    cases q5 : isAm e with
    | false =>
      rw [q5] at e5
      refine ⟨h, Kp.refl h, ?_⟩
      simp -implicitDefEqProofs [ev_seq, e1, truD, i0, S_li, e2, i1, e3, i2, e4, i3, e5]
    | true =>
    rw [q5] at e5
    cases q6 : isTab 32 gr with
    | false =>
      rw [q6] at e6
      have : areGrants (cd n) gr = false := by
        cases gr with
        | tup rs =>
          have : ¬ rs.length ≤ 32 := by
            simp [isTab] at q6
            omega
          simp [areGrants, this]
        | _ => rfl
      refine ⟨h, Kp.refl h, ?_⟩
      simp -implicitDefEqProofs [ev_seq, e1, truD, i0, S_li, e2, i1, e3, i2, e4, i3, e5, i5, e6, this]
    | true =>
    rw [q6] at e6
    obtain ⟨gs, rfl, hl⟩ := tab_inv q6
    have hl' : gs.length ≤ 32 := by omega
    cases r with
    | zero => exact cgr.elim
    | succ r =>
    have en := isLN_str q3
    obtain ⟨h1, K1, key⟩ := grants_loop (F := L.f__law_is_grant) (iG := 2) (iN := 1) (R := h.length) (gs := gs) (h0 := h) (h := h ++ [.lst [.str (cd n)]]) (e := [some (.tup [k, n, v, e, g, .tup gs]), some (.ref h.length), none]) (s0 := cd n)
      (fun d g hd K => lgrant_eq ((cgr.2 d hd).kp K) (by omega)) (by simp) (Nat.le_refl _) (Kp.push _ _) (by simp) rfl (by decide) (by omega)
    unfold grB at key
    rw [← en] at key
    have eg : areGrants (cd n) (.tup gs) = grOk [cd n] gs := by
      show (decide (gs.length ≤ 32) && grOk [cd n] gs) = _
      rw [decide_eq_true hl', Bool.true_and]
    rw [eg]
    cases q7 : grOk [cd n] gs with
    | false =>
      rw [q7] at key
      simp only [Bool.false_eq_true, if_false] at key
      refine ⟨h1, K1, ?_⟩
      simp -implicitDefEqProofs [ev_seq, e1, truD, i0, S_li, e2, i1, e3, i2, e4, i3, e5, i5, e6, key]
    | true =>
      rw [q7] at key
      simp only [if_true] at key
      obtain ⟨w, ev⟩ := key
      obtain ⟨h2, K2, e7⟩ := lgoods_eq ((c.2 g (by simp)).kp K1)
      refine ⟨h2, K1.trans K2, ?_⟩
      simp -implicitDefEqProofs [ev_seq, e1, truD, i0, S_li, e2, i1, e3, i2, e4, i3, e5, i5, e6, ev, i4, e7]
end HM
set_option Elab.async false
set_option linter.all false
set_option maxRecDepth 100000
set_option maxHeartbeats 4000000
namespace HM
open PySem L2
/-! ### drawn amounts, digests, sums, stamps; spoilt values -/
theorem sf_kp {r : Nat} {h g : LH} (s : StrAt h r) (k : Kp h g) : SF r h g := by
  obtain ⟨a, b, e⟩ := s
  exact ⟨k.le, fun i hi _ => k.keep i hi, a, b, k.get e⟩
theorem st_ne {h : LH} {s : Nat} (st : StrAt h s) : h.length ≠ s := by
  obtain ⟨a, b, e⟩ := st
  have := lt_of_get e
  omega
theorem dPow_ok {a b : Int} {h : LH} (h0 : 0 ≤ b) (h1 : b ≤ 1000) (h2 : a.natAbs < 2 ^ 64) : dPow (.int a) (.int b) h = .ok (.int (a ^ b.toNat)) h := by
  show (if 0 ≤ b ∧ b ≤ 1000000 ∧ a.natAbs < 2 ^ 64 then Res.ok (D.int (a ^ b.toNat)) h else .bad) = _
  rw [if_pos ⟨h0, by omega, h2⟩]
theorem pow12 {h : LH} : dPow (.int 10) (.int 12) h = .ok (.int 1000000000000) h := dPow_ok (by decide) (by decide) (by decide)
theorem pow6 {h : LH} : dPow (.int 10) (.int 6) h = .ok (.int 1000000) h := dPow_ok (by decide) (by decide) (by decide)
/-- an item drawn from a new list -/
theorem pickL_ok {h : LH} {s : Nat} {xs : List D} {m : Int} (st : StrAt h s) (hm : m = xs.length) (h0 : 0 < xs.length) (h1 : xs.length ≤ 1000) :
    ∃ v x h2, L.f__law_take [.ref s, .int m] (h ++ [.lst xs]) = .ok (.int v) h2 ∧ dIx (.ref h.length) (.int v) h2 = .ok x h2 ∧ x ∈ xs ∧ SF s (h ++ [.lst xs]) h2 := by
  obtain ⟨v, h2, e, v0, v1, F, _⟩ := take_ok (h := h ++ [.lst xs]) (m := m) (SF.push st).st (by omega) (by omega)
  have hv : v.toNat < xs.length := by omega
  have hg : h2[h.length]? = some (.lst xs) := F.get (st_ne st) (by simp)
  exact ⟨v, xs[v.toNat], h2, e, dIx_ref hg (atI_of v0 (List.getElem?_eq_getElem hv)), List.getElem_mem hv, F⟩
theorem amount_ok {h : LH} {s : Nat} (st : StrAt h s) : ∃ v h', L.f__law_amount [.ref s] h = .ok (.int v) h' ∧ 0 ≤ v ∧ v ≤ 1000000000000 ∧ SF s h h' := by
  obtain ⟨a, h1, e1, a0, a1, F1, _⟩ := take_ok (m := 1000000) st (by decide) (by decide)
  obtain ⟨b, h2, e2, b0, b1, F2, _⟩ := take_ok (m := 1000000000000) F1.st (by decide) (by decide)
  obtain ⟨v, x, h3, e3, e4, hx, F3⟩ := pickL_ok (xs := [.int 0, .int 1, .int 9, .int 999999999999, .int 1000000000000, .int a, .int b]) (m := 7) F2.st rfl (by simp) (by simp)
  obtain ⟨w, rfl, w0, w1⟩ : ∃ w, x = .int w ∧ 0 ≤ w ∧ w ≤ 1000000000000 := by
    simp at hx
    rcases hx with rfl | rfl | rfl | rfl | rfl | rfl | rfl
    all_goals exact ⟨_, rfl, by omega, by omega⟩
  refine ⟨w, h3, ?_, w0, w1, (F1.trans F2).trans ((SF.push F2.st).trans F3)⟩
  unfold L.f__law_amount
  rw [mkF_eq (by rfl)]
  unfold L.b__law_amount
  simp -implicitDefEqProofs [pow12, pow6, dSub_int, e1, e2, e3, e4]
theorem hx_len : hxC.length = 16 := by decide +kernel
theorem hex_ok {h : LH} {s : Nat} (st : StrAt h s) : ∃ z h', L.f__law_hex [.ref s] h = .ok (.str z) h' ∧ z.length = 18 ∧ (∀ c ∈ z, c ∈ hxC) ∧ SF s h h' := by
  obtain ⟨z, h2, e2, e2', zl, zc, F2⟩ := joinR_ok (n := 18) (i := 1) (P := fun c => c ∈ hxC) (e := [some (.ref s), none])
    (y := mOp dIx (mC (.str hxC)) (mApp L.f__law_take (mCons (mVar 0) (mCons (mC (.int 16)) mNil)))) st (by omega) (fun g j F hj => by
      obtain ⟨ch, w, g2, ew, ei, hmem, G⟩ := pick_ok (cs := hxC) (m := 16) F.st (by decide) (by rw [hx_len]; decide) (by rw [hx_len]; decide)
      exact ⟨ch, g2, by simp -implicitDefEqProofs [ew, ei], hmem, G⟩)
  refine ⟨z, h2, ?_, zl, zc, F2⟩
  unfold L.f__law_hex
  rw [mkF_eq (by rfl)]
  unfold L.b__law_hex
  rw [S_nil] at e2'
  simp -implicitDefEqProofs [ev_rng1, wipeM, S_nil, S_ofH, isStr, e2, e2']
theorem isDg_of {z : List Nat} (h1 : z.length = 18) (h2 : ∀ c ∈ z, c ∈ hxC) : isDg (.str z) = true := by
  unfold isDg
  simp only [h1, decide_true, Bool.true_and, List.all_eq_true]
  intro c hc
  exact decide_eq_true (h2 c hc)
theorem max1 {v : Int} {h : LH} (h0 : 0 ≤ v) : dMax2 [.int 1, .int v] h = .ok (.int (max 1 v)) h := by
  show Res.ok (D.int (if v > 1 then v else 1)) h = _
  congr 2
  split <;> omega
theorem dsum_ok {h : LH} {s : Nat} (st : StrAt h s) : ∃ d h', L.f__law_sum [.ref s] h = .ok d h' ∧ isSum d = true ∧ SF s h h' := by
  obtain ⟨a, h1, e1, a0, a1, F1⟩ := amount_ok st
  obtain ⟨b, h2, e2, b0, b1, F2⟩ := amount_ok F1.st
  obtain ⟨z, h3, e3, zl, zc, F3⟩ := hex_ok F2.st
  refine ⟨.tup [.int (max 1 a), .int b, .str z], h3, ?_, ?_, (F1.trans F2).trans F3⟩
  · unfold L.f__law_sum
    rw [mkF_eq (by rfl)]
    unfold L.b__law_sum
    simp -implicitDefEqProofs [e1, e2, e3, max1 a0]
  · show (isVer _ && (isAm _ && isDg _)) = true
    rw [show isVer (.int (max 1 a)) = true from isInt_of (by omega) (by omega), show isAm (.int b) = true from isInt_of (by omega) (by omega), isDg_of zl zc]
    rfl
theorem isS_self (s : List Nat) : isS s (.str s) = true := by simp [isS]
theorem dstamp_ok {h : LH} {s : Nat} (st : StrAt h s) : ∃ d h', L.f__law_stamp [.ref s] h = .ok d h' ∧ isStamp d = true ∧ SF s h h' := by
  obtain ⟨a, h1, e1, a0, a1, F1⟩ := amount_ok st
  obtain ⟨b, h2, e2, b0, b1, F2⟩ := amount_ok F1.st
  obtain ⟨z, h3, e3, hz, F3⟩ := dsum_ok F2.st
  refine ⟨.tup [.str kSt, .int (max 1 a), .int b, z], h3, ?_, ?_, (F1.trans F2).trans F3⟩
  · unfold L.f__law_stamp
    rw [mkF_eq (by rfl)]
    unfold L.b__law_stamp
    simp -implicitDefEqProofs [S_st, e1, e2, e3, max1 a0]
  · show (isS kSt (.str kSt) && (isVer _ && (isAm _ && isSum _))) = true
    rw [isS_self, show isVer (.int (max 1 a)) = true from isInt_of (by omega) (by omega), show isAm (.int b) = true from isInt_of (by omega) (by omega), hz]
    rfl
/-! small values -/
def smS (s : List Nat) : Prop := s.length ≤ 100 ∧ ∀ c ∈ s, c < 128
def Sm : Nat → D → Prop
  | 0, d => match d with
    | .int i => 0 ≤ i ∧ i ≤ 10000000000000
    | .str s => smS s
    | _ => False
  | r + 1, d => match d with
    | .int i => 0 ≤ i ∧ i ≤ 10000000000000
    | .str s => smS s
    | .tup xs => xs.length ≤ 100 ∧ ∀ x ∈ xs, Sm r x
    | _ => False
theorem smS.ok {s : List Nat} (h : smS s) : okS s := ⟨by have := h.1; omega, fun c hc => by have := h.2 c hc; omega⟩
theorem Sm.cl {h : LH} : ∀ {r : Nat} {d : D}, Sm r d → Cl h r d := by
  intro r
  induction r with
  | zero =>
    intro d hd
    cases d <;> first | exact hd.elim | trivial | exact smS.ok hd
  | succ r ih =>
    intro d hd
    cases d with
    | tup xs => exact ⟨by have := hd.1; omega, fun x hx => ih (hd.2 x hx)⟩
    | _ => first | exact hd.elim | trivial | exact smS.ok hd
theorem Cl.sf {h g : LH} {s : Nat} (F : SF s h g) : ∀ {r : Nat} {d : D}, Cl h r d → Cl g r d := by
  intro r
  induction r with
  | zero =>
    intro d hd
    cases d <;> first | exact hd | trivial
  | succ r ih =>
    intro d hd
    cases d with
    | tup xs => exact ⟨hd.1, fun x hx => ih (hd.2 x hx)⟩
    | ref i =>
      obtain ⟨xs, e, hl, hx⟩ := hd
      by_cases c : i = s
      · subst c
        obtain ⟨a, b, e2⟩ := F.st
        refine ⟨_, e2, by simp, fun x hm => ?_⟩
        simp at hm
        rcases hm with rfl | rfl <;> cases r <;> trivial
      · exact ⟨xs, F.get c e, hl, fun x hm => ih (hx x hm)⟩
    | _ => first | exact hd | trivial
theorem cut_mem {α : Type} {xs : List α} {lo hi : Option Int} {x : α} (h : x ∈ cutD xs lo hi) : x ∈ xs := by
  unfold cutD at h
  exact List.mem_of_mem_drop (List.mem_of_mem_take h)
theorem cut_len {α : Type} {xs : List α} {lo hi : Option Int} : (cutD xs lo hi).length ≤ xs.length := by
  unfold cutD
  rw [List.length_take, List.length_drop]
  omega
theorem up_low : ∀ k, k < 128 → (Unicode.upperOf k).all (fun c => decide (c < 1114112)) = true := by decide +kernel
theorem up_ok {s : List Nat} (h : ∀ c ∈ s, c < 128) : ∀ c ∈ upL s, c < 1114112 := by
  intro c hc
  unfold upL Txt.upper placed at hc
  simp only [Array.mem_toList_iff, Array.mem_flatten, Array.mem_mapIdx] at hc
  obtain ⟨xs, ⟨i, hi, rfl⟩, hm⟩ := hc
  have hx := h _ (List.getElem_mem (l := s) (n := i) (by simpa using hi))
  have := List.all_eq_true.mp (up_low _ hx) c (by simpa using hm)
  exact of_decide_eq_true this
theorem dAdd_tup {a b : List D} {h : LH} (hl : a.length + b.length ≤ 16777216) : dAdd (.tup a) (.tup b) h = .ok (.tup (a ++ b)) h := by
  show (if a.length + b.length ≤ 16777216 then Res.ok (D.tup (a ++ b)) h else .bad) = _
  rw [if_pos hl]
theorem repS_mem {k : Nat} {s : List Nat} {c : Nat} (h : c ∈ repD k s) : c ∈ s := by
  unfold repD at h
  obtain ⟨l, hl, hc⟩ := List.mem_flatten.mp h
  rw [(List.mem_replicate.mp hl).2] at hc
  exact hc
theorem repS_len {k : Nat} {s : List Nat} : (repD k s).length = k * s.length := by
  unfold repD
  simp [Nat.mul_comm]
theorem dMulS_ok {k : Int} {a : List Nat} {h : LH} (h0 : 0 ≤ k) (h1 : k < 2 ^ 62) (hl : a.length * k.toNat ≤ 16777216) : dMulS (.str a) (.int k) h = .ok (.str (repD k.toNat a)) h := by
  show (if 0 ≤ k ∧ k < 2 ^ 62 ∧ a.length * k.toNat ≤ 16777216 then Res.ok (D.str (repD k.toNat a)) h else .bad) = _
  rw [if_pos ⟨h0, h1, hl⟩]
theorem okS_strI {n : Nat} (h : n < 10 ^ 20) : okS (strI (n : Int)) := by
  refine ⟨by have := strI_len h; omega, fun c hc => ?_⟩
  have := strI_all n c hc
  omega
/-- one odd value -/
theorem odd_const {h : LH} {s : Nat} {d : D} {r : Nat} (st : StrAt h s) (v2 : Option D) : ∃ d' h', (sSeq (sSet 2 (mLst (mCons (mC .non) (mCons (mC (.bl true)) (mCons (mC (.bl false)) (mCons (mC (.int 0)) (mCons (mC (.int 1)) (mCons (mC (.int 2)) (mCons (mC (.int 17)) (mCons (mOp dPow (mC (.int 10)) (mC (.int 12))) (mCons (mOp dAdd (mOp dPow (mC (.int 10)) (mC (.int 12))) (mC (.int 1))) (mCons (mC (S "")) (mCons (mC (S "k1")) (mCons (mC (S "list")) (mCons (mC (S "stamp")) (mCons (mOp dMulS (mC (S "g")) (mC (.int 18))) (mCons (mOp dMulS (mC (S "0")) (mC (.int 18))) (mCons (mTup mNil) (mCons (mLst (mCons (mC (.int 1)) mNil)) mNil)))))))))))))))))))
    (sRet (mOp dIx (mVar 2) (mApp L.f__law_take (mCons (mVar 0) (mCons (mC (.int 17)) mNil)))))) [some (.ref s), some d, v2] h = .ret d' h' ∧ Cl h' (r + 2) d' ∧ SF s h h' := by
  have sg : S "g" = .str [103] := S_eq "g"
  have s0 : S "0" = .str [48] := S_eq "0"
  have sk : S "k1" = .str [107, 49] := S_eq "k1"
  have m1 : ∀ g, dMulS (.str [103]) (.int 18) g = .ok (.str (repD 18 [103])) g := fun g => dMulS_ok (by decide) (by decide) (by decide)
  have m2 : ∀ g, dMulS (.str [48]) (.int 18) g = .ok (.str (repD 18 [48])) g := fun g => dMulS_ok (by decide) (by decide) (by decide)
  have st1 := (SF.push (o := .lst [.int 1]) st)
  obtain ⟨v, x, h3, e3, e4, hx, F3⟩ := pickL_ok (h := h ++ [.lst [.int 1]]) (xs := [.non, .bl true, .bl false, .int 0, .int 1, .int 2, .int 17, .int 1000000000000, .int 1000000000001, .str [], .str [107, 49], .str kLi, .str kSt, .str (repD 18 [103]), .str (repD 18 [48]), .tup [], .ref h.length]) (m := 17) st1.st rfl (by simp) (by simp)
  have F : SF s h h3 := st1.trans ((SF.push st1.st).trans F3)
  refine ⟨x, h3, ?_, ?_, F⟩
  · rw [ev_seq]
    have hl : (h ++ [LO.lst [D.int 1]]).length = h.length + 1 := by simp
    rw [hl] at e4
    simp -implicitDefEqProofs [pow12, dAdd_int, S_nil, sk, S_li, S_st, sg, s0, m1, m2]
    simp -implicitDefEqProofs at e3
    simp -implicitDefEqProofs [e3, e4]
  · have hin : h3[h.length]? = some (.lst [.int 1]) := by
      refine F3.get (st_ne st) ?_
      simp
    simp only [List.mem_cons, List.mem_nil_iff, or_false] at hx
    rcases hx with rfl | rfl | rfl | rfl | rfl | rfl | rfl | rfl | rfl | rfl | rfl | rfl | rfl | rfl | rfl | rfl | rfl
    all_goals first
      | trivial
      | exact ok_kLi
      | exact ok_kSt
      | exact okS_of (by decide +kernel) (by decide +kernel)
      | exact ⟨by simp, by simp⟩
      | exact ⟨_, hin, by simp, fun y hy => by rw [List.mem_singleton.mp hy]; trivial⟩
theorem odd_ok {h : LH} {s r : Nat} {d : D} (st : StrAt h s) (hd : Sm r d) : ∃ d' h', L.f__law_odd [.ref s, d] h = .ok d' h' ∧ Cl h' (r + 2) d' ∧ SF s h h' := by
  obtain ⟨k, h1, e1, k0, k1, F1, _⟩ := take_ok (m := 2) st (by decide) (by decide)
  have neg1 : ∀ g, dNeg (.int 1) g = .ok (.int (-1)) g := fun g => rfl
  unfold L.f__law_odd
  rw [mkF_eq (by rfl)]
  unfold L.b__law_odd
  obtain ⟨C, hC⟩ : ∃ C : MS, C = (sSeq (sSet 2 (mLst (mCons (mC .non) (mCons (mC (.bl true)) (mCons (mC (.bl false)) (mCons (mC (.int 0)) (mCons (mC (.int 1)) (mCons (mC (.int 2)) (mCons (mC (.int 17)) (mCons (mOp dPow (mC (.int 10)) (mC (.int 12))) (mCons (mOp dAdd (mOp dPow (mC (.int 10)) (mC (.int 12))) (mC (.int 1))) (mCons (mC (S "")) (mCons (mC (S "k1")) (mCons (mC (S "list")) (mCons (mC (S "stamp")) (mCons (mOp dMulS (mC (S "g")) (mC (.int 18))) (mCons (mOp dMulS (mC (S "0")) (mC (.int 18))) (mCons (mTup mNil) (mCons (mLst (mCons (mC (.int 1)) mNil)) mNil)))))))))))))))))))
    (sRet (mOp dIx (mVar 2) (mApp L.f__law_take (mCons (mVar 0) (mCons (mC (.int 17)) mNil)))))) := ⟨_, rfl⟩
  rw [← hC]
  by_cases q : k = 0
  · cases d with
    | tup xs =>
      cases r with
      | zero => exact hd.elim
      | succ r =>
      have hl := hd.1
      have a1 : ∀ g, dAdd (.tup xs) (.tup xs) g = .ok (.tup (xs ++ xs)) g := fun g => dAdd_tup (by omega)
      have a2 : ∀ g, dAdd (.tup xs) (.tup (cutD xs none (some 1))) g = .ok (.tup (xs ++ cutD xs none (some 1))) g := fun g => dAdd_tup (by have := cut_len (xs := xs) (lo := none) (hi := some 1); omega)
      have l1 : ∀ g, dList [.tup xs] g = .ok (.ref g.length) (g ++ [.lst xs]) := fun g => rfl
      have r1 : ∀ g, dRevT (.tup xs) g = .ok (.tup xs.reverse) g := fun g => rfl
      have st1 := (SF.push (o := .lst xs) F1.st)
      obtain ⟨v, x, h3, e3, e4, hx, F3⟩ := pickL_ok (h := h1 ++ [.lst xs]) (xs := [.tup (xs ++ xs), .tup (cutD xs none (some (-1))), .tup (cutD xs (some 1) none), .tup xs.reverse, .ref h1.length, .tup (xs ++ cutD xs none (some 1)), .tup [.tup xs]]) (m := 7) st1.st rfl (by simp) (by simp)
      have F : SF s h h3 := F1.trans (st1.trans ((SF.push st1.st).trans F3))
      refine ⟨x, h3, ?_, ?_, F⟩
      · rw [ev_seq]
        have hl2 : (h1 ++ [LO.lst xs]).length = h1.length + 1 := by simp
        rw [hl2] at e4
        simp -implicitDefEqProofs [ev_seq, tyD, isB, truD, e1, dEq_int, q, a1, neg1, dSl_tup, l1, r1, a2]
        simp -implicitDefEqProofs at e3
        simp -implicitDefEqProofs [e3, e4]
      · have hin : h3[h1.length]? = some (.lst xs) := by
          refine F3.get (st_ne F1.st) ?_
          simp
        have cx : ∀ y ∈ xs, Cl h3 (r + 2) y := fun y hy => ((hd.2 y hy).cl).mono (by omega)
        have hc1 := cut_len (xs := xs) (lo := none) (hi := some (-1))
        have hc2 := cut_len (xs := xs) (lo := some 1) (hi := none)
        have hc3 := cut_len (xs := xs) (lo := none) (hi := some 1)
        simp only [List.mem_cons, List.mem_nil_iff, or_false] at hx
        rcases hx with rfl | rfl | rfl | rfl | rfl | rfl | rfl
        · exact ⟨by simp; omega, fun y hy => by
            rcases List.mem_append.mp hy with hy | hy <;> exact cx y hy⟩
        · exact ⟨by omega, fun y hy => cx y (cut_mem hy)⟩
        · exact ⟨by omega, fun y hy => cx y (cut_mem hy)⟩
        · exact ⟨by simp; omega, fun y hy => cx y (by simpa using hy)⟩
        · exact ⟨xs, hin, by omega, fun y hy => cx y hy⟩
        · exact ⟨by simp; omega, fun y hy => by
            rcases List.mem_append.mp hy with hy | hy
            · exact cx y hy
            · exact cx y (cut_mem hy)⟩
        · exact ⟨by simp, fun y hy => by
            rw [List.mem_singleton.mp hy]
            exact ⟨by omega, fun y hy => ((hd.2 y hy).cl).mono (by omega)⟩⟩
    | str z =>
      have hz : smS z := by cases r <;> exact hd
      have hl := hz.1
      have hzl : z.length ≤ 16777216 := by omega
      have sa : S "a" = .str [97] := S_eq "a"
      have sb : S " " = .str [32] := S_eq " "
      have s0 : S "0" = .str [48] := S_eq "0"
      have ss : S "/" = .str [47] := S_eq "/"
      have a1 : ∀ (c : Nat) g, dAdd (.str z) (.str [c]) g = .ok (.str (z ++ [c])) g := fun c g => dAdd_str (by simp; omega)
      have u1 : ∀ g, dUpper (.str z) g = .ok (.str (upL z)) g := fun g => by
        show (if z.length ≤ 5592405 then Res.ok (D.str (upL z)) g else .bad) = _
        rw [if_pos (by omega)]
      have m1 : ∀ g, dMulX (.str z) (.int 8) g = .ok (.str (repD 8 z)) g := fun g => dMulS_ok (k := 8) (by decide) (by decide) (by show z.length * 8 ≤ _; omega)
      obtain ⟨v, x, h3, e3, e4, hx, F3⟩ := pickL_ok (h := h1) (xs := [.str (z ++ [97]), .str (cutD z none (some (-1))), .str (cutD z (some 1) none), .str (z ++ [32]), .str (upL z), .str (z ++ [48]), .str (z ++ [47]), .str (repD 8 z)]) (m := 8) F1.st rfl (by simp) (by simp)
      have F : SF s h h3 := F1.trans ((SF.push F1.st).trans F3)
      refine ⟨x, h3, ?_, ?_, F⟩
      · rw [ev_seq]
        simp -implicitDefEqProofs [ev_seq, tyD, isB, truD, e1, dEq_int, q, sa, sb, s0, ss, a1, neg1, dSl_str hzl, u1, m1, e3, e4]
      · have sn : ∀ c, c < 128 → okS (z ++ [c]) := fun c hc => ⟨by simp; omega, fun y hy => by
          rcases List.mem_append.mp hy with hy | hy
          · have := hz.2 y hy; omega
          · rw [List.mem_singleton.mp hy]; omega⟩
        have hc1 := cut_len (xs := z) (lo := none) (hi := some (-1))
        have hc2 := cut_len (xs := z) (lo := some 1) (hi := none)
        have hu := upL_len z
        simp only [List.mem_cons, List.mem_nil_iff, or_false] at hx
        rcases hx with rfl | rfl | rfl | rfl | rfl | rfl | rfl | rfl
        · exact sn 97 (by omega)
        · exact ⟨by omega, fun y hy => by have := hz.2 y (cut_mem hy); omega⟩
        · exact ⟨by omega, fun y hy => by have := hz.2 y (cut_mem hy); omega⟩
        · exact sn 32 (by omega)
        · exact ⟨by omega, up_ok hz.2⟩
        · exact sn 48 (by omega)
        · exact sn 47 (by omega)
        · exact ⟨by rw [repS_len]; omega, fun y hy => by have := hz.2 y (repS_mem hy); omega⟩
    | int i =>
      have hi : 0 ≤ i ∧ i ≤ 10000000000000 := by cases r <;> exact hd
      obtain ⟨n, rfl⟩ : ∃ n : Nat, i = n := ⟨i.toNat, by omega⟩
      have m1 : ∀ g, dMulX (.int (n : Int)) (.int 10) g = .ok (.int ((n : Int) * 10)) g := fun g => by
        show dMul (.int (n : Int)) (.int 10) g = _
        exact dMul_int (mulOk_r (by decide))
      have t1 : ∀ g, dStr [.int (n : Int)] g = .ok (.str (strI n)) g := fun g => dStr_int (by omega)
      obtain ⟨v, x, h3, e3, e4, hx, F3⟩ := pickL_ok (h := h1) (xs := [.int ((n : Int) + 1), .int ((n : Int) - 1), .int (-1 - (n : Int)), .str (strI n), .tup [.int n], .int ((n : Int) * 10 + 17)]) (m := 6) F1.st rfl (by simp) (by simp)
      have F : SF s h h3 := F1.trans ((SF.push F1.st).trans F3)
      refine ⟨x, h3, ?_, ?_, F⟩
      · rw [ev_seq]
        simp -implicitDefEqProofs [ev_seq, tyD, isB, truD, e1, dEq_int, q, neg1, dAdd_int, dSub_int, dInt_int, t1, m1, e3, e4]
      · simp only [List.mem_cons, List.mem_nil_iff, or_false] at hx
        rcases hx with rfl | rfl | rfl | rfl | rfl | rfl
        · trivial
        · trivial
        · trivial
        · exact okS_strI (by omega)
        · exact ⟨by simp, fun y hy => by rw [List.mem_singleton.mp hy]; trivial⟩
        · trivial
    | _ => cases r <;> exact hd.elim
  · obtain ⟨d', h', eC, cC, FC⟩ := odd_const (r := r) (d := d) F1.st none
    rw [← hC] at eC
    refine ⟨d', h', ?_, cC, F1.trans FC⟩
    cases d with
    | tup xs => simp -implicitDefEqProofs [ev_seq, tyD, isB, truD, e1, dEq_int, q, eC]
    | str z => simp -implicitDefEqProofs [ev_seq, tyD, isB, truD, e1, dEq_int, q, eC]
    | int i => simp -implicitDefEqProofs [ev_seq, tyD, isB, truD, e1, dEq_int, q, eC]
    | _ => cases r <;> exact hd.elim
theorem spoilt_ok {s : Nat} : ∀ (r n : Nat), r + 1 ≤ n → ∀ (d : D) (h : LH), r ≤ 30 → StrAt h s → Sm r d → ∃ d' h', L.F__law_spoilt n 0 [.ref s, d] h = .ok d' h' ∧ Cl h' (r + 2) d' ∧ SF s h h' := by
  intro r
  induction r with
  | zero =>
    intro n hn d h _ st hd
    obtain ⟨m, rfl⟩ : ∃ m, n = m + 1 := ⟨n - 1, by omega⟩
    obtain ⟨d', h', e, c, F⟩ := odd_ok st hd
    refine ⟨d', h', ?_, c, F⟩
    unfold L.F__law_spoilt
    rw [mkF_eq (by rfl)]
    unfold L.b__law_spoilt
    cases d with
    | str z => simp -implicitDefEqProofs [ev_seq, tyD, isB, truD, e]
    | int i => simp -implicitDefEqProofs [ev_seq, tyD, isB, truD, e]
    | _ => exact hd.elim
  | succ r ih =>
    intro n hn d h hr st hd
    obtain ⟨m, rfl⟩ : ∃ m, n = m + 1 := ⟨n - 1, by omega⟩
    unfold L.F__law_spoilt
    rw [mkF_eq (by rfl)]
    unfold L.b__law_spoilt
    cases d with
    | str z =>
      obtain ⟨d', h', e, c, F⟩ := odd_ok st hd
      refine ⟨d', h', ?_, c, F⟩
      simp -implicitDefEqProofs [ev_seq, tyD, isB, truD, e]
    | int i =>
      obtain ⟨d', h', e, c, F⟩ := odd_ok st hd
      refine ⟨d', h', ?_, c, F⟩
      simp -implicitDefEqProofs [ev_seq, tyD, isB, truD, e]
    | tup xs =>
      have hl := hd.1
      have e0 := dNe_tup0 (h := h) (r := r + 1) (xs := xs) hd.cl (by omega)
      cases q0 : xs.isEmpty with
      | true =>
        rw [q0] at e0
        obtain ⟨d', h', e, c, F⟩ := odd_ok st hd
        refine ⟨d', h', ?_, c, F⟩
        simp -implicitDefEqProofs [ev_seq, tyD, isB, truD, e0, e]
      | false =>
        rw [q0] at e0
        have hne : 0 < xs.length := by
          cases xs with
          | nil => cases q0
          | cons => simp
        obtain ⟨k, h1, e1, k0, k1, F1, _⟩ := take_ok (m := 5) st (by decide) (by decide)
        by_cases q : 0 < k
        · obtain ⟨w, h2, e2, w0, w1, F2, _⟩ := take_ok (m := xs.length) F1.st (by omega) (by omega)
          have hw : w.toNat < xs.length := by omega
          have ei : ∀ g, dIx (.tup xs) (.int w) g = .ok xs[w.toNat] g := fun g => dIx_tup (atI_of w0 (List.getElem?_eq_getElem hw))
          obtain ⟨x', h3, e3, c3, F3⟩ := ih m (by omega) xs[w.toNat] h2 (by omega) F2.st (hd.2 _ (List.getElem_mem hw))
          have s1 : ∀ g, dSl (.tup xs) none (some w) g = .ok (.tup (xs.take w.toNat)) g := fun g => by rw [dSl_tup, cut_to w0]
          have s2 : ∀ g, dSl (.tup xs) (some (w + 1)) none g = .ok (.tup (xs.drop (w + 1).toNat)) g := fun g => by rw [dSl_tup, cut_from (by omega)]
          have a1 : ∀ g, dAdd (.tup (xs.take w.toNat)) (.tup [x']) g = .ok (.tup (xs.take w.toNat ++ [x'])) g := fun g => dAdd_tup (by simp; omega)
          have a2 : ∀ g, dAdd (.tup (xs.take w.toNat ++ [x'])) (.tup (xs.drop (w + 1).toNat)) g = .ok (.tup ((xs.take w.toNat ++ [x']) ++ xs.drop (w + 1).toNat)) g := fun g => dAdd_tup (by simp; omega)
          refine ⟨.tup ((xs.take w.toNat ++ [x']) ++ xs.drop (w + 1).toNat), h3, ?_, ?_, (F1.trans F2).trans F3⟩
          · simp -implicitDefEqProofs [ev_seq, tyD, isB, truD, e0, e1, dGt_int, q, dLen_tup, e2, ei, e3, s1, s2, dAdd_int, a1, a2]
          · refine ⟨by simp; omega, fun y hy => ?_⟩
            rcases List.mem_append.mp hy with hy | hy
            · rcases List.mem_append.mp hy with hy | hy
              · exact ((hd.2 y (List.mem_of_mem_take hy)).cl).mono (by omega)
              · rw [List.mem_singleton.mp hy]; exact c3
            · exact ((hd.2 y (List.mem_of_mem_drop hy)).cl).mono (by omega)
        · obtain ⟨d', h', e, c, F⟩ := odd_ok F1.st hd
          refine ⟨d', h', ?_, c, F1.trans F⟩
          simp -implicitDefEqProofs [ev_seq, tyD, isB, truD, e0, e1, dGt_int, q, e]
    | _ => exact hd.elim
end HM
set_option Elab.async false
set_option linter.all false
set_option maxRecDepth 100000
set_option maxHeartbeats 4000000
namespace HM
open PySem L2
/-! ### documents are small; the law of one kind -/
theorem Sm.up : ∀ {r : Nat} {d : D}, Sm r d → Sm (r + 1) d := by
  intro r
  induction r with
  | zero =>
    intro d hd
    cases d <;> first | exact hd | exact hd.elim
  | succ r ih =>
    intro d hd
    cases d with
    | tup xs => exact ⟨hd.1, fun x hx => ih (hd.2 x hx)⟩
    | _ => first | exact hd | exact hd.elim
theorem Sm.mono {r r' : Nat} {d : D} (hr : r ≤ r') (c : Sm r d) : Sm r' d := by
  induction hr with
  | refl => exact c
  | step _ ih => exact ih.up
theorem mem_low {cs : List Nat} (h : cs.all (fun c => decide (c < 128)) = true) {c : Nat} (hc : c ∈ cs) : c < 128 := of_decide_eq_true (List.all_eq_true.mp h c hc)
theorem dg_low {c : Nat} (h : c ∈ dgC) : c < 128 := mem_low (by decide +kernel) h
theorem nm_low {c : Nat} (h : c ∈ nmC) : c < 128 := mem_low (by decide +kernel) h
theorem hx_low {c : Nat} (h : c ∈ hxC) : c < 128 := mem_low (by decide +kernel) h
theorem pc_low {c : Nat} (h : c ∈ pcC) : c < 128 := mem_low (by decide +kernel) h
theorem pt_low {c : Nat} (h : c ∈ ptC) : c < 128 := mem_low (by decide +kernel) h
theorem inC_mem {cs : List Nat} {s : List Nat} (h : s.all (inC cs) = true) {c : Nat} (hc : c ∈ s) : c ∈ cs := of_decide_eq_true (List.all_eq_true.mp h c hc)
theorem key_sm {d : D} (h : isKey d = true) : Sm 0 d := by
  obtain ⟨s, rfl⟩ : ∃ s, d = .str s := ⟨_, isKey_str h⟩
  unfold isKey at h
  simp only [Bool.and_eq_true, decide_eq_true_eq] at h
  refine ⟨by omega, fun c hc => ?_⟩
  cases s with
  | nil => simp at hc
  | cons a l =>
    rcases List.mem_cons.mp hc with rfl | hc
    · have := h.1.2
      simp at this
      omega
    · exact dg_low (inC_mem h.2 (by simpa using hc))
theorem name_sm {d : D} (h : isLN d = true) : Sm 0 d := by
  obtain ⟨s, rfl⟩ : ∃ s, d = .str s := ⟨_, isLN_str h⟩
  unfold isLN at h
  simp only [Bool.and_eq_true, decide_eq_true_eq] at h
  exact ⟨by omega, fun c hc => nm_low (inC_mem h.2 hc)⟩
theorem dg_sm {d : D} (h : isDg d = true) : Sm 0 d := by
  cases d with
  | str s =>
    unfold isDg at h
    simp only [Bool.and_eq_true, decide_eq_true_eq] at h
    exact ⟨by omega, fun c hc => hx_low (inC_mem h.2 hc)⟩
  | _ => cases h
theorem cut1_mem {k : Nat} : ∀ (s acc : List Nat) (c : Nat), c ∈ s ∨ c ∈ acc → c = k ∨ ∃ p ∈ cut1 k acc s, c ∈ p := by
  intro s
  induction s with
  | nil =>
    intro acc c h
    rcases h with h | h
    · simp at h
    · exact .inr ⟨acc, by simp [cut1], h⟩
  | cons a l ih =>
    intro acc c h
    unfold cut1
    by_cases q : a = k
    · rw [if_pos q]
      rcases h with h | h
      · rcases List.mem_cons.mp h with rfl | h
        · exact .inl q
        · rcases ih [] c (.inl h) with h | ⟨p, hp, hc⟩
          · exact .inl h
          · exact .inr ⟨p, by simp [hp], hc⟩
      · exact .inr ⟨acc, by simp, h⟩
    · rw [if_neg q]
      refine ih (acc ++ [a]) c ?_
      rcases h with h | h
      · rcases List.mem_cons.mp h with rfl | h
        · exact .inr (by simp)
        · exact .inl h
      · exact .inr (by simp [h])
theorem path_sm {d : D} {cs : List Nat} (h : hasD d cs = true) (hc : ∀ c ∈ cs, c < 128) : Sm 0 d := by
  cases d with
  | str s =>
    have h : hasP s cs = true := h
    unfold hasP at h
    simp only [Bool.and_eq_true, decide_eq_true_eq, List.all_eq_true] at h
    refine ⟨by omega, fun c hm => ?_⟩
    rcases cut1_mem (k := 47) s [] c (.inl hm) with hk | ⟨p, hp, hc2⟩
    · omega
    · have := h.2.2 p hp
      unfold okP at this
      rw [Bool.and_eq_true] at this
      exact hc c (inC_mem this.2 hc2)
  | _ => cases h
theorem int_sm {d : D} {lo hi : Int} (h : isInt lo hi d = true) (h0 : 0 ≤ lo) (h1 : hi ≤ 10000000000000) (r : Nat) : Sm r d := by
  obtain ⟨i, rfl, a, b⟩ := isInt_inv h
  cases r <;> exact ⟨by omega, by omega⟩
theorem sum_sm {d : D} (h : isSum d = true) : Sm 1 d := by
  unfold isSum at h
  split at h
  · rename_i a b c
    rw [Bool.and_eq_true, Bool.and_eq_true] at h
    refine ⟨by simp, fun x hx => ?_⟩
    simp at hx
    rcases hx with rfl | rfl | rfl
    · exact int_sm h.1 (by decide) (by decide) 0
    · exact int_sm h.2.1 (by decide) (by decide) 0
    · exact dg_sm h.2.2
  · cases h
theorem kind_sm {k : List Nat} {d : D} (h : isS k d = true) (hk : smS k) : Sm 0 d := by
  cases d with
  | str s =>
    have : s = k := of_decide_eq_true h
    subst this
    exact hk
  | _ => cases h
theorem sm_kCr : smS kCr := ⟨by decide +kernel, by decide +kernel⟩
theorem sm_kSt : smS kSt := ⟨by decide +kernel, by decide +kernel⟩
theorem sm_kSh : smS kSh := ⟨by decide +kernel, by decide +kernel⟩
theorem sm_kLi : smS kLi := ⟨by decide +kernel, by decide +kernel⟩
theorem stamp_sm {d : D} (h : isStamp d = true) : Sm 2 d := by
  unfold isStamp at h
  split at h
  · rename_i k v e s
    simp only [Bool.and_eq_true] at h
    refine ⟨by simp, fun x hx => ?_⟩
    simp at hx
    rcases hx with rfl | rfl | rfl | rfl
    · exact (kind_sm h.1 sm_kSt).mono (by omega)
    · exact int_sm h.2.1 (by decide) (by decide) 1
    · exact int_sm h.2.2.1 (by decide) (by decide) 1
    · exact sum_sm h.2.2.2
  · cases h
theorem role_sm {d : D} (h : isRole d = true) : Sm 2 d := by
  unfold isRole at h
  split at h
  · rename_i a ks
    simp only [Bool.and_eq_true, decide_eq_true_eq, List.all_eq_true] at h
    refine ⟨by simp, fun x hx => ?_⟩
    simp at hx
    rcases hx with rfl | rfl
    · exact int_sm h.2.2.2 (by decide) (by omega) 1
    · exact ⟨by omega, fun y hy => key_sm (h.2.1 y hy)⟩
  · cases h
theorem charter_sm {d : D} (h : isCharter d = true) : Sm 4 d := by
  unfold isCharter at h
  split at h
  · rename_i k v e rs
    simp only [Bool.and_eq_true, decide_eq_true_eq, List.all_eq_true] at h
    refine ⟨by simp, fun x hx => ?_⟩
    simp at hx
    rcases hx with rfl | rfl | rfl | rfl
    · exact (kind_sm h.1 sm_kCr).mono (by omega)
    · exact int_sm h.2.1 (by decide) (by decide) 3
    · exact int_sm h.2.2.1 (by decide) (by decide) 3
    · exact ⟨by omega, fun y hy => role_sm (h.2.2.2.2 y hy)⟩
  · cases h
theorem ent_sm {d : D} (h : isEnt d = true) : Sm 1 d := by
  unfold isEnt at h
  split at h
  · rename_i n a b c
    rw [Bool.and_eq_true] at h
    have := sum_sm h.2
    refine ⟨by simp, fun x hx => ?_⟩
    simp at hx
    rcases hx with rfl | rfl | rfl | rfl
    · exact name_sm h.1
    · exact this.2 _ (by simp)
    · exact this.2 _ (by simp)
    · exact this.2 _ (by simp)
  · cases h
theorem shelf_sm {d : D} (h : isShelf d = true) : Sm 3 d := by
  unfold isShelf at h
  split at h
  · rename_i k v e rs
    simp only [Bool.and_eq_true, decide_eq_true_eq, List.all_eq_true] at h
    refine ⟨by simp, fun x hx => ?_⟩
    simp at hx
    rcases hx with rfl | rfl | rfl | rfl
    · exact (kind_sm h.1 sm_kSh).mono (by omega)
    · exact int_sm h.2.1 (by decide) (by decide) 2
    · exact int_sm h.2.2.1 (by decide) (by decide) 2
    · exact ⟨by omega, fun y hy => ent_sm (h.2.2.2.2.1 y hy)⟩
  · cases h
theorem grant_sm {d : D} (h : isGrant d = true) : Sm 3 d := by
  unfold isGrant at h
  split at h
  · rename_i n rl ps l
    simp only [Bool.and_eq_true, decide_eq_true_eq, List.all_eq_true] at h
    refine ⟨by simp, fun x hx => ?_⟩
    simp at hx
    rcases hx with rfl | rfl | rfl | rfl
    · exact (name_sm h.1).mono (by omega)
    · exact role_sm h.2.2.1
    · exact ⟨by omega, fun y hy => (path_sm (h.2.2.2.2.2.1 y hy) fun c => pt_low).mono (by omega)⟩
    · exact int_sm h.2.2.2.2.2.2 (by decide) (by decide) 2
  · cases h
theorem good_sm {d : D} (h : isGood d = true) : Sm 1 d := by
  unfold isGood at h
  split at h
  · rename_i p l g
    simp only [Bool.and_eq_true] at h
    refine ⟨by simp, fun x hx => ?_⟩
    simp at hx
    rcases hx with rfl | rfl | rfl
    · exact path_sm h.1 fun c => pc_low
    · exact int_sm h.2.1 (by decide) (by decide) 0
    · exact dg_sm h.2.2
  · cases h
theorem grOk_all : ∀ {gs : List D} {seen : List (List Nat)}, grOk seen gs = true → ∀ g ∈ gs, isGrant g = true
  | [], _, _, g, hg => by simp at hg
  | a :: l, seen, h, g, hg => by
    rw [grOk_cons, Bool.and_eq_true, Bool.and_eq_true] at h
    rcases List.mem_cons.mp hg with rfl | hg
    · exact h.1
    · exact grOk_all h.2.2 g hg
theorem list_sm {d : D} (h : isList d = true) : Sm 5 d := by
  unfold isList at h
  split at h
  · rename_i k n v e g gr
    simp only [Bool.and_eq_true] at h
    refine ⟨by simp, fun x hx => ?_⟩
    simp at hx
    rcases hx with rfl | rfl | rfl | rfl | rfl | rfl
    · exact (kind_sm h.1 sm_kLi).mono (by omega)
    · exact (name_sm h.2.2.2.1).mono (by omega)
    · exact int_sm h.2.1 (by decide) (by decide) 4
    · exact int_sm h.2.2.1 (by decide) (by decide) 4
    · have hg := h.2.2.2.2.1
      cases x with
      | tup rs =>
        unfold areGoods at hg
        simp only [Bool.and_eq_true, decide_eq_true_eq, List.all_eq_true] at hg
        exact ⟨by omega, fun y hy => (good_sm (hg.2.1 y hy)).mono (r' := 3) (by decide)⟩
      | _ => cases hg
    · have hg := h.2.2.2.2.2
      cases x with
      | tup rs =>
        unfold areGrants at hg
        simp only [Bool.and_eq_true, decide_eq_true_eq] at hg
        exact ⟨by omega, fun y hy => grant_sm (grOk_all hg.2 y hy)⟩
      | _ => cases hg
  · cases h
/-! one kind is not another -/
def kOf (d : D) : List Nat := fstC d
theorem isS_cd {k : List Nat} {d : D} (h : isS k d = true) : d = .str k := by
  cases d with
  | str s => rw [show s = k from of_decide_eq_true h]
  | _ => cases h
theorem charter_k {d : D} (h : isCharter d = true) : kOf d = kCr ∧ ∃ xs, d = .tup xs ∧ xs.length = 4 := by
  unfold isCharter at h
  split at h
  · rename_i k v e rs
    rw [Bool.and_eq_true] at h
    rw [isS_cd h.1]
    exact ⟨rfl, _, rfl, rfl⟩
  · cases h
theorem stamp_k {d : D} (h : isStamp d = true) : kOf d = kSt ∧ ∃ xs, d = .tup xs ∧ xs.length = 4 := by
  unfold isStamp at h
  split at h
  · rename_i k v e rs
    rw [Bool.and_eq_true] at h
    rw [isS_cd h.1]
    exact ⟨rfl, _, rfl, rfl⟩
  · cases h
theorem shelf_k {d : D} (h : isShelf d = true) : kOf d = kSh ∧ ∃ xs, d = .tup xs ∧ xs.length = 4 := by
  unfold isShelf at h
  split at h
  · rename_i k v e rs
    rw [Bool.and_eq_true] at h
    rw [isS_cd h.1]
    exact ⟨rfl, _, rfl, rfl⟩
  · cases h
theorem list_k {d : D} (h : isList d = true) : kOf d = kLi ∧ ∃ xs, d = .tup xs ∧ xs.length = 6 := by
  unfold isList at h
  split at h
  · rename_i k n v e g gr
    rw [Bool.and_eq_true] at h
    rw [isS_cd h.1]
    exact ⟨rfl, _, rfl, rfl⟩
  · cases h
theorem no_of {p : D → Bool} {k : List Nat} {d : D} (hp : ∀ d, p d = true → kOf d = k) (hk : kOf d ≠ k) : p d = false := by
  cases e : p d with
  | false => rfl
  | true => exact absurd (hp d e) hk
/-- the four kinds of a document -/
def kinds4 (d : D) : List Bool := [isCharter d, isStamp d, isShelf d, isList d]
theorem kinds_charter {d : D} (h : isCharter d = true) : kinds4 d = [true, false, false, false] := by
  have e := (charter_k h).1
  have k := kinds
  unfold kinds4
  rw [h, no_of (fun d h => (stamp_k h).1) (by rw [e]; exact k.1), no_of (fun d h => (shelf_k h).1) (by rw [e]; exact k.2.1), no_of (fun d h => (list_k h).1) (by rw [e]; exact k.2.2.1)]
theorem kinds_stamp {d : D} (h : isStamp d = true) : kinds4 d = [false, true, false, false] := by
  have e := (stamp_k h).1
  have k := kinds
  unfold kinds4
  rw [h, no_of (fun d h => (charter_k h).1) (by rw [e]; exact k.1.symm), no_of (fun d h => (shelf_k h).1) (by rw [e]; exact k.2.2.2.1), no_of (fun d h => (list_k h).1) (by rw [e]; exact k.2.2.2.2.1)]
theorem kinds_shelf {d : D} (h : isShelf d = true) : kinds4 d = [false, false, true, false] := by
  have e := (shelf_k h).1
  have k := kinds
  unfold kinds4
  rw [h, no_of (fun d h => (charter_k h).1) (by rw [e]; exact k.2.1.symm), no_of (fun d h => (stamp_k h).1) (by rw [e]; exact k.2.2.2.1.symm), no_of (fun d h => (list_k h).1) (by rw [e]; exact k.2.2.2.2.2)]
theorem kinds_list {d : D} (h : isList d = true) : kinds4 d = [false, false, false, true] := by
  have e := (list_k h).1
  have k := kinds
  unfold kinds4
  rw [h, no_of (fun d h => (charter_k h).1) (by rw [e]; exact k.2.2.1.symm), no_of (fun d h => (stamp_k h).1) (by rw [e]; exact k.2.2.2.2.1.symm), no_of (fun d h => (shelf_k h).1) (by rw [e]; exact k.2.2.2.2.2.symm)]
theorem strAt_stream {n : Int} {h : LH} : ∃ h1, L.f__law_stream [.int n] h = .ok (.ref h.length) h1 ∧ StrAt h1 h.length ∧ Kp h h1 := by
  refine ⟨_, stream_eq, ?_, Kp.push _ _⟩
  unfold StrAt
  split
  · exact ⟨n, 1, by simp⟩
  · exact ⟨0, n, by simp⟩
/-- what a kind's functions do -/
structure Kind (FD FX FL : MF) (p : D → Bool) (kk : Nat) (kd : List Nat) : Prop where
  draw : ∀ h s, StrAt h s → ∃ d h', FD [.ref s] h = .ok d h' ∧ p d = true ∧ SF s h h'
  sm : ∀ d, p d = true → Sm 6 d
  fx : ∀ h r d, Cl h r d → r ≤ 40 → ∃ h', Kp h h' ∧ FX [d] h = .ok (.bl (p d)) h'
  fl : ∀ h r d, Cl h r d → r ≤ 40 → ∃ h', Kp h h' ∧ FL [d] h = .ok (.bl (p d)) h'
  k4 : ∀ d, p d = true → kinds4 d = (List.range 4).map fun m => decide (m = kk)
  row : ∀ d, p d = true → ∃ xs, d = .tup xs ∧ p (.tup xs.tail) = false
  non : p .non = false
  rf : ∀ i, p (.ref i) = false
  tx : ∀ s, p (.str s) = false
  ok : okS kd
def docBody (FD FX FL : MF) (kk : Nat) : MS := (sSeq (sSet 2 (mApp L.f__law_stream (mCons (mApp L.f__law_cell (mCons (mVar 0) (mCons (mVar 1) mNil))) mNil)))
    (sSeq (sSet 3 (mApp FD (mCons (mVar 2) mNil)))
    (sSeq (sSet 4 (mApp L.f__law_spoilt (mCons (mVar 2) (mCons (mVar 3) mNil))))
    (sSeq (sIf (mTOr (mTNot (mTru (mApp L.f__law_says (mCons (mApp FX (mCons (mVar 3) mNil)) (mCons (mC (.bl true)) mNil))))) (mTNot (mTru (mApp L.f__law_says (mCons (mApp FX (mCons (mVar 4) mNil)) (mCons (mApp FL (mCons (mVar 4) mNil)) mNil)))))) (sRet (mC (.bl false))) sNil)
    (sSeq (sSet 5 (mLst (mCons (mApp L.f_is_charter (mCons (mVar 3) mNil)) (mCons (mApp L.f_is_stamp (mCons (mVar 3) mNil)) (mCons (mApp L.f_is_shelf (mCons (mVar 3) mNil)) (mCons (mApp L.f_is_list (mCons (mVar 3) mNil)) mNil))))))
    (sSeq (sFor (iRng1M (mCons (mC (.int 4)) mNil)) (.nm 6) (sIf (mTNot (mTru (mApp L.f__law_says (mCons (mOp dIx (mVar 5) (mVar 6)) (mCons (mOp dEq (mVar 6) (mC (.int kk))) mNil))))) (sRet (mC (.bl false))) sNil))
    (sIf (mTOr (mTNot (mTru (mApp L.f__law_says (mCons (mApp FX (mCons (mApp dList (mCons (mVar 3) mNil)) mNil)) (mCons (mC (.bl false)) mNil))))) (mTNot (mTru (mApp L.f__law_says (mCons (mApp FX (mCons (mSl (mVar 3) (mPart (mC (.int 1))) mNoP) mNil)) (mCons (mC (.bl false)) mNil)))))) (sRet (mC (.bl false))) sNil)))))))
theorem doc_step {FD FX FL : MF} {p : D → Bool} {kk : Nat} {kd : List Nat} (K : Kind FD FX FL p kk kd) (hkk : kk < 4) {ns : List Int} {j : Nat} {v2 v3 v4 v5 v6 : Option D} {h : LH} :
    ∃ w2 w3 w4 w5 w6 g, docBody FD FX FL kk [some (.scr ns), some (.int (j : Nat)), v2, v3, v4, v5, v6] h = .next [some (.scr ns), some (.int (j : Nat)), w2, w3, w4, w5, w6] g := by
  obtain ⟨c, ec⟩ := cell_ok ns (k := (j : Int)) (by omega)
  obtain ⟨h1, es, st, _⟩ := strAt_stream (n := c) (h := h)
  obtain ⟨d, h2, ed, pd, F2⟩ := K.draw h1 _ st
  have smd := K.sm d pd
  obtain ⟨x, h3, ex, cx, F3⟩ := spoilt_ok 6 24 (by decide) d h2 (by decide) F2.st smd
  have ex' : L.f__law_spoilt [.ref h.length, d] h2 = .ok x h3 := ex
  have cd : ∀ g, Cl g 6 d := fun g => smd.cl
  obtain ⟨h4, K4, e4⟩ := K.fx h3 6 d (cd _) (by decide)
  obtain ⟨h5, K5, e5⟩ := K.fx h4 8 x (cx.kp K4) (by decide)
  obtain ⟨h6, K6, e6⟩ := K.fl h5 8 x ((cx.kp K4).kp K5) (by decide)
  rw [pd] at e4
  have k1 := charter_eq (cd h6) (by decide)
  have k2 := stamp_eq (cd h6) (by decide)
  obtain ⟨h7, K7, k3⟩ := shelf_eq (cd h6) (by decide)
  obtain ⟨h8, K8, k4⟩ := list_eq (cd h7) (by decide)
  obtain ⟨h9, e9⟩ : ∃ h9, h9 = h8 ++ [LO.lst [.bl (isCharter d), .bl (isStamp d), .bl (isShelf d), .bl (isList d)]] := ⟨_, rfl⟩
  have hr9 : h9[h8.length]? = some (.lst ((kinds4 d).map D.bl)) := by rw [e9]; simp [kinds4]
  rw [K.k4 d pd] at hr9
  obtain ⟨xs, rfl, px⟩ := K.row d pd
  have hxl : xs.length ≤ 100 := by
    exact smd.1
  unfold docBody
  have sy : ∀ (a b : Bool) (g : LH), L.f__law_says [.bl a, .bl b] g = .ok (.bl (decide (a = b))) g := fun a b g => says_eq
  have key := loopF_gen (g := itN 4) (t := .nm 6) (body := (sIf (mTNot (mTru (mApp L.f__law_says (mCons (mOp dIx (mVar 5) (mVar 6)) (mCons (mOp dEq (mVar 6) (mC (.int kk))) mNil))))) (sRet (mC (.bl false))) sNil)) (N := 4) (fun j => .int (j : Nat))
    (fun m e g => g = h9 ∧ ∃ v6, e = [some (.scr ns), some (.int (j : Nat)), some (.ref h.length), some (.tup xs), some x, some (.ref h8.length), v6])
    (fun r => ∃ v6, r = .next [some (.scr ns), some (.int (j : Nat)), some (.ref h.length), some (.tup xs), some x, some (.ref h8.length), v6] h9)
    (fun j e g hj hi => rfl) (by
      rintro m e g hm ⟨rfl, v6, rfl⟩
      refine ⟨_, rfl, ?_⟩
      have ix : dIx (.ref h8.length) (.int (m : Nat)) g = .ok (.bl (decide (m = kk))) g := dIx_ref hr9 (atI_nat (by
        rw [List.getElem?_map, List.getElem?_map, List.getElem?_range hm]; rfl))
      have eb : (sIf (mTNot (mTru (mApp L.f__law_says (mCons (mOp dIx (mVar 5) (mVar 6)) (mCons (mOp dEq (mVar 6) (mC (.int kk))) mNil))))) (sRet (mC (.bl false))) sNil) [some (.scr ns), some (.int (j : Nat)), some (.ref h.length), some (.tup xs), some x, some (.ref h8.length), some (.int (m : Nat))] g =
          .next [some (.scr ns), some (.int (j : Nat)), some (.ref h.length), some (.tup xs), some x, some (.ref h8.length), some (.int (m : Nat))] g := by
        have : decide ((m : Int) = kk) = decide (m = kk) := by simp [Int.ofNat_inj]
        simp -implicitDefEqProofs [ix, dEq_int, this, sy, truD]
      show (match (sIf (mTNot (mTru (mApp L.f__law_says (mCons (mOp dIx (mVar 5) (mVar 6)) (mCons (mOp dEq (mVar 6) (mC (.int kk))) mNil))))) (sRet (mC (.bl false))) sNil) [some (.scr ns), some (.int (j : Nat)), some (.ref h.length), some (.tup xs), some x, some (.ref h8.length), some (.int (m : Nat))] g with
        | .next e2 h2 => _
        | .cnt e2 h2 => _
        | .brk e2 h2 => _
        | .ret x h2 => _
        | .exc x e2 h2 => _
        | .bad => _)
      rw [eb]
      exact ⟨rfl, some (.int (m : Nat)), rfl⟩)
    (fun e g ⟨hg, v6, he⟩ => ⟨v6, by rw [hg, he]⟩) 4 0 [some (.scr ns), some (.int (j : Nat)), some (.ref h.length), some (.tup xs), some x, some (.ref h8.length), v6] h9 (by omega) ⟨rfl, v6, rfl⟩
  obtain ⟨w6, er⟩ := key
  have cl : Cl (h9 ++ [.lst xs]) 7 (.ref h9.length) := ⟨xs, by simp, by omega, fun y hy => ((smd.2 y hy).mono (r' := 6) (by decide)).cl⟩
  obtain ⟨h10, K10, e10⟩ := K.fx (h9 ++ [.lst xs]) 7 (.ref h9.length) cl (by decide)
  rw [K.rf] at e10
  have s1 : ∀ g, dSl (.tup xs) (some 1) none g = .ok (.tup xs.tail) g := fun g => by
    rw [dSl_tup, cut_from (by decide)]
    simp
  obtain ⟨h11, K11, e11⟩ := K.fx h10 6 (.tup xs.tail) ⟨by rw [List.length_tail]; omega, fun y hy => (smd.2 y (List.mem_of_mem_tail hy)).cl⟩ (by decide)
  rw [px] at e11
  have l1 : dList [.tup xs] h9 = .ok (.ref h9.length) (h9 ++ [.lst xs]) := rfl
  refine ⟨some (.ref h.length), some (.tup xs), some x, some (.ref h8.length), w6, h11, ?_⟩
  generalize L.f__law_spoilt = FS at ex'
  simp -implicitDefEqProofs [ev_seq, ec, es, ed, ex', e4, e5, e6, sy, truD, k1, k2, k3, k4, ← e9, ev_rng1, er, l1, e10, s1, e11]
theorem doc_law {FD FX FL : MF} {p : D → Bool} {kk : Nat} {kd : List Nat} (K : Kind FD FX FL p kk kd) (hkk : kk < 4) {ns : List Int} :
    RetT ((sSeq (sFor (iRng1M (mCons (mC (.int 3)) mNil)) (.nm 1) (docBody FD FX FL kk))
      (sRet (mAnd (mApp L.f__law_says (mCons (mApp FX (mCons (mC .non) mNil)) (mCons (mC (.bl false)) mNil))) (mApp L.f__law_says (mCons (mApp FX (mCons (mC (.str kd)) mNil)) (mCons (mC (.bl false)) mNil)))))) (some (.scr ns) :: List.replicate (7 - 1) none) []) := by
  obtain ⟨B, hB⟩ : ∃ B, B = docBody FD FX FL kk := ⟨_, rfl⟩
  have key := loopF_gen (g := itN 3) (t := .nm 1) (body := docBody FD FX FL kk) (N := 3) (fun j => .int (j : Nat))
    (fun j e h => ∃ (v1 v2 v3 v4 v5 v6 : Option D), e = [some (.scr ns), v1, v2, v3, v4, v5, v6])
    (fun r => ∃ e h, r = .next e h)
    (fun j e g hj hi => rfl) (by
      rintro j e h hj ⟨v1, v2, v3, v4, v5, v6, rfl⟩
      refine ⟨[some (.scr ns), some (.int (j : Nat)), v2, v3, v4, v5, v6], rfl, ?_⟩
      obtain ⟨w2, w3, w4, w5, w6, g, e⟩ := doc_step K hkk (ns := ns) (j := j) (v2 := v2) (v3 := v3) (v4 := v4) (v5 := v5) (v6 := v6) (h := h)
      rw [e]
      exact ⟨_, _, _, _, _, _, rfl⟩)
    (fun e h _ => ⟨e, h, rfl⟩) 3 0 [some (.scr ns), none, none, none, none, none, none] [] (by omega) ⟨none, none, none, none, none, none, rfl⟩
  obtain ⟨e, h, er⟩ := key
  refine wseq (e1 := e) (h1 := h) (by
    rw [ev_for]
    simp -implicitDefEqProofs [ev_rng1]
    exact er) ?_
  have sy : ∀ (a b : Bool) (g : LH), L.f__law_says [.bl a, .bl b] g = .ok (.bl (decide (a = b))) g := fun a b g => says_eq
  obtain ⟨h1, K1, e1⟩ := K.fx h 0 .non trivial (by decide)
  obtain ⟨h2, K2, e2⟩ := K.fx h1 0 (.str kd) K.ok (by decide)
  rw [K.non] at e1
  rw [K.tx] at e2
  refine ⟨h2, ?_⟩
  simp -implicitDefEqProofs [e1, e2, sy]
end HM
set_option Elab.async false
set_option linter.all false
set_option maxRecDepth 100000
set_option maxHeartbeats 4000000
namespace HM
open PySem L2
/-! ### drawn lists; once; keys, names, roles, charters, shelves -/
theorem SF.setK {r k : Nat} {h g : LH} {o : LO} (F : SF r h g) (hk : h.length ≤ k) (hne : k ≠ r) : SF r h (g.set k o) := by
  obtain ⟨a, b, e⟩ := F.st
  refine ⟨by simpa using F.le, fun i hi hr => ?_, a, b, ?_⟩
  · rw [List.getElem?_set_ne (by omega)]; exact F.keep i hi hr
  · rw [List.getElem?_set_ne hne]; exact e
theorem drawsR_ok {h : LH} {r i n : Nat} {e : EN} {y : M D} {P : D → Prop} (s : StrAt h r) (hn : n ≤ 1000000)
    (hy : ∀ g j, SF r h g → j < n → ∃ d g2, y (e.set i (some (.int (j : Nat)))) g = .ok d g2 ∧ P d ∧ SF r g g2) :
    ∃ ds h', loopC (itN n) (.nm i) mYes y e h.length n 0 (h ++ [.lst []]) = .ok (.ref h.length) h' ∧ h'[h.length]? = some (.lst ds) ∧ ds.length = n ∧ (∀ d ∈ ds, P d) ∧ SF r h h' := by
  have hne := st_ne s
  obtain ⟨acc, h2, e2, F2, ek, el, hz⟩ := loopC_gen (g := itN n) (t := .nm i) (c := mYes) (y := y) (e := e) (k := h.length) (N := n) (fun j => .int j)
    (fun j acc g => SF r h g ∧ g[h.length]? = some (.lst acc) ∧ acc.length = j ∧ ∀ d ∈ acc, P d)
    (fun j acc g hj hi => rfl) (fun j acc g hj hi => hi.2.1) (by
      rintro j acc g hj ⟨F, ek, el, hz⟩
      refine ⟨_, rfl, .inr ?_⟩
      obtain ⟨d, g2, eu, hd, F2⟩ := hy g j F hj
      have ek2 := F2.get hne ek
      refine ⟨g, d, g2, acc, rfl, eu, ek2, by omega, (F.trans F2).setK (Nat.le_refl _) hne, ?_, by simp [el], ?_⟩
      · rw [List.getElem?_set_self (lt_of_get ek2)]
      · intro d' hd'
        rcases List.mem_append.mp hd' with hd' | hd'
        · exact hz d' hd'
        · rw [List.mem_singleton.mp hd']; exact hd) n 0 [] (h ++ [.lst []]) (by omega) ⟨SF.push s, by simp, rfl, by simp⟩
  exact ⟨acc, h2, e2, ek, el, hz, F2⟩
/-- a comprehension over a list, item by item, with draws -/
theorem drawsO_ok {h : LH} {r i q : Nat} {xs : List D} {e : EN} {y : M D} {P : D → D → Prop} (s : StrAt h r) (hq : h[q]? = some (.lst xs)) (hqr : q ≠ r) (hn : xs.length ≤ 1000000)
    (hy : ∀ g x, SF r h g → x ∈ xs → ∃ d g2, y (e.set i (some x)) g = .ok d g2 ∧ P x d ∧ SF r g g2) :
    ∃ ds h', loopC (itO q) (.nm i) mYes y e h.length xs.length 0 (h ++ [.lst []]) = .ok (.ref h.length) h' ∧ h'[h.length]? = some (.lst ds) ∧ ds.length = xs.length ∧ (∀ (j : Nat) x, xs[j]? = some x → ∃ d, ds[j]? = some d ∧ P x d) ∧ SF r h h' := by
  have hne := st_ne s
  obtain ⟨acc, h2, e2, F2, ek, el, hz⟩ := loopC_gen (g := itO q) (t := .nm i) (c := mYes) (y := y) (e := e) (k := h.length) (N := xs.length) (fun j => xs.getD j .non)
    (fun j acc g => SF r h g ∧ g[h.length]? = some (.lst acc) ∧ acc.length = j ∧ ∀ (m : Nat) x, m < j → xs[m]? = some x → ∃ d, acc[m]? = some d ∧ P x d)
    (fun j acc g hj hi => by
      rw [itO_get (hi.1.get hqr hq)]
      by_cases c : j < xs.length
      · rw [if_pos c, List.getD_eq_getElem?_getD, List.getElem?_eq_getElem c]; rfl
      · rw [if_neg c, List.getElem?_eq_none (by omega)]) (fun j acc g hj hi => hi.2.1) (by
      rintro j acc g hj ⟨F, ek, el, hz⟩
      have e1 : xs[j]? = some (xs.getD j .non) := by rw [List.getD_eq_getElem?_getD, List.getElem?_eq_getElem hj]; rfl
      refine ⟨_, rfl, .inr ?_⟩
      obtain ⟨d, g2, eu, hd, F2⟩ := hy g _ F (List.mem_of_getElem? e1)
      have ek2 := F2.get hne ek
      refine ⟨g, d, g2, acc, rfl, eu, ek2, by omega, (F.trans F2).setK (Nat.le_refl _) hne, ?_, by simp [el], ?_⟩
      · rw [List.getElem?_set_self (lt_of_get ek2)]
      · intro m x hm hx
        by_cases c : m = j
        · subst c
          rw [e1] at hx
          cases hx
          exact ⟨d, by rw [List.getElem?_append_right (by omega), el]; simp, hd⟩
        · obtain ⟨d', h1, h2⟩ := hz m x (by omega) hx
          exact ⟨d', by rw [List.getElem?_append_left (by omega)]; exact h1, h2⟩) xs.length 0 [] (h ++ [.lst []]) (by omega) ⟨SF.push s, by simp, rfl, by simp⟩
  exact ⟨acc, h2, e2, ek, el, fun j x hx => hz j x (lt_of_get hx) hx, F2⟩
/-- xs == [] -/
theorem dEq_nil {h : LH} {r R Q : Nat} {xs : List D} (c : Cl h (r + 1) (.ref R)) (hr : r ≤ 30) (hR : h[R]? = some (.lst xs)) (hQ : h[Q]? = some (.lst [])) : dEq (.ref R) (.ref Q) h = .ok (.bl xs.isEmpty) h := by
  obtain ⟨xs', e', hl0, hx⟩ := c
  rw [hR] at e'
  cases e'
  obtain ⟨ps, e, hl, cl, dp⟩ := clPs (h := h) (r := r) (m := 200010 * (r + 1)) (xs := xs) (fun x hm n hn => by
    obtain ⟨p, a, b, _⟩ := clP (hx x hm) n hn
    exact ⟨p, a, b⟩) 9999999 (by omega)
  have t1 : toP 10000000 h (.ref R) = some (.list ps) := by
    unfold toP
    simp only [hR, e, Option.map_some]
  have t2 : toP 10000000 h (.ref Q) = some (.list []) := by
    unfold toP
    simp only [hQ]
    unfold toPs
    rfl
  have s1 : SeqAt.shaped (.list ps) = true := GP.shaped (r := r + 1) ⟨cl, by show PyData.depthAll ps + 1 ≤ r + 1; omega⟩ (by omega)
  have s2 : SeqAt.shaped (.list []) = true := by decide +kernel
  unfold dEq dEqB
  simp only [t1, t2, s1, s2, Bool.and_self, if_true]
  cases ps with
  | nil =>
    have : xs = [] := List.eq_nil_of_length_eq_zero (by simpa using hl.symm)
    subst this
    simp [PyData.eqv, PyData.eqvAll]
  | cons a l =>
    cases xs with
    | nil => simp at hl
    | cons => simp [PyData.eqv, PyData.eqvAll]
theorem cl_strs {h : LH} {R : Nat} {ss : List (List Nat)} (hR : h[R]? = some (.lst (ss.map D.str))) (hl : ss.length ≤ 2000) (ok : ∀ s ∈ ss, okS s) : Cl h 1 (.ref R) :=
  ⟨_, hR, by rw [List.length_map]; exact (by omega), fun x hx => by
    obtain ⟨s, hs, rfl⟩ := List.mem_map.mp hx
    exact ok s hs⟩
theorem strsD_ref {h : LH} {i : Nat} {ss : List (List Nat)} (hi : h[i]? = some (.lst (ss.map D.str))) : dSorted [.ref i] h = .ok (.ref h.length) (h ++ [.lst ((sortS ss).map D.str)]) := by
  have e : seqD (.ref i) h = some (ss.map D.str) := by
    show (match h[i]? with
      | some (.lst xs) => some xs
      | _ => none) = _
    rw [hi]
  unfold dSorted
  simp only [isLst_ref hi, if_true, e, strsD_map]
def onB : MS := (sIf (mTOr (mTst (mOp dEq (mVar 1) (mLst mNil))) (mTst (mOp dNe (mOp dIx (mVar 1) (mOp dSub (mApp dLen (mCons (mVar 1) mNil)) (mC (.int 1)))) (mVar 2)))) (sExpr (mMet isLst dAppend (mVar 1) (mCons (mVar 2) mNil))) sNil)
theorem leS_iff {a b : List Nat} : leS a b = true ↔ ¬ b < a := by
  unfold leS
  simp
theorem once_ok {h : LH} {i : Nat} {ss : List (List Nat)} (hi : h[i]? = some (.lst (ss.map D.str))) (ok : ∀ s ∈ ss, okS s) (hl : ss.length ≤ 1000) :
    ∃ R ts h', L.f__law_once [.ref i] h = .ok (.ref R) h' ∧ h'[R]? = some (.lst (ts.map D.str)) ∧ h.length ≤ R ∧ Kp h h' ∧ ascL ts = true ∧ (∀ x, x ∈ ts ↔ x ∈ ss) ∧ ts.length ≤ ss.length := by
  unfold L.f__law_once
  rw [mkF_eq (by rfl)]
  unfold L.b__law_once
  obtain ⟨zs, hz⟩ : ∃ zs, zs = sortS ss := ⟨_, rfl⟩
  have hp : zs.Perm ss := hz ▸ sortS_perm ss
  have hw : zs.Pairwise (fun a b => leS a b = true) := hz ▸ sortS_pw ss
  have hzl : zs.length = ss.length := hp.length_eq
  obtain ⟨h1, q1⟩ : ∃ h1, h1 = h ++ [LO.lst ([] : List D)] := ⟨_, rfl⟩
  have hi1 : h1[i]? = some (.lst (ss.map D.str)) := by rw [q1, List.getElem?_append_left (lt_of_get hi)]; exact hi
  have hl1 : h1.length = h.length + 1 := by rw [q1]; simp
  obtain ⟨h2, q2⟩ : ∃ h2, h2 = h1 ++ [LO.lst (zs.map D.str)] := ⟨_, rfl⟩
  have es := strsD_ref hi1
  rw [← hz, ← q2] at es
  have hs2 : h2[h1.length]? = some (.lst (zs.map D.str)) := by rw [q2]; simp
  have hn2 : h2[h.length]? = some (.lst []) := by rw [q2, List.getElem?_append_left (by omega), q1]; simp
  have K2 : Kp h h2 := by
    rw [q2, q1]
    exact (Kp.push _ _).trans (Kp.push _ _)
  have key := loopF_obj (t := .nm 2) (body := onB) (r := h1.length) (xs := zs.map D.str)
    (fun j e g => Kp h g ∧ g[h1.length]? = some (.lst (zs.map D.str)) ∧ (∃ v, e = [some (.ref i), some (.ref h.length), v]) ∧ ∃ ts : List (List Nat), g[h.length]? = some (.lst (ts.map D.str)) ∧ ascL ts = true ∧ (∀ x, x ∈ ts ↔ x ∈ zs.take j) ∧ ts.getLast? = (zs.take j).getLast? ∧ ts.length ≤ j)
    (fun r => ∃ e g ts, r = .next e g ∧ (∃ v, e = [some (.ref i), some (.ref h.length), v]) ∧ Kp h g ∧ g[h.length]? = some (.lst (ts.map D.str)) ∧ ascL ts = true ∧ (∀ x, x ∈ ts ↔ x ∈ zs) ∧ ts.length ≤ zs.length)
    (fun j e g hh => hh.2.1) (by
      rintro j d e g hd ⟨K, hg1, ⟨v, rfl⟩, ts, hg, ha, hm, hlast, htl⟩
      rw [List.getElem?_map] at hd
      cases ez : zs[j]? with
      | none => rw [ez] at hd; cases hd
      | some x =>
      rw [ez] at hd
      cases hd
      have hj := lt_of_get ez
      have et : zs.take (j + 1) = zs.take j ++ [x] := by rw [List.take_succ, ez]; rfl
      refine ⟨[some (.ref i), some (.ref h.length), some (.str x)], rfl, ?_⟩
      have okt : ∀ s ∈ ts, okS s := fun s hs => ok s (hp.mem_iff.mp (List.mem_of_mem_take ((hm s).mp hs)))
      obtain ⟨g1, qg⟩ : ∃ g1, g1 = g ++ [LO.lst ([] : List D)] := ⟨_, rfl⟩
      have hgl := lt_of_get hg
      have hgl1 := lt_of_get hg1
      have hg' : g1[h.length]? = some (.lst (ts.map D.str)) := by rw [qg, List.getElem?_append_left hgl]; exact hg
      have hg1' : g1[h1.length]? = some (.lst (zs.map D.str)) := by rw [qg, List.getElem?_append_left hgl1]; exact hg1
      have hgn : g1[g.length]? = some (.lst []) := by rw [qg]; simp
      have K1 : Kp h g1 := K.trans (qg ▸ Kp.push _ _)
      have eq1 := dEq_nil (cl_strs hg' (by omega) okt) (by decide) hg' hgn
      have elen : dLen [.ref h.length] g1 = .ok (.int ts.length) g1 := by rw [dLen_ref hg', List.length_map]
      have il := isLst_ref hg'
      have ea := dAppend_ref (y := .str x) hg' (by simp; omega)
      have ea' : dAppend (.ref h.length) [.str x] g1 = .ok .non (g1.set h.length (.lst ((ts ++ [x]).map D.str))) := by
        rw [ea]
        simp
      have fin1 : (ts = [] ∨ ∃ y, ts.getLast? = some y ∧ y ≠ x) → Kp h (g1.set h.length (.lst ((ts ++ [x]).map D.str))) ∧ (g1.set h.length (.lst ((ts ++ [x]).map D.str)))[h1.length]? = some (.lst (zs.map D.str)) ∧ (∃ v, ([some (.ref i), some (.ref h.length), some (.str x)] : EN) = [some (.ref i), some (.ref h.length), v]) ∧
          ∃ ts' : List (List Nat), (g1.set h.length (.lst ((ts ++ [x]).map D.str)))[h.length]? = some (.lst (ts'.map D.str)) ∧ ascL ts' = true ∧ (∀ y, y ∈ ts' ↔ y ∈ zs.take (j + 1)) ∧ ts'.getLast? = (zs.take (j + 1)).getLast? ∧ ts'.length ≤ j + 1 := by
        intro hc
        refine ⟨K1.set (Nat.le_refl _), by rw [List.getElem?_set_ne (by omega)]; exact hg1', ⟨_, rfl⟩, ts ++ [x], List.getElem?_set_self (lt_of_get hg'), ?_, ?_, ?_, ?_⟩
        · rw [ascL_iff]
          intro m a b h1 h2
          by_cases c : m + 1 < ts.length
          · rw [List.getElem?_append_left (by omega)] at h1 h2
            exact (ascL_iff ts).mp ha m a b h1 h2
          · have hm1 := lt_of_get h2
            simp at hm1
            have em : m + 1 = ts.length := by omega
            rw [List.getElem?_append_left (by omega)] at h1
            rw [List.getElem?_append_right (by omega), em, Nat.sub_self] at h2
            simp at h2
            subst h2
            have hla : ts.getLast? = some a := by
              rw [List.getLast?_eq_getElem?, show ts.length - 1 = m by omega]
              exact h1
            rcases hc with rfl | ⟨y, hy, hne⟩
            · simp at em
            · rw [hla] at hy
              cases hy
              have hmem : a ∈ zs.take j := (hm a).mp (List.mem_of_getElem? h1)
              obtain ⟨k, hk, hka⟩ := List.mem_iff_getElem.mp hmem
              have hkj : k < j := by rw [List.length_take] at hk; omega
              have hka' : zs[k]'(by omega) = a := by rw [← hka, List.getElem_take]
              have hxj : zs[j] = x := by rw [List.getElem?_eq_getElem hj] at ez; exact Option.some.inj ez
              have := (List.pairwise_iff_getElem.mp hw) k j (by omega) hj hkj
              rw [hka', hxj] at this
              rw [leS_iff] at this
              by_cases q : a < x
              · exact q
              · exact absurd (leS_anti (leS_iff.mpr this) (leS_iff.mpr q)) hne
        · intro y
          rw [et, List.mem_append, List.mem_append, hm]
        · rw [et]
          simp
        · simp
          omega
      unfold onB
      by_cases c1 : ts = []
      · have e0 : (ts.map D.str).isEmpty = true := by rw [c1]; rfl
        rw [e0] at eq1
        have key : (sIf (mTOr (mTst (mOp dEq (mVar 1) (mLst mNil))) (mTst (mOp dNe (mOp dIx (mVar 1) (mOp dSub (mApp dLen (mCons (mVar 1) mNil)) (mC (.int 1)))) (mVar 2)))) (sExpr (mMet isLst dAppend (mVar 1) (mCons (mVar 2) mNil))) sNil) [some (.ref i), some (.ref h.length), some (.str x)] g = .next [some (.ref i), some (.ref h.length), some (.str x)] (g1.set h.length (.lst ((ts ++ [x]).map D.str))) := by
          simp -implicitDefEqProofs only [ev_if, ev_tOr, ev_tst, ev_op, ev_var, ev_lst, ev_nil, bind_ok, List.getElem?_cons_succ, List.getElem?_cons_zero, List.length_nil, Nat.zero_le, if_true, ← qg, eq1, rs_ok, ev_expr, ev_met, il, ev_cons, ea']
        rw [key]
        exact fin1 (.inl c1)
      · have hne : ts ≠ [] := c1
        obtain ⟨y, hy⟩ : ∃ y, ts.getLast? = some y := ⟨_, List.getLast?_eq_some_getLast hne⟩
        have htl0 : 0 < ts.length := List.length_pos_iff.mpr hne
        have e0 : (ts.map D.str).isEmpty = false := by
          cases ts with
          | nil => exact absurd rfl hne
          | cons => rfl
        rw [e0] at eq1
        have ix : dIx (.ref h.length) (.int ((ts.length : Int) - 1)) g1 = .ok (.str y) g1 := dIx_ref hg' (atI_of (by omega) (by
          rw [show ((ts.length : Int) - 1).toNat = ts.length - 1 by omega, List.getElem?_map]
          rw [List.getLast?_eq_getElem?] at hy
          rw [hy]; rfl))
        by_cases c2 : y = x
        · have key : (sIf (mTOr (mTst (mOp dEq (mVar 1) (mLst mNil))) (mTst (mOp dNe (mOp dIx (mVar 1) (mOp dSub (mApp dLen (mCons (mVar 1) mNil)) (mC (.int 1)))) (mVar 2)))) (sExpr (mMet isLst dAppend (mVar 1) (mCons (mVar 2) mNil))) sNil) [some (.ref i), some (.ref h.length), some (.str x)] g = .next [some (.ref i), some (.ref h.length), some (.str x)] g1 := by
            simp -implicitDefEqProofs [← qg, eq1, elen, dSub_int, ix, dNe_str, c2]
          rw [key]
          refine ⟨K1, hg1', ⟨_, rfl⟩, ts, hg', ha, fun z => ?_, ?_, by omega⟩
          · rw [et, List.mem_append, hm]
            constructor
            · exact .inl
            · rintro (h | h)
              · exact h
              · rw [List.mem_singleton.mp h, ← c2]
                rw [hlast] at hy
                exact List.mem_of_getLast? hy
          · rw [et, hy, c2]
            simp
        · have key : (sIf (mTOr (mTst (mOp dEq (mVar 1) (mLst mNil))) (mTst (mOp dNe (mOp dIx (mVar 1) (mOp dSub (mApp dLen (mCons (mVar 1) mNil)) (mC (.int 1)))) (mVar 2)))) (sExpr (mMet isLst dAppend (mVar 1) (mCons (mVar 2) mNil))) sNil) [some (.ref i), some (.ref h.length), some (.str x)] g = .next [some (.ref i), some (.ref h.length), some (.str x)] (g1.set h.length (.lst ((ts ++ [x]).map D.str))) := by
            simp -implicitDefEqProofs [← qg, eq1, elen, dSub_int, ix, dNe_str, c2, il]
            simp at ea'
            simp -implicitDefEqProofs [ea']
          rw [key]
          exact fin1 (.inr ⟨y, hy, c2⟩))
    (fun e g ⟨K, hg1, he, ts, hg, ha, hm, hlast, htl⟩ => by
      rw [List.length_map] at hm htl
      rw [List.take_length] at hm
      exact ⟨e, g, ts, rfl, he, K, hg, ha, hm, htl⟩) (e := [some (.ref i), some (.ref h.length), none]) (h := h2) ⟨K2, hs2, ⟨_, rfl⟩, [], hn2, rfl, by simp, by simp, by simp⟩
  obtain ⟨e, g, ts, er, ⟨v, rfl⟩, K, hg, ha, hm, htl⟩ := key
  rw [List.length_map] at er
  refine ⟨h.length, ts, g, ?_, hg, Nat.le_refl _, K, ha, fun x => by rw [hm, hp.mem_iff], by omega⟩
  unfold onB at er
  have hit : (iAny (mApp dSorted (mCons (mVar 0) mNil))) [some (.ref i), some (.ref h.length), none] h1 = .ok (itO h1.length, zs.length) h2 := by
    simp -implicitDefEqProofs [es, hs2]
  rw [ev_seq]
  simp -implicitDefEqProofs only [ev_set, ev_lst, ev_nil, bind_ok, List.length_nil, Nat.zero_le, if_true, rs_ok, ← q1, List.map_cons, List.map_nil, List.replicate, List.cons_append, List.nil_append, List.set_cons_succ, List.set_cons_zero]
  rw [ev_seq, ev_for, hit]
  simp -implicitDefEqProofs only [rs_ok, er]
  simp -implicitDefEqProofs []
/-! keys, names, roles, charters, shelves -/
theorem dg_len : dgC.length = 10 := by decide +kernel
theorem nm_len : nmC.length = 26 := by decide +kernel
theorem dkey_ok {h : LH} {s : Nat} (st : StrAt h s) : ∃ z h', L.f__law_key [.ref s] h = .ok (.str z) h' ∧ isKey (.str z) = true ∧ SF s h h' := by
  have sk : S "k" = .str [107] := S_eq "k"
  have t0 : S "0" = .str [48] := S_eq "0"
  have t1 : S "1" = .str [49] := S_eq "1"
  have t2 : S "2" = .str [50] := S_eq "2"
  have t3 : S "00" = .str [48, 48] := S_eq "00"
  have t4 : S "10" = .str [49, 48] := S_eq "10"
  have t5 : S "7" = .str [55] := S_eq "7"
  obtain ⟨k, h1, e1, k0, k1, F1, _⟩ := take_ok (m := 4) st (by decide) (by decide)
  unfold L.f__law_key
  rw [mkF_eq (by rfl)]
  unfold L.b__law_key
  rw [ev_seq]
  by_cases q : 0 < k
  · obtain ⟨v, x, h3, e3, e4, hx, F3⟩ := pickL_ok (xs := [.str [48], .str [49], .str [50], .str [48, 48], .str [49, 48], .str [55]]) (m := 6) F1.st rfl (by simp) (by simp)
    obtain ⟨w, rfl, hw, hk⟩ : ∃ w : List Nat, x = .str w ∧ w.length ≤ 100 ∧ isKey (.str (107 :: w)) = true := by
      simp at hx
      rcases hx with rfl | rfl | rfl | rfl | rfl | rfl
      all_goals exact ⟨_, rfl, by decide, by decide +kernel⟩
    have a1 : dAdd (.str [107]) (.str w) h3 = .ok (.str (107 :: w)) h3 := by
      rw [dAdd_str (by simp; omega)]
      rfl
    refine ⟨107 :: w, h3, ?_, hk, F1.trans ((SF.push F1.st).trans F3)⟩
    simp -implicitDefEqProofs [e1, dGt_int, q, sk, t0, t1, t2, t3, t4, t5, e3, e4, a1]
  · obtain ⟨n, h2, e2, n0, n1, F2, _⟩ := take_ok (m := 11) F1.st (by decide) (by decide)
    obtain ⟨z, h3, e3, e3', zl, zc, F3⟩ := joinR_ok (n := (1 + n).toNat) (i := 1) (P := fun c => c ∈ dgC) (e := [some (.ref s), none])
      (y := mOp dIx (mC (.str dgC)) (mApp L.f__law_take (mCons (mVar 0) (mCons (mC (.int 10)) mNil)))) F2.st (by omega) (fun g j F hj => by
        obtain ⟨ch, w, g2, ew, ei, hmem, G⟩ := pick_ok (cs := dgC) (m := 10) F.st (by decide) (by rw [dg_len]; decide) (by rw [dg_len]; decide)
        exact ⟨ch, g2, by simp -implicitDefEqProofs [ew, ei], hmem, G⟩)
    have a1 : dAdd (.str [107]) (.str z) h3 = .ok (.str (107 :: z)) h3 := by
      rw [dAdd_str (by simp; omega)]
      rfl
    have hk : isKey (.str (107 :: z)) = true := by
      unfold isKey
      simp only [Bool.and_eq_true, decide_eq_true_eq]
      refine ⟨⟨⟨by simp; omega, by simp; omega⟩, by simp⟩, ?_⟩
      simp only [List.drop_succ_cons, List.drop_zero, List.all_eq_true]
      intro c hc
      exact decide_eq_true (zc c hc)
    refine ⟨107 :: z, h3, ?_, hk, (F1.trans F2).trans F3⟩
    rw [S_nil] at e3'
    have q' : ¬ 0 < k := q
    simp -implicitDefEqProofs [e1, dGt_int, q', e2, dAdd_int, ev_rng1, show -4611686018427387904 ≤ 1 + n ∧ 1 + n < 4611686018427387904 from ⟨by omega, by omega⟩, wipeM, sk, S_nil, S_ofD, isStr, e3, e3', a1]
theorem dname_ok {h : LH} {s : Nat} (st : StrAt h s) : ∃ z h', L.f__law_name [.ref s] h = .ok (.str z) h' ∧ isLN (.str z) = true ∧ SF s h h' := by
  obtain ⟨v, x, h3, e3, e4, hx, F3⟩ := pickL_ok (xs := [.int 1, .int 3, .int 12]) (m := 3) st rfl (by simp) (by simp)
  obtain ⟨m, rfl, m0, m1⟩ : ∃ m : Int, x = .int m ∧ 1 ≤ m ∧ m ≤ 12 := by
    simp at hx
    rcases hx with rfl | rfl | rfl
    all_goals exact ⟨_, rfl, by decide, by decide⟩
  have F3' := (SF.push (o := .lst [.int 1, .int 3, .int 12]) st).trans F3
  obtain ⟨n, h2, e2, n0, n1, F2, _⟩ := take_ok (m := m) F3'.st (by omega) (by omega)
  obtain ⟨z, h5, e5, e5', zl, zc, F5⟩ := joinR_ok (n := (1 + n).toNat) (i := 2) (P := fun c => c ∈ nmC) (e := [some (.ref s), some (.int (1 + n)), none])
    (y := mOp dIx (mC (.str nmC)) (mApp L.f__law_take (mCons (mVar 0) (mCons (mC (.int 26)) mNil)))) F2.st (by omega) (fun g j F hj => by
      obtain ⟨ch, w, g2, ew, ei, hmem, G⟩ := pick_ok (cs := nmC) (m := 26) F.st (by decide) (by rw [nm_len]; decide) (by rw [nm_len]; decide)
      exact ⟨ch, g2, by simp -implicitDefEqProofs [ew, ei], hmem, G⟩)
  have hk : isLN (.str z) = true := by
    unfold isLN
    simp only [Bool.and_eq_true, decide_eq_true_eq]
    refine ⟨⟨by omega, by omega⟩, List.all_eq_true.mpr fun c hc => decide_eq_true (zc c hc)⟩
  refine ⟨z, h5, ?_, hk, (F3'.trans F2).trans F5⟩
  unfold L.f__law_name
  rw [mkF_eq (by rfl)]
  unfold L.b__law_name
  rw [ev_seq]
  rw [S_nil] at e5'
  simp -implicitDefEqProofs [e3, e4, e2, dAdd_int, ev_rng1, show -4611686018427387904 ≤ 1 + n ∧ 1 + n < 4611686018427387904 from ⟨by omega, by omega⟩, wipeM, S_nil, S_ofN, isStr, e5, e5']
/-- the texts of a list of values -/
theorem strs_list {ds : List D} (h : ∀ d ∈ ds, d = .str (cd d)) : ds = (ds.map cd).map D.str := strs_of h
theorem drole_ok {h : LH} {s : Nat} (st : StrAt h s) : ∃ d h', L.f__law_role [.ref s] h = .ok d h' ∧ isRole d = true ∧ SF s h h' := by
  obtain ⟨v, x, h1, e1, e1', hx, F1⟩ := pickL_ok (xs := [.int 2, .int 4, .int 16]) (m := 3) st rfl (by simp) (by simp)
  obtain ⟨m, rfl, m0, m1⟩ : ∃ m : Int, x = .int m ∧ 1 ≤ m ∧ m ≤ 16 := by
    simp at hx
    rcases hx with rfl | rfl | rfl
    all_goals exact ⟨_, rfl, by decide, by decide⟩
  have G1 := (SF.push (o := .lst [.int 2, .int 4, .int 16]) st).trans F1
  obtain ⟨n, h2, e2, n0, n1, F2, _⟩ := take_ok (m := m) G1.st (by omega) (by omega)
  obtain ⟨ds, h3, e3, h3l, dl, dk, F3⟩ := drawsR_ok (n := (1 + n).toNat) (i := 3) (P := fun d => isKey d = true) (e := [some (.ref s), some (.int m), none, none])
    (y := mApp L.f__law_key (mCons (mVar 0) mNil)) F2.st (by omega) (fun g j F hj => by
      obtain ⟨z, g2, ez, hz, G⟩ := dkey_ok F.st
      exact ⟨.str z, g2, by simp -implicitDefEqProofs [ez], hz, G⟩)
  have hstr := strs_list (ds := ds) fun d hd => isKey_str (dk d hd)
  rw [hstr] at h3l
  obtain ⟨R, ts, h4, e4, h4l, hR, K4, ta, tm, tl⟩ := once_ok h3l (fun x hx => by
    obtain ⟨d, hd, rfl⟩ := List.mem_map.mp hx
    have := (key_sm (dk d hd))
    rw [isKey_str (dk d hd)] at this
    exact smS.ok this) (by rw [List.length_map]; omega)
  rw [List.length_map] at tl
  have G4 := ((G1.trans F2).trans F3).trans (sf_kp F3.st K4)
  have t0 : 0 < ts.length := by
    have : ds.length ≠ 0 := by omega
    cases ds with
    | nil => exact absurd rfl this
    | cons a l =>
      have := (tm (cd a)).mpr (by simp)
      exact List.length_pos_of_mem this
  obtain ⟨w, h5, e5, w0, w1, F5, _⟩ := take_ok (m := ts.length) G4.st (by omega) (by omega)
  have hRs : R ≠ s := by
    have := lt_of_get (F3.st.choose_spec.choose_spec)
    omega
  have h5l := F5.get hRs h4l
  have elen : dLen [.ref R] h4 = .ok (.int ts.length) h4 := by rw [dLen_ref h4l, List.length_map]
  have etup : dTuple [.ref R] h5 = .ok (.tup (ts.map D.str)) h5 := by
    have e : seqD (.ref R) h5 = some (ts.map D.str) := by
      show (match h5[R]? with
        | some (.lst xs) => some xs
        | _ => none) = _
      rw [h5l]
    unfold dTuple
    simp only [e]
  have hk : isRole (.tup [.int (1 + w), .tup (ts.map D.str)]) = true := by
    have mc : (ts.map D.str).map cd = ts := by
      rw [List.map_map]
      conv => rhs; rw [← List.map_id ts]
      exact List.map_congr_left fun x _ => rfl
    show (decide ((ts.map D.str).length ≤ 16) && ((ts.map D.str).all isKey && (ascL ((ts.map D.str).map cd) && isInt 1 (ts.map D.str).length (.int (1 + w))))) = true
    rw [mc, ta, List.length_map]
    simp only [Bool.and_eq_true, decide_eq_true_eq, Bool.true_and]
    refine ⟨by omega, ?_, isInt_of (by omega) (by omega)⟩
    rw [List.all_eq_true]
    intro y hy
    obtain ⟨x, hx, rfl⟩ := List.mem_map.mp hy
    obtain ⟨d, hd, rfl⟩ := List.mem_map.mp ((tm x).mp hx)
    rw [← isKey_str (dk d hd)]
    exact dk d hd
  refine ⟨_, h5, ?_, hk, G4.trans F5⟩
  unfold L.f__law_role
  rw [mkF_eq (by rfl)]
  unfold L.b__law_role
  simp -implicitDefEqProofs [ev_seq, e1, e1', e2, dAdd_int, ev_rng1, show -4611686018427387904 ≤ 1 + n ∧ 1 + n < 4611686018427387904 from ⟨by omega, by omega⟩, wipeM, e3, e4, elen, e5, etup]
theorem dTuple_ref {h : LH} {R : Nat} {xs : List D} (hR : h[R]? = some (.lst xs)) : dTuple [.ref R] h = .ok (.tup xs) h := by
  have e : seqD (.ref R) h = some xs := by
    show (match h[R]? with
      | some (.lst xs) => some xs
      | _ => none) = _
    rw [hR]
  unfold dTuple
  simp only [e]
theorem dcharter_ok {h : LH} {s : Nat} (st : StrAt h s) : ∃ d h', L.f__law_charter [.ref s] h = .ok d h' ∧ isCharter d = true ∧ SF s h h' := by
  obtain ⟨ds, h3, e3, h3l, dl, dk, F3⟩ := drawsR_ok (n := 4) (i := 2) (P := fun d => isRole d = true) (e := [some (.ref s), none, none])
    (y := mApp L.f__law_role (mCons (mVar 0) mNil)) st (by omega) (fun g j F hj => by
      obtain ⟨z, g2, ez, hz, G⟩ := drole_ok F.st
      exact ⟨z, g2, by simp -implicitDefEqProofs [ez], hz, G⟩)
  have et := dTuple_ref h3l
  obtain ⟨a, h1, e1, a0, a1, F1⟩ := amount_ok F3.st
  obtain ⟨b, h2, e2, b0, b1, F2⟩ := amount_ok F1.st
  refine ⟨.tup [.str kCr, .int (max 1 a), .int b, .tup ds], h2, ?_, ?_, (F3.trans F1).trans F2⟩
  · unfold L.f__law_charter
    rw [mkF_eq (by rfl)]
    unfold L.b__law_charter
    simp -implicitDefEqProofs [ev_seq, ev_rng1, wipeM, e3, et, S_ch, e1, e2, max1 a0]
  · show (isS kCr (.str kCr) && (isVer _ && (isAm _ && (decide (ds.length = 4) && ds.all isRole)))) = true
    rw [isS_self, show isVer (.int (max 1 a)) = true from isInt_of (by omega) (by omega), show isAm (.int b) = true from isInt_of (by omega) (by omega), dl]
    simp only [Bool.true_and, decide_true, List.all_eq_true]
    exact dk
end HM
set_option Elab.async false
set_option linter.all false
set_option maxRecDepth 100000
set_option maxHeartbeats 4000000
namespace HM
open PySem L2
/-! ### shelves, paths, grants, lists drawn -/
theorem isS_false {k s : List Nat} (h : s ≠ k) : isS k (.str s) = false := decide_eq_false h
theorem st_lt {h : LH} {s : Nat} (st : StrAt h s) : s < h.length := by
  obtain ⟨a, b, e⟩ := st
  exact lt_of_get e
theorem dInt_bl {b : Bool} {h : LH} : dInt [.bl b] h = .ok (.int (if b then 1 else 0)) h := rfl
theorem dAdd_refs {h : LH} {i j : Nat} {a b : List D} (hi : h[i]? = some (.lst a)) (hj : h[j]? = some (.lst b)) (hl : a.length + b.length ≤ 16777216) : dAdd (.ref i) (.ref j) h = .ok (.ref h.length) (h ++ [.lst (a ++ b)]) := by
  show (match h[i]?, h[j]? with
    | some (.lst a), some (.lst b) => if a.length + b.length ≤ 16777216 then Res.ok (D.ref h.length) (h ++ [LO.lst (a ++ b)]) else .bad
    | _, _ => .bad) = _
  rw [hi, hj]
  simp only [if_pos hl]
theorem sum_shape {d : D} (h : isSum d = true) : ∃ a b c, d = .tup [a, b, c] := by
  unfold isSum at h
  split at h
  · exact ⟨_, _, _, rfl⟩
  · cases h
theorem dshelf_ok {h : LH} {s : Nat} (st : StrAt h s) : ∃ d h', L.f__law_shelf [.ref s] h = .ok d h' ∧ isShelf d = true ∧ SF s h h' := by
  -- how many names
  have G0 := SF.push (o := .lst [.int 4, .int 32]) st
  obtain ⟨k, h1, e1, k0, k1, F1, l1⟩ := take_ok (m := 4) G0.st (by decide) (by decide)
  have hne := st_ne st
  have hp := F1.get hne (show (h ++ [LO.lst [D.int 4, .int 32]])[h.length]? = some (.lst [.int 4, .int 32]) by simp)
  obtain ⟨m, em, m0, m1⟩ : ∃ m : Int, (dIx (.ref h.length) (.int (if decide (k = 0) = true then 1 else 0)) h1 = .ok (.int m) h1) ∧ 1 ≤ m ∧ m ≤ 32 := by
    by_cases q : k = 0
    · exact ⟨32, by simp only [q, decide_true, if_true]; exact dIx_ref hp rfl, by decide, by decide⟩
    · exact ⟨4, by simp only [q, decide_false, Bool.false_eq_true, if_false]; exact dIx_ref hp rfl, by decide, by decide⟩
  have G1 := G0.trans F1
  obtain ⟨n, h2, e2, n0, n1, F2, _⟩ := take_ok (m := m) G1.st (by omega) (by omega)
  obtain ⟨ds, h3, e3, h3l, dl, dk, F3⟩ := drawsR_ok (n := n.toNat) (i := 3) (P := fun d => isLN d = true) (e := [some (.ref s), none, none, none, none])
    (y := mApp L.f__law_name (mCons (mVar 0) mNil)) F2.st (by omega) (fun g j F hj => by
      obtain ⟨z, g2, ez, hz, G⟩ := dname_ok F.st
      exact ⟨.str z, g2, by simp -implicitDefEqProofs [ez], hz, G⟩)
  have hstr := strs_list (ds := ds) fun d hd => isLN_str (dk d hd)
  -- the names with list
  obtain ⟨h4, q4⟩ : ∃ h4, h4 = h3 ++ [LO.lst [.str kLi]] := ⟨_, rfl⟩
  have h4a : h4[h2.length]? = some (.lst ds) := by rw [q4, List.getElem?_append_left (lt_of_get h3l)]; exact h3l
  have h4b : h4[h3.length]? = some (.lst [.str kLi]) := by rw [q4]; simp
  have ea := dAdd_refs h4a h4b (by simp; omega)
  obtain ⟨h5, q5⟩ : ∃ h5, h5 = h4 ++ [LO.lst (ds ++ [.str kLi])] := ⟨_, rfl⟩
  rw [← q5] at ea
  have h5l : h5[h4.length]? = some (.lst ((ds.map cd ++ [kLi]).map D.str)) := by
    rw [q5, List.map_append, ← hstr]
    simp
  obtain ⟨R, ts, h6, e6, h6l, hR, K6, ta, tm, tl⟩ := once_ok h5l (fun x hx => by
    rcases List.mem_append.mp hx with hx | hx
    · obtain ⟨d, hd, rfl⟩ := List.mem_map.mp hx
      have := (name_sm (dk d hd))
      rw [isLN_str (dk d hd)] at this
      exact smS.ok this
    · rw [List.mem_singleton.mp hx]; exact ok_kLi) (by simp; omega)
  have tl' : ts.length ≤ 32 := by simp at tl; omega
  have K56 : Kp h3 h6 := by
    refine Kp.trans ?_ K6
    rw [q5, q4]
    exact (Kp.push _ _).trans (Kp.push _ _)
  have G6 := ((G1.trans F2).trans F3).trans (sf_kp F3.st K56)
  have hRs : R ≠ s := by
    have := st_lt F3.st
    have h45 : h5.length = h3.length + 2 := by rw [q5, q4]; simp
    omega
  have tn : ∀ x ∈ ts, isLN (.str x) = true := by
    intro x hx
    have := (tm x).mp hx
    rcases List.mem_append.mp this with h | h
    · obtain ⟨d, hd, rfl⟩ := List.mem_map.mp h
      rw [← isLN_str (dk d hd)]
      exact dk d hd
    · rw [List.mem_singleton.mp h]
      decide +kernel
  obtain ⟨rs, h7, e7, h7l, rl, rk, F7⟩ := drawsO_ok (r := s) (i := 4) (q := R) (xs := ts.map D.str) (P := fun x d => isEnt d = true ∧ fst' d = x) (e := [some (.ref s), some (.ref h2.length), none, none, none])
    (y := mOp dAdd (mTup (mCons (mVar 4) mNil)) (mApp L.f__law_sum (mCons (mVar 0) mNil))) G6.st h6l hRs (by rw [List.length_map]; omega) (fun g x F hx => by
      obtain ⟨d, g2, ed, hd, G⟩ := dsum_ok F.st
      obtain ⟨a, b, c, rfl⟩ := sum_shape hd
      obtain ⟨z, hz, rfl⟩ := List.mem_map.mp hx
      have a1 : dAdd (.tup [.str z]) (.tup [a, b, c]) g2 = .ok (.tup [.str z, a, b, c]) g2 := rfl
      refine ⟨.tup [.str z, a, b, c], g2, by simp -implicitDefEqProofs [ed, a1], ⟨?_, rfl⟩, G⟩
      show (isLN (.str z) && isSum (.tup [a, b, c])) = true
      rw [tn z hz, hd]
      rfl)
  have et := dTuple_ref h7l
  obtain ⟨a, h8, e8, a0, a1, F8⟩ := amount_ok F7.st
  obtain ⟨b, h9, e9, b0, b1, F9⟩ := amount_ok F8.st
  have rf : rs.map fstC = ts := by
    apply List.ext_getElem
    · rw [List.length_map, rl, List.length_map]
    · intro j p1 p2
      obtain ⟨d, h1, h2⟩ := rk j (.str ts[j]) (by rw [List.getElem?_map, List.getElem?_eq_getElem p2]; rfl)
      rw [List.getElem_map]
      have : rs[j]'(by simpa using p1) = d := by
        have := List.getElem?_eq_getElem (l := rs) (i := j) (by simpa using p1)
        rw [this] at h1
        exact Option.some.inj h1
      rw [this]
      unfold fstC
      rw [h2.2]
      rfl
  refine ⟨.tup [.str kSh, .int (max 1 a), .int b, .tup rs], h9, ?_, ?_, ((G6.trans F7).trans F8).trans F9⟩
  · unfold L.f__law_shelf
    rw [mkF_eq (by rfl)]
    unfold L.b__law_shelf
    rw [List.length_map] at e7
    have hit : (iAny (mApp L.f__law_once (mCons (mOp dAdd (mVar 1) (mLst (mCons (mC (S "list")) mNil))) mNil))) [some (.ref s), some (.ref h2.length), none, none, none] h3 = .ok (itO R, ts.length) h6 := by
      simp -implicitDefEqProofs [S_li, ← q4, ea, e6, h6l]
    have c1 : (mLc (iRng1M (mCons (mApp L.f__law_take (mCons (mVar 0) (mCons (mOp dIx (mLst (mCons (mC (.int 4)) (mCons (mC (.int 32)) mNil))) (mApp dInt (mCons (mOp dEq (mApp L.f__law_take (mCons (mVar 0) (mCons (mC (.int 4)) mNil))) (mC (.int 0))) mNil))) mNil))) mNil)) (.nm 3) mYes (mApp L.f__law_name (mCons (mVar 0) mNil)) [3]) [some (.ref s), none, none, none, none] h = .ok (.ref h2.length) h3 := by
      simp only [decide_eq_true_eq] at em
      simp -implicitDefEqProofs [e1, dEq_int, dInt_bl, em, e2, ev_rng1, show -4611686018427387904 ≤ n ∧ n < 4611686018427387904 from ⟨by omega, by omega⟩, wipeM, e3]
    have c2 : (mLc (iAny (mApp L.f__law_once (mCons (mOp dAdd (mVar 1) (mLst (mCons (mC (S "list")) mNil))) mNil))) (.nm 4) mYes (mOp dAdd (mTup (mCons (mVar 4) mNil)) (mApp L.f__law_sum (mCons (mVar 0) mNil))) [4]) [some (.ref s), some (.ref h2.length), none, none, none] h3 = .ok (.ref h6.length) h7 := by
      rw [ev_lc, hit]
      exact e7
    rw [ev_seq, ev_set]
    simp -implicitDefEqProofs only [List.map_cons, List.map_nil, List.replicate, List.cons_append, List.nil_append]
    rw [c1]
    simp -implicitDefEqProofs only [rs_ok, List.set_cons_succ, List.set_cons_zero]
    rw [ev_seq, ev_set, ev_app, ev_cons, c2]
    simp -implicitDefEqProofs [et, S_sh, e8, e9, max1 a0]
  · show (isS kSh (.str kSh) && (isVer _ && (isAm _ && (decide (rs.length ≤ 32) && (rs.all isEnt && (ascL (rs.map fstC) && (rs.map fstC).any fun t => decide (t = kLi))))))) = true
    rw [isS_self, show isVer (.int (max 1 a)) = true from isInt_of (by omega) (by omega), show isAm (.int b) = true from isInt_of (by omega) (by omega), rf, ta]
    have rl' : rs.length ≤ 32 := by rw [rl, List.length_map]; exact tl'
    have ra : rs.all isEnt = true := by
      rw [List.all_eq_true]
      intro d hd
      obtain ⟨j, hj, rfl⟩ := List.mem_iff_getElem.mp hd
      have hjt : j < ts.length := by rw [rl, List.length_map] at hj; exact hj
      obtain ⟨d, h1, h2⟩ := rk j (.str ts[j]) (by rw [List.getElem?_map, List.getElem?_eq_getElem hjt]; rfl)
      rw [List.getElem?_eq_getElem hj] at h1
      rw [Option.some.inj h1]
      exact h2.1
    have ma : (ts.any fun t => decide (t = kLi)) = true := by
      rw [List.any_eq_true]
      exact ⟨kLi, (tm kLi).mpr (by simp), decide_eq_true rfl⟩
    rw [ra, ma, decide_eq_true rl']
    rfl
end HM
set_option Elab.async false
set_option linter.all false
set_option maxRecDepth 100000
set_option maxHeartbeats 4000000
namespace HM
open PySem L2
/-! ### classes and dicts evaluated -/
section
variable {e : EN} {h : LH}
def kMeth (c m : String) (f : MF) (a : M (List D)) (e : EN) (x : D) (h : LH) : Res D := match insD c x h with
  | some (_, fs) => match getF m fs with
    | none => (a e h).bind fun xs h2 => f (x :: xs) h2
    | some _ => .bad
  | none => .bad
@[simp] theorem ev_meth {c m : String} {f : MF} {o : M D} {a : M (List D)} : mMeth c m f o a e h = (o e h).bind fun x h1 => kMeth c m f a e x h1 := rfl
theorem kMeth_ok {c m : String} {f : MF} {a : M (List D)} {i : Nat} {fs : List (String × D)} (hi : h[i]? = some (.ins c fs)) (hm : getF m fs = none) : kMeth c m f a e (.ref i) h = (a e h).bind fun xs h2 => f (.ref i :: xs) h2 := by
  unfold kMeth insD
  simp only [hi, if_true, hm]
theorem insD_at {c : String} {i : Nat} {fs : List (String × D)} (hi : h[i]? = some (.ins c fs)) : insD c (.ref i) h = some (i, fs) := by
  unfold insD
  simp only [hi, if_true]
theorem fld_at {c f : String} {i : Nat} {fs : List (String × D)} {d : D} (hi : h[i]? = some (.ins c fs)) (hd : getF f fs = some d) : fldD c f (.ref i) h = .ok d h := by
  unfold fldD
  rw [insD_at hi]
  simp only [hd]
def kMake (f : MF) (h1 : LH) (c : String) (xs : List D) : Res D := (f (.ref h1.length :: xs) (h1 ++ [.ins c []])).bind fun d h2 => match d with
  | .non => .ok (.ref h1.length) h2
  | _ => .bad
@[simp] theorem ev_make {c : String} {f : MF} {a : M (List D)} : mMake c f a e h = (a e h).bind fun xs h1 => kMake f h1 c xs := rfl
theorem kMake_ok {f : MF} {c : String} {xs : List D} {h2 : LH} (hf : f (.ref h.length :: xs) (h ++ [.ins c []]) = .ok .non h2) : kMake f h c xs = .ok (.ref h.length) h2 := by
  unfold kMake
  rw [hf]
  rfl
def kFldSet (c f : String) (e : EN) (y x : D) (h2 : LH) : RSt := match insD c x h2 with
  | some (i, fs) => if fs.length < 1000 then .next e (h2.set i (.ins c (putFD f y fs))) else .bad
  | none => .bad
@[simp] theorem ev_fldSet {c f : String} {o v : M D} : sFldSet c f o v e h = rsBind (v e h) e fun y h1 => rsBind (o e h1) e fun x h2 => kFldSet c f e y x h2 := rfl
theorem kFldSet_ok {c f : String} {i : Nat} {fs : List (String × D)} {y : D} (hi : h[i]? = some (.ins c fs)) (hl : fs.length < 1000) : kFldSet c f e y (.ref i) h = .next e (h.set i (.ins c (putFD f y fs))) := by
  unfold kFldSet
  rw [insD_at hi]
  simp only [if_pos hl]
@[simp] theorem ev_raise {x : String} : sRaise x e h = .exc ⟨x, []⟩ e h := rfl
@[simp] theorem ev_raiseI {x : String} {m : M D} : sRaiseI x m e h = rsBind (m e h) e fun d h1 => .exc ⟨x, [("reason", d)]⟩ e h1 := rfl
theorem ev_tryM {b : MS} {cl : List Cla} : sTryM b cl e h = match b e h with
  | .exc x e1 h1 => sTryMGo x e1 h1 cl
  | z => z := rfl
/-! dicts -/
theorem dct_k {i : Nat} {kvs : List (KD × D)} (hi : h[i]? = some (.dK kvs)) : dctD (.ref i) h = some (i, .k kvs) := by
  unfold dctD
  simp only [hi]
theorem dct_t {i : Nat} {kvs : List (List KD × D)} (hi : h[i]? = some (.dT kvs)) : dctD (.ref i) h = some (i, .t kvs) := by
  unfold dctD
  simp only [hi]
theorem ixA_at {i : Nat} {kvs : List (KD × D)} {y d : D} {k : KD} (hi : h[i]? = some (.dK kvs)) (hk : keyD y = some k) (hd : getKD k kvs = some d) : dIxA (.ref i) y h = .ok d h := by
  unfold dIxA dGetK
  simp only [dct_k hi, hk, hd]
theorem inA_at {i : Nat} {kvs : List (KD × D)} {y : D} {k : KD} (hi : h[i]? = some (.dK kvs)) (hk : keyD y = some k) : dInA y (.ref i) h = .ok (.bl (getKD k kvs).isSome) h := by
  unfold dInA inKD
  simp only [dct_k hi, hk]
theorem notInA_at {i : Nat} {kvs : List (KD × D)} {y : D} {k : KD} (hi : h[i]? = some (.dK kvs)) (hk : keyD y = some k) : dNotInA y (.ref i) h = .ok (.bl (!(getKD k kvs).isSome)) h := by
  unfold dNotInA inKD
  simp only [dct_k hi, hk]
def kPut (e : EN) (v x y : D) (h3 : LH) : RSt := match dctD x h3, keyD y with
  | some (i, .k kvs), some k => if kvs.length < 16777216 then .next e (h3.set i (.dK (putKD k v kvs))) else .bad
  | _, _ => .bad
@[simp] theorem ev_putK {ma mb mv : M D} : sPutK ma mb mv e h = rsBind (mv e h) e fun v h1 => rsBind (ma e h1) e fun x h2 => rsBind (mb e h2) e fun y h3 => kPut e v x y h3 := rfl
theorem kPut_ok {i : Nat} {kvs : List (KD × D)} {v y : D} {k : KD} (hi : h[i]? = some (.dK kvs)) (hk : keyD y = some k) (hl : kvs.length < 16777216) : kPut e v (.ref i) y h = .next e (h.set i (.dK (putKD k v kvs))) := by
  unfold kPut
  simp only [dct_k hi, hk, if_pos hl]
def kDel (e : EN) (x y : D) (h3 : LH) : RSt := match dctD x h3, keyD y with
  | some (i, .k kvs), some k => if (getKD k kvs).isSome = true then .next e (h3.set i (.dK (dropKD k kvs))) else .bad
  | _, _ => .bad
@[simp] theorem ev_delK {ma mb : M D} : sDelK ma mb e h = rsBind (ma e h) e fun x h2 => rsBind (mb e h2) e fun y h3 => kDel e x y h3 := rfl
theorem kDel_ok {i : Nat} {kvs : List (KD × D)} {y : D} {k : KD} (hi : h[i]? = some (.dK kvs)) (hk : keyD y = some k) (hl : (getKD k kvs).isSome = true) : kDel e (.ref i) y h = .next e (h.set i (.dK (dropKD k kvs))) := by
  unfold kDel
  simp only [dct_k hi, hk, if_pos hl]
theorem ev_dget1 {o k : M D} {h1 h2 : LH} {i : Nat} {y : D} {kk : KD} {kvs kvs2 : List (KD × D)} (ho : o e h = .ok (.ref i) h1) (hi : h1[i]? = some (.dK kvs)) (hk : k e h1 = .ok y h2) (hi2 : h2[i]? = some (.dK kvs2)) (hy : keyD y = some kk) :
    mDGet1 o k e h = .ok ((getKD kk kvs2).getD .non) h2 := by
  unfold mDGet1
  rw [ho, bind_ok, dct_k hi]
  simp only [hk, bind_ok, dct_k hi2, hy]
theorem ev_dpop1 {o k : M D} {h1 h2 : LH} {i : Nat} {y d : D} {kk : KD} {kvs kvs2 : List (KD × D)} (ho : o e h = .ok (.ref i) h1) (hi : h1[i]? = some (.dK kvs)) (hk : k e h1 = .ok y h2) (hi2 : h2[i]? = some (.dK kvs2)) (hy : keyD y = some kk) (hd : getKD kk kvs2 = some d) :
    mDPop1 o k e h = .ok d (h2.set i (.dK (dropKD kk kvs2))) := by
  unfold mDPop1
  rw [ho, bind_ok, dct_k hi]
  simp only [hk, bind_ok, dct_k hi2, hy, hd]
theorem lenA_k {i : Nat} {kvs : List (KD × D)} (hi : h[i]? = some (.dK kvs)) : dLenA [.ref i] h = .ok (.int kvs.length) h := by
  unfold dLenA
  simp only [dct_k hi]
theorem lenA_t {i : Nat} {kvs : List (List KD × D)} (hi : h[i]? = some (.dT kvs)) : dLenA [.ref i] h = .ok (.int kvs.length) h := by
  unfold dLenA
  simp only [dct_t hi]
theorem sortedA_k {i : Nat} {kvs : List (KD × D)} {ss : List (List Nat)} (hi : h[i]? = some (.dK kvs)) (hk : strKs (kvs.map (·.1)) = some ss) (hl : ss.length < 64) : dSortedA [.ref i] h = .ok (.ref h.length) (h ++ [.lst ((sortS ss).map D.str)]) := by
  unfold dSortedA
  simp only [dct_k hi, hk, if_pos hl]
@[simp] theorem ev_dict0 : mDict0 e h = .ok (.ref h.length) (h ++ [.dK []]) := rfl
@[simp] theorem ev_dictT : mDictT e h = .ok (.ref h.length) (h ++ [.dT []]) := rfl
end
/-! ### == of data -/
theorem dEq_same {h : LH} {a b : D} {p : PyData} (ha : toP 10000000 h a = some p) (hb : toP 10000000 h b = some p) (hs : SeqAt.shaped p = true) (hc : p.canLay0 = true) : (∃ xs, a = .tup xs) → dEq a b h = .ok (.bl true) h ∧ dNe a b h = .ok (.bl false) h := by
  rintro ⟨xs, rfl⟩
  have e : dEqB 10000000 (.tup xs) b h = some true := by
    unfold dEqB
    cases b <;> simp only [ha, hb, hs, Bool.and_self, if_true, SeqAt.eqv_refl _ hc]
  unfold dEq dNe
  rw [e]
  exact ⟨rfl, rfl⟩
theorem toPs_strs {h : LH} : ∀ (E : List (List Nat)) (n : Nat), E.length < n → toPs (n + 1) h (E.map D.str) = some (E.map fun s => PyData.str ⟨s.toArray⟩) := by
  intro E
  induction E with
  | nil => intro n _; rfl
  | cons a E ih =>
    intro n hn
    obtain ⟨m, rfl⟩ : ∃ m, n = m + 1 := ⟨n - 1, by simp at hn; omega⟩
    have e := ih m (by simpa using hn)
    show (match toP (m + 1) h (.str a), toPs (m + 1) h (E.map D.str) with
      | some p, some ps => some (p :: ps)
      | _, _ => none) = _
    rw [e]
    rfl
theorem lay_strs {E : List (List Nat)} (hE : ∀ s ∈ E, okS s) : PyData.canLayAll0 (E.map fun s => PyData.str ⟨s.toArray⟩) = true ∧ PyData.depthAll (E.map fun s => PyData.str ⟨s.toArray⟩) = 0 := by
  induction E with
  | nil => exact ⟨by simp [PyData.canLayAll0], by simp [PyData.depthAll]⟩
  | cons a E ih =>
    have ih := ih fun s hs => hE s (List.mem_cons_of_mem _ hs)
    have h1 := strOk_ok (hE a List.mem_cons_self)
    exact ⟨by simp [PyData.canLayAll0, PyData.canLay0, ih.1, h1], by simp [PyData.depthAll, PyData.depth, ih.2]⟩
theorem ix_mem {h : LH} {xs : List D} {i : Int} (h0 : 0 ≤ i) (h1 : i < xs.length) : ∃ x ∈ xs, dIx (.ref h.length) (.int i) (h ++ [.lst xs]) = .ok x (h ++ [.lst xs]) := by
  have hi : i.toNat < xs.length := by omega
  exact ⟨xs[i.toNat], List.getElem_mem hi, ix_disp (atI_of h0 (List.getElem?_eq_getElem hi))⟩
theorem any_ints (w : Int) : ∀ E : List Int, ((E.map D.int).any fun y => eqF y (.int w)) = decide (w ∈ E)
  | [] => rfl
  | a :: E => by
    rw [List.map_cons, List.any_cons, any_ints w E]
    show ((a == w) || decide (w ∈ E)) = _
    by_cases q : a = w
    · simp [q]
    · have q' : ¬ w = a := fun z => q z.symm
      simp [q, q']
theorem dIn_ints {h : LH} {r : Nat} {w : Int} {E : List Int} (hr : h[r]? = some (.lst (E.map D.int))) : dIn (.int w) (.ref r) h = .ok (.bl (decide (w ∈ E))) h := by
  unfold dIn
  have e : seqD (.ref r) h = some (E.map D.int) := by unfold seqD; simp only [hr]
  simp only [e]
  have f : (E.map D.int).all flD = true := by simp [List.all_map, flD]
  rw [f]
  simp only [flD, Bool.and_self, if_true, any_ints]
end HM
set_option Elab.async false
set_option linter.all false
set_option maxRecDepth 100000
set_option maxHeartbeats 4000000
namespace HM
open PySem L2
/-! ### marks -/
def mkS (k t : List Nat) : List Nat := hexL (dig (k ++ 32 :: t))
theorem mkS_len {k t : List Nat} (h : k.length + t.length ≤ 2000000) : (mkS k t).length = 18 := by
  refine hex_len (Nat.lt_of_lt_of_le (dig_lt ?_) (by decide))
  simp
  omega
theorem mkS_mem {k t : List Nat} : ∀ c ∈ mkS k t, c ∈ hxC := hex_mem _
theorem S_sp : S " " = .str [32] := S_eq " "
theorem mark_eq {k t : List Nat} {h : LH} (hl : k.length + t.length ≤ 2000000) : L.f_mark_of [.str k, .str t] h = .ok (.str (mkS k t)) h := by
  have a1 : dAdd (.str k) (.str [32]) h = .ok (.str (k ++ [32])) h := dAdd_str (by simp; omega)
  have a2 : dAdd (.str (k ++ [32])) (.str t) h = .ok (.str (k ++ [32] ++ t)) h := dAdd_str (by simp; omega)
  have e : k ++ [32] ++ t = k ++ 32 :: t := by simp
  have d := digest_eq (s := k ++ [32] ++ t) (h := h) (by simp; omega)
  rw [e] at d a2
  unfold L.f_mark_of
  rw [mkF_eq (by rfl)]
  unfold L.b_mark_of
  simp -implicitDefEqProofs [S_sp, a1, a2, d, mkS]
/-! the law's own digest -/
theorem hval_snoc (l : List Nat) (c : Nat) : hval (l ++ [c]) = hval l * 16 + hxC.idxOf c := by
  unfold hval
  rw [List.foldl_append]
  rfl
theorem idx_inj {c d : Nat} (hc : c ∈ hxC) (hd : d ∈ hxC) (h : hxC.idxOf c = hxC.idxOf d) : c = d := by
  have a := List.getElem_idxOf (List.idxOf_lt_length_of_mem hc)
  have b := List.getElem_idxOf (List.idxOf_lt_length_of_mem hd)
  rw [← a, ← b]
  congr 1
theorem hx_len16 : hxC.length = 16 := by decide +kernel
theorem hval_inj : ∀ (n : Nat) (a b : List Nat), a.length = n → b.length = n → (∀ c ∈ a, c ∈ hxC) → (∀ c ∈ b, c ∈ hxC) → hval a = hval b → a = b := by
  intro n
  induction n with
  | zero =>
    intro a b ha hb _ _ _
    rw [List.eq_nil_of_length_eq_zero ha, List.eq_nil_of_length_eq_zero hb]
  | succ n ih =>
    intro a b ha hb ma mb hv
    have na : a ≠ [] := by intro z; rw [z] at ha; simp at ha
    have nb : b ≠ [] := by intro z; rw [z] at hb; simp at hb
    rw [← List.dropLast_concat_getLast na, ← List.dropLast_concat_getLast nb] at hv ⊢
    rw [hval_snoc, hval_snoc] at hv
    have ca := ma _ (List.getLast_mem na)
    have cb := mb _ (List.getLast_mem nb)
    have ia := List.idxOf_lt_length_of_mem ca
    have ib := List.idxOf_lt_length_of_mem cb
    rw [hx_len16] at ia ib
    have e1 : hval a.dropLast = hval b.dropLast := by omega
    have e2 : hxC.idxOf (a.getLast na) = hxC.idxOf (b.getLast nb) := by omega
    rw [ih a.dropLast b.dropLast (by simp; omega) (by simp; omega) (fun c h => ma c ((List.dropLast_sublist _).subset h)) (fun c h => mb c ((List.dropLast_sublist _).subset h)) e1, idx_inj ca cb e2]
/-- digits from behind -/
def dgx : Nat → Nat → List Nat → List Nat
  | 0, _, acc => acc
  | m + 1, n, acc => dgx m (n / 16) (hxC.getD (n % 16) 0 :: acc)
theorem hx_get {d : Nat} (h : d < 16) : hxC.getD d 0 ∈ hxC ∧ hxC.idxOf (hxC.getD d 0) = d := by
  have : ∀ d, d < 16 → hxC.getD d 0 ∈ hxC ∧ hxC.idxOf (hxC.getD d 0) = d := by decide +kernel
  exact this d h
theorem dgx_len : ∀ (m n : Nat) (acc : List Nat), (dgx m n acc).length = m + acc.length
  | 0, n, acc => by simp [dgx]
  | m + 1, n, acc => by
    unfold dgx
    rw [dgx_len m]
    simp
    omega
theorem dgx_mem : ∀ (m n : Nat) (acc : List Nat), (∀ c ∈ acc, c ∈ hxC) → ∀ c ∈ dgx m n acc, c ∈ hxC
  | 0, n, acc, h => h
  | m + 1, n, acc, h => by
    unfold dgx
    refine dgx_mem m _ _ fun c hc => ?_
    rcases List.mem_cons.mp hc with rfl | hc
    · exact (hx_get (Nat.mod_lt _ (by decide))).1
    · exact h c hc
theorem hval_st (b : List Nat) : ∀ (n : Nat), b.foldl (fun n c => n * 16 + hxC.idxOf c) n = n * 16 ^ b.length + hval b := by
  induction b with
  | nil => intro n; simp [hval]
  | cons x b ih =>
    intro n
    have e : hval (x :: b) = b.foldl (fun n c => n * 16 + hxC.idxOf c) (0 * 16 + hxC.idxOf x) := rfl
    rw [e, List.foldl_cons, ih, ih, List.length_cons, Nat.pow_succ, Nat.add_mul, Nat.zero_mul, Nat.zero_add, Nat.mul_assoc, Nat.mul_comm 16]
    omega
theorem hval_app (a b : List Nat) : hval (a ++ b) = hval a * 16 ^ b.length + hval b := by
  unfold hval
  rw [List.foldl_append]
  exact hval_st b _
theorem hval_cons (c : Nat) (l : List Nat) : hval (c :: l) = hxC.idxOf c * 16 ^ l.length + hval l := by
  have := hval_app [c] l
  rw [show hval [c] = hxC.idxOf c by show 0 * 16 + hxC.idxOf c = _; omega] at this
  exact this
theorem dgx_val : ∀ (m n : Nat) (acc : List Nat), hval (dgx m n acc) = (n % 16 ^ m) * 16 ^ acc.length + hval acc
  | 0, n, acc => by
    unfold dgx
    simp [Nat.mod_one]
  | m + 1, n, acc => by
    unfold dgx
    rw [dgx_val m, hval_cons, (hx_get (Nat.mod_lt n (by decide))).2, List.length_cons]
    have e : n % 16 ^ (m + 1) = n % 16 + 16 * (n / 16 % 16 ^ m) := by
      rw [Nat.pow_succ, Nat.mul_comm (16 ^ m) 16, Nat.mod_mul]
    rw [e, Nat.pow_succ, Nat.add_mul]
    have : n / 16 % 16 ^ m * (16 ^ acc.length * 16) = 16 * (n / 16 % 16 ^ m) * 16 ^ acc.length := by
      rw [Nat.mul_comm (16 ^ acc.length) 16, ← Nat.mul_assoc, Nat.mul_comm (n / 16 % 16 ^ m) 16]
    omega
theorem dgx_hex {n : Nat} (h : n < 16 ^ 18) : dgx 18 n [] = hexL n := by
  refine hval_inj 18 _ _ (by rw [dgx_len]; rfl) (hex_len h) (dgx_mem _ _ _ fun c hc => (by cases hc)) (hex_mem n) ?_
  rw [dgx_val, hval_hex, Nat.mod_eq_of_lt h]
  simp [hval]
def accN (n : Nat) (s : List Nat) : Nat := s.foldl (fun n c => n * 65599 + c) n
theorem acc_mod : ∀ (s : List Nat) (n m : Nat), n % 2361183241434822606617 = m % 2361183241434822606617 → accN n s % 2361183241434822606617 = s.foldl dgF m % 2361183241434822606617
  | [], n, m, h => h
  | c :: s, n, m, h => by
    show accN (n * 65599 + c) s % _ = s.foldl dgF (dgF m c) % _
    refine acc_mod s _ _ ?_
    unfold dgF
    rw [Nat.mod_mod, Nat.add_mod, Nat.mul_mod, h, ← Nat.mul_mod, ← Nat.add_mod]
theorem acc_dig {s : List Nat} (hl : s.length ≤ 16777216) : accN (s.length + 1) s % 2361183241434822606617 = dig s := by
  rw [acc_mod s _ _ rfl]
  exact Nat.mod_eq_of_lt (dig_lt hl)
theorem ldigest_eq {s : List Nat} {h : LH} (hl : s.length ≤ 1000000) : L.f__law_digest [.str s] h = .ok (.str (hexL (dig s))) h := by
  have l1 := loopS_fold (body := (sSet 1 (mOp dAdd (mOp dMul (mVar 1) (mC (.int 65599))) (mApp dOrd (mCons (mVar 2) mNil))))) (i := 2) (s := s) (h := h) (fun (n : Nat) v => [some (.str s), some (.int n), v, none, none]) (fun n c => n * 65599 + c) (fun _ => True) (a := s.length + 1) (v := none)
    (fun x v d => rfl) (fun x c hc _ => by
      have k : mulOk (x : Int) 65599 = true := mulOk_r (by decide)
      refine ⟨?_, trivial⟩
      simp -implicitDefEqProofs [dMul_int k, dOrd_chr, dAdd_int]) trivial
  obtain ⟨v, e1, _⟩ := l1
  have hm : ((accN (s.length + 1) s : Nat) : Int) % 2361183241434822606617 = (dig s : Nat) := by
    rw [← acc_dig (by omega)]
    omega
  have pw : ∀ g, dPow (.int 2) (.int 64) g = .ok (.int 18446744073709551616) g := fun g => by
    show (if (0 : Int) ≤ 64 ∧ (64 : Int) ≤ 1000000 ∧ (2 : Int).natAbs < 2 ^ 64 then Res.ok (D.int (2 ^ (64 : Int).toNat)) g else .bad) = _
    rw [if_pos ⟨by decide, by decide, by decide⟩]
    rfl
  have ml : ∀ g, dMul (.int 18446744073709551616) (.int 128) g = .ok (.int 2361183241434822606848) g := fun g => dMul_int (mulOk_r (by decide))
  have l2 := loopF_gen (g := itN 18) (t := .nm 4) (N := 18) (body := (sSeq (sSet 3 (mOp dAdd (mOp dIx (mC (S "0123456789abcdef")) (mOp dMod (mApp dInt (mCons (mVar 1) mNil)) (mC (.int 16)))) (mVar 3))) (sSet 1 (mOp dDiv (mVar 1) (mC (.int 16)))))) (fun j => .int j)
    (fun j e g => g = h ∧ ∃ (n : Nat) (acc : List Nat) (v4 : Option D), e = [some (.str s), some (.int n), v, some (.str acc), v4] ∧ acc.length = j ∧ dgx (18 - j) n acc = hexL (dig s))
    (fun r => ∃ e, r = .next e h ∧ e[3]? = some (some (.str (hexL (dig s)))))
    (fun j e g _ _ => rfl) (fun j e g hj => by
      rintro ⟨rfl, n, acc, v4, rfl, ha, hd⟩
      refine ⟨_, rfl, ?_⟩
      have hn : n % 16 < 16 := Nat.mod_lt _ (by decide)
      have ix : ∀ g, dIx (.str hxC) (.int ((n : Int) % 16)) g = .ok (.str [hxC.getD (n % 16) 0]) g := fun g => by
        refine dIx_str (by rw [hx_len16]; decide) (atI_of (by omega) ?_)
        have : ((n : Int) % 16).toNat = n % 16 := by omega
        rw [this, List.getD_eq_getElem?_getD, List.getElem?_eq_getElem (by rw [hx_len16]; exact hn)]
        rfl
      have e18 : 18 - j = (18 - (j + 1)) + 1 := by omega
      rw [e18] at hd
      unfold dgx at hd
      generalize hxC.getD (n % 16) 0 = x at hd ix
      have ad : ∀ g, dAdd (.str [x]) (.str acc) g = .ok (.str (x :: acc)) g := fun g => dAdd_str (by simp; omega)
      simp -implicitDefEqProofs [ev_seq, S_ofH, dInt_int, dMod_int (show (0 : Int) < 16 by decide), ix, ad, dDiv_int (show (0 : Int) < 16 by decide) (show (16 : Int).natAbs.log2 < 9000 by decide)]
      have e17 : 17 - j = 18 - (j + 1) := by omega
      refine ⟨n / 16, x :: acc, ⟨by omega, rfl⟩, by simpa using ha, ?_⟩
      rw [e17]
      exact hd)
    (fun e g => by
      rintro ⟨rfl, n, acc, v4, rfl, ha, hd⟩
      refine ⟨_, rfl, ?_⟩
      unfold dgx at hd
      simpa using hd) 18 0 [some (.str s), some (.int (dig s)), v, some (.str []), none] h (by omega) ⟨rfl, dig s, [], none, rfl, rfl, dgx_hex (Nat.lt_of_lt_of_le (dig_lt (by omega)) (by decide))⟩
  obtain ⟨e2, q2, q3⟩ := l2
  unfold L.f__law_digest L.b__law_digest
  refine mkF_ret rfl ?_
  refine wseq (R := fun r => r = _) (h1 := h) (e1 := [some (.str s), some (.int ((s.length : Int) + 1)), none, none, none]) (by
    simp -implicitDefEqProofs [dLen_str (show s.length ≤ 16777216 by omega), dAdd_int]) ?_
  refine wseq (R := fun r => r = _) (h1 := h) (e1 := [some (.str s), some (.int (accN (s.length + 1) s)), v, none, none]) (by
    simp -implicitDefEqProofs
    exact e1) ?_
  refine wseq (R := fun r => r = _) (h1 := h) (e1 := [some (.str s), some (.int (dig s)), v, none, none]) (by
    simp -implicitDefEqProofs [dInt_int, pw, ml, dSub_int, dMod_int (show (0 : Int) < 2361183241434822606617 by decide), hm]) ?_
  refine wseq (R := fun r => r = _) (h1 := h) (e1 := [some (.str s), some (.int (dig s)), v, some (.str []), none]) (by
    rfl) ?_
  refine wseq (R := fun r => r = _) (h1 := h) (e1 := e2) (by
    rw [ev_for]
    exact q2) ?_
  simp -implicitDefEqProofs [q3]
end HM
set_option Elab.async false
set_option linter.all false
set_option maxRecDepth 100000
set_option maxHeartbeats 4000000
namespace HM
open PySem L2
/-! ### pairs -/
abbrev PR := List Nat × List Nat
def pD (p : PR) : D := .tup [.str p.1, .str p.2]
structure GPr (p : PR) : Prop where
  k : isKey (.str p.1) = true
  c : allC p.2 = true
  l : p.2.length ≤ 1000000
theorem key_le {s : List Nat} (h : isKey (.str s) = true) : s.length ≤ 12 := by
  unfold isKey at h
  simp only [Bool.and_eq_true, decide_eq_true_eq] at h
  exact h.1.1.2
def pP (p : PR) : PyData := .tuple [.str ⟨p.1.toArray⟩, .str ⟨p.2.toArray⟩]
theorem toP_pair {h : LH} {p : PR} {n : Nat} (hn : 5 ≤ n) : toP n h (pD p) = some (pP p) := by
  obtain ⟨m, rfl⟩ : ∃ m, n = m + 5 := ⟨n - 5, by omega⟩
  rfl
theorem toPs_pairs {h : LH} : ∀ (ps : List PR) (n : Nat), ps.length + 6 ≤ n → toPs n h (ps.map pD) = some (ps.map pP)
  | [], n, hn => by
    obtain ⟨m, rfl⟩ : ∃ m, n = m + 1 := ⟨n - 1, by simp at hn; omega⟩
    rfl
  | p :: ps, n, hn => by
    obtain ⟨m, rfl⟩ : ∃ m, n = m + 1 := ⟨n - 1, by simp at hn; omega⟩
    simp at hn
    have e := toPs_pairs (h := h) ps m (by omega)
    have f := toP_pair (h := h) (p := p) (n := m) (by omega)
    show (match toP m h (pD p), toPs m h (ps.map pD) with
      | some p, some ps => some (p :: ps)
      | _, _ => none) = _
    rw [e, f]
    rfl
theorem strb_inj {a b : List Nat} : ((⟨a.toArray⟩ : Str) == ⟨b.toArray⟩) = decide (a = b) := by
  by_cases q : a = b
  · subst q
    simp
  · have : ¬ (⟨a.toArray⟩ : Str) = ⟨b.toArray⟩ := fun z => q (by simpa using z)
    simp [q, this]
theorem eqv_pair {p q : PR} : (pP p).eqv (pP q) = decide (q = p) := by
  show (((⟨p.1.toArray⟩ : Str) == ⟨q.1.toArray⟩) && (((⟨p.2.toArray⟩ : Str) == ⟨q.2.toArray⟩) && true)) = _
  rw [strb_inj, strb_inj]
  obtain ⟨a, b⟩ := p
  obtain ⟨c, d⟩ := q
  by_cases e1 : a = c <;> by_cases e2 : b = d <;> simp [e1, e2]
  · exact fun z => absurd z.symm e2
  · exact fun z => absurd z.symm e1
  · exact fun z => absurd z.symm e1
theorem any_pair {q : PR} : ∀ ps : List PR, ((ps.map pP).any fun z => PyData.eqv z (pP q)) = decide (q ∈ ps)
  | [] => rfl
  | p :: ps => by
    rw [List.map_cons, List.any_cons, any_pair ps, eqv_pair]
    by_cases e : q = p <;> simp [e]
theorem key_lt {s : List Nat} (h : isKey (.str s) = true) : ∀ c ∈ s, c < 1114112 := by
  unfold isKey at h
  simp only [Bool.and_eq_true, decide_eq_true_eq] at h
  obtain ⟨⟨_, h0⟩, h1⟩ := h
  intro c hc
  cases s with
  | nil => cases hc
  | cons a s =>
    simp at h0
    rcases List.mem_cons.mp hc with rfl | hc
    · omega
    · have := List.all_eq_true.mp h1 c hc
      have hd : ∀ c ∈ dgC, c < 1114112 := by decide +kernel
      exact hd c (of_decide_eq_true this)
theorem allC_lt {s : List Nat} (h : allC s = true) : ∀ c ∈ s, c < 1114112 := fun c hc => by
  have := okC_iff.mp (List.all_eq_true.mp h c hc)
  unfold LC at this
  omega
theorem GPr.ok {p : PR} (g : GPr p) : okS p.1 ∧ okS p.2 := by
  have := key_le g.k
  exact ⟨⟨by omega, key_lt g.k⟩, g.l, allC_lt g.c⟩
theorem pP_lay {p : PR} (g : GPr p) : (pP p).canLay0 = true ∧ (pP p).depth ≤ 1 := by
  have a := strOk_ok g.ok.1
  have b := strOk_ok g.ok.2
  unfold pP
  exact ⟨by simp [PyData.canLay0, PyData.canLayAll0, a, b], by simp [PyData.depth, PyData.depthAll]⟩
theorem pPs_lay : ∀ {ps : List PR}, (∀ p ∈ ps, GPr p) → PyData.canLayAll0 (ps.map pP) = true ∧ PyData.depthAll (ps.map pP) ≤ 1
  | [], _ => ⟨by simp [PyData.canLayAll0], by simp [PyData.depthAll]⟩
  | p :: ps, h => by
    have a := pP_lay (h p List.mem_cons_self)
    have b := pPs_lay fun q hq => h q (List.mem_cons_of_mem _ hq)
    refine ⟨by simp [PyData.canLayAll0, a.1, b.1], ?_⟩
    have := a.2
    have := b.2
    simp [PyData.depthAll]
    omega
theorem inDB_pairs {h : LH} {r : Nat} {ps : List PR} {q : PR} (hr : h[r]? = some (.lst (ps.map pD))) (ok : ∀ p ∈ ps, GPr p) (hq : GPr q) (hl : ps.length ≤ 1000000) : inDB (pD q) (.ref r) h = some (decide (q ∈ ps)) := by
  have e1 : toP 10000000 h (pD q) = some (pP q) := toP_pair (by decide)
  have e2 : toP 10000000 h (.ref r) = some (.list (ps.map pP)) := by
    show (match h[r]? with
      | some (.lst xs) => (toPs 9999999 h xs).map PyData.list
      | _ => none) = _
    rw [hr]
    show (toPs 9999999 h (ps.map pD)).map PyData.list = _
    rw [toPs_pairs ps _ (by omega)]
    rfl
  have a := pP_lay hq
  have b := pPs_lay ok
  unfold inDB
  rw [e1, e2]
  have s1 : SeqAt.shaped (pP q) = true := by
    unfold SeqAt.shaped
    have := a.2
    simp [a.1]
    omega
  have s2 : SeqAt.shaped (.list (ps.map pP)) = true := by
    unfold SeqAt.shaped
    have := b.2
    simp [PyData.canLay0, PyData.depth, b.1]
    omega
  simp only [s1, s2, Bool.and_self, if_true, any_pair]
theorem inD_pairs {h : LH} {r : Nat} {ps : List PR} {q : PR} (hr : h[r]? = some (.lst (ps.map pD))) (ok : ∀ p ∈ ps, GPr p) (hq : GPr q) (hl : ps.length ≤ 1000000) : dInD (pD q) (.ref r) h = .ok (.bl (decide (q ∈ ps))) h ∧ dNotInD (pD q) (.ref r) h = .ok (.bl (!decide (q ∈ ps))) h := by
  unfold dInD dNotInD
  rw [inDB_pairs hr ok hq hl]
  exact ⟨rfl, rfl⟩
theorem notInD_tup {h : LH} {r : Nat} {ps : List PR} {q : PR} (hr : h[r]? = some (.lst (ps.map pD))) (ok : ∀ p ∈ ps, GPr p) (hq : GPr q) (hl : ps.length ≤ 1000000) : dInD (.tup [.str q.1, .str q.2]) (.ref r) h = .ok (.bl (decide (q ∈ ps))) h := (inD_pairs hr ok hq hl).1
/-! ### the office -/
def kvP (p : PR) : List KD × D := ([Sum.inr p.1, Sum.inr p.2], .str (mkS p.1 p.2))
def pK (a b : List Nat) : List KD := [Sum.inr a, Sum.inr b]
theorem get_kv {a b : List Nat} : ∀ ps : List PR, getKD (pK a b) (ps.map kvP) = if (a, b) ∈ ps then some (.str (mkS a b)) else none
  | [] => rfl
  | p :: ps => by
    rw [List.map_cons]
    unfold kvP
    unfold getKD
    have ih := get_kv (a := a) (b := b) ps
    by_cases q : p = (a, b)
    · subst q
      rw [if_pos List.mem_cons_self]
      exact if_pos rfl
    · have : ¬ [Sum.inr p.1, Sum.inr p.2] = pK a b := fun z => q (by
        unfold pK at z
        simp at z
        exact Prod.ext z.1 z.2)
      rw [if_neg this]
      have e : ((a, b) ∈ p :: ps) ↔ (a, b) ∈ ps := by
        rw [List.mem_cons]
        exact ⟨fun z => z.resolve_left fun y => q y.symm, .inr⟩
      simp only [e]
      exact ih
def addP (p : PR) (ps : List PR) : List PR := if p ∈ ps then ps else ps ++ [p]
theorem put_kv {a b : List Nat} {ps : List PR} : putKD (pK a b) (.str (mkS a b)) (ps.map kvP) = (addP (a, b) ps).map kvP := by
  unfold putKD addP
  rw [get_kv]
  by_cases q : (a, b) ∈ ps
  · rw [if_pos q, if_pos q]
    simp only [Option.isSome_some, if_true]
    rw [List.map_map]
    refine List.map_congr_left fun p hp => ?_
    show (if (kvP p).1 = pK a b then ((kvP p).1, D.str (mkS a b)) else kvP p) = kvP p
    split
    · rename_i c
      unfold kvP pK at c
      simp at c
      unfold kvP
      rw [c.1, c.2]
    · rfl
  · rw [if_neg q, if_neg q]
    simp [kvP, pK]
structure Off (h : LH) (o m : Nat) (ps : List PR) : Prop where
  o : h[o]? = some (.ins "Seals" [("_marks", .ref m)])
  m : h[m]? = some (.dT (ps.map kvP))
  g : ∀ p ∈ ps, GPr p
theorem Off.kp {h g : LH} {o m : Nat} {ps : List PR} (w : Off h o m ps) (k : Kp h g) : Off g o m ps := ⟨k.get w.o, k.get w.m, w.g⟩
theorem Off.sf {h g : LH} {o m s : Nat} {ps : List PR} (w : Off h o m ps) (k : SF s h g) (ho : o ≠ s) (hm : m ≠ s) : Off g o m ps := ⟨k.get ho w.o, k.get hm w.m, w.g⟩
theorem Off.set {h : LH} {o m s : Nat} {x : LO} {ps : List PR} (w : Off h o m ps) (ho : o ≠ s) (hm : m ≠ s) : Off (h.set s x) o m ps := ⟨by rw [List.getElem?_set_ne ho.symm]; exact w.o, by rw [List.getElem?_set_ne hm.symm]; exact w.m, w.g⟩
theorem gf_marks {m : D} : getF "_marks" [("_marks", m)] = some m := by simp [getF]
theorem seal_init {h : LH} : kMake L.f_Seals___init__ h "Seals" [] = .ok (.ref h.length) (h ++ [.ins "Seals" [("_marks", .ref (h.length + 1))], .dT []]) := by
  refine kMake_ok ?_
  unfold L.f_Seals___init__
  rw [mkF_eq (by rfl)]
  unfold L.b_Seals___init__
  have : ((h ++ [LO.ins "Seals" []]) ++ [.dT []])[h.length]? = some (.ins "Seals" []) := by simp
  have k := kFldSet_ok (e := [some (.ref h.length)]) (f := "_marks") (y := .ref (h.length + 1)) this (by decide)
  simp -implicitDefEqProofs at k
  simp -implicitDefEqProofs [k, putFD]
theorem seal_count {h : LH} {o m : Nat} {ps : List PR} (w : Off h o m ps) : L.f_Seals_count [.ref o] h = .ok (.int ps.length) h := by
  unfold L.f_Seals_count
  rw [mkF_eq (by rfl)]
  unfold L.b_Seals_count
  simp -implicitDefEqProofs [fld_at w.o gf_marks, lenA_t w.m]
theorem inT_at {h : LH} {o m : Nat} {ps : List PR} (w : Off h o m ps) {a b : List Nat} : inTD [.str a, .str b] (.ref m) h = some (if (a, b) ∈ ps then some (.str (mkS a b)) else none) := by
  unfold inTD
  simp only [dct_t w.m, keysD, keyD]
  rw [← get_kv]
  rfl
theorem seal_make {h : LH} {o m : Nat} {ps : List PR} {p : PR} (w : Off h o m ps) (g : GPr p) (hl : ps.length ≤ 1000000) :
    L.f_Seals_make [.ref o, .str p.1, .str p.2] h = .ok (.str (mkS p.1 p.2)) (h.set m (.dT ((addP p ps).map kvP))) ∧ Off (h.set m (.dT ((addP p ps).map kvP))) o m (addP p ps) := by
  obtain ⟨a, b⟩ := p
  have hne : o ≠ m := by
    rintro rfl
    have := w.o
    rw [w.m] at this
    cases this
  have lk := key_le g.k
  have lt := g.l
  have gk := g.k
  have gc := g.c
  simp only at lk lt gk gc
  have e1 : ∀ g, L.f_is_key [.str a] g = .ok (.bl true) g := fun g => by
    rw [key_eq (t := .str) rfl (by intro s q; cases q; omega), gk]
  have e2 : ∀ g, L.f_is_printable [.str b] g = .ok (.bl true) g := fun g => by
    rw [printable_eq (t := .str) rfl]
    show Res.ok (D.bl (allC b)) g = _
    rw [gc]
  have e3 : ∀ g, L.f_mark_of [.str a, .str b] g = .ok (.str (mkS a b)) g := fun g => mark_eq (by omega)
  refine ⟨?_, ?_, ?_, ?_⟩
  · unfold L.f_Seals_make L.b_Seals_make
    refine mkF_ret rfl ?_
    refine wseq (R := fun r => r = _) (h1 := h) (e1 := [some (.ref o), some (.str a), some (.str b), none]) (by simp -implicitDefEqProofs [e1, truD]) ?_
    refine wseq (R := fun r => r = _) (h1 := h) (e1 := [some (.ref o), some (.str a), some (.str b), none]) (by simp -implicitDefEqProofs [e2, truD]) ?_
    refine wseq (R := fun r => r = _) (h1 := h) (e1 := [some (.ref o), some (.str a), some (.str b), some (.str (mkS a b))]) (by simp -implicitDefEqProofs [e3]) ?_
    refine wseq (R := fun r => r = _) (h1 := h.set m (.dT ((addP (a, b) ps).map kvP))) (e1 := [some (.ref o), some (.str a), some (.str b), some (.str (mkS a b))]) (by
      unfold sPutT
      simp -implicitDefEqProofs [fld_at w.o gf_marks, dct_t w.m, keysD, keyD, show ps.length < 16777216 by omega]
      exact congrArg (fun z => h.set m (.dT z)) put_kv) ?_
    simp -implicitDefEqProofs []
  · rw [List.getElem?_set_ne hne.symm]; exact w.o
  · rw [List.getElem?_set_self (lt_of_get w.m)]
  · intro p hp
    unfold addP at hp
    split at hp
    · exact w.g p hp
    · rcases List.mem_append.mp hp with hp | hp
      · exact w.g p hp
      · rw [List.mem_singleton.mp hp]; exact g
theorem seal_badkey {h : LH} {o : Nat} {k t : D} {ty : BT} (ht : tyD k h = some ty) (hl : ∀ s, k = .str s → s.length ≤ 16777216) (hk : isKey k = false) : L.f_Seals_make [.ref o, k, t] h = .exc ⟨"BadKey", []⟩ h := by
  unfold L.f_Seals_make
  rw [mkF_eq (by rfl)]
  unfold L.b_Seals_make
  rw [ev_seq]
  simp -implicitDefEqProofs [key_eq ht hl, hk, truD]
theorem seal_badtext {h : LH} {o : Nat} {k : List Nat} {t : D} {ty : BT} (ht : tyD t h = some ty) (hk : isKey (.str k) = true) (hp : isPr t = false) : L.f_Seals_make [.ref o, .str k, t] h = .exc ⟨"BadText", []⟩ h := by
  have lk := key_le hk
  unfold L.f_Seals_make
  rw [mkF_eq (by rfl)]
  unfold L.b_Seals_make
  simp only [ev_seq]
  simp -implicitDefEqProofs [key_eq (d := .str k) (h := h) (t := .str) rfl (by intro s q; cases q; omega), hk, truD, printable_eq ht, hp]
def isStrD : D → Bool
  | .str _ => true
  | _ => false
/-- what holds answers -/
def holdsV (ps : List PR) : D → D → D → Bool
  | .str a, .str b, .str c => decide ((a, b) ∈ ps) && decide (mkS a b = c)
  | _, _, _ => false
theorem seal_holds {h : LH} {o m : Nat} {ps : List PR} {x y z : D} {t1 t2 t3 : BT} (w : Off h o m ps) (h1 : tyD x h = some t1) (h2 : tyD y h = some t2) (h3 : tyD z h = some t3) :
    L.f_Seals_holds [.ref o, x, y, z] h = .ok (.bl (holdsV ps x y z)) h := by
  unfold L.f_Seals_holds
  rw [mkF_eq (by rfl)]
  unfold L.b_Seals_holds
  by_cases c : isStrD x && isStrD y && isStrD z
  · simp only [Bool.and_eq_true] at c
    obtain ⟨⟨c1, c2⟩, c3⟩ := c
    cases x with
    | str a =>
      cases y with
      | str b =>
        cases z with
        | str c =>
          have e1 : ∀ _ : Unit, mInT true (mCons (mVar 1) (mCons (mVar 2) mNil)) (mUn (fldD "Seals" "_marks") (mVar 0)) [some (.ref o), some (.str a), some (.str b), some (.str c)] h = .ok (.bl (!decide ((a, b) ∈ ps))) h := fun _ => by
            unfold mInT
            simp -implicitDefEqProofs [fld_at w.o gf_marks, inT_at w]
            by_cases q : (a, b) ∈ ps <;> simp [q]
          simp only [ev_seq]
          simp -implicitDefEqProofs [tyD, isB, truD, e1 ()]
          by_cases q : (a, b) ∈ ps
          · simp -implicitDefEqProofs [q, mGetT, fld_at w.o gf_marks, inT_at w, dEq_str, holdsV]
          · simp -implicitDefEqProofs [q, holdsV]
        | _ => simp [isStrD] at c3
      | _ => simp [isStrD] at c2
    | _ => simp [isStrD] at c1
  · have hv : holdsV ps x y z = false := by
      cases x <;> cases y <;> cases z <;> first | rfl | (simp [isStrD] at c)
    rw [hv, ev_seq]
    have u : ∀ {d : D} {t : BT}, tyD d h = some t → isStrD d = false → isB t .str = false := fun {d t} ht hs => by
      cases d <;> simp [tyD, isStrD] at ht hs
      all_goals first | (subst ht; rfl) | skip
      split at ht <;> simp at ht <;> first | (subst ht; rfl) | skip
    have v : ∀ {d : D} {t : BT}, tyD d h = some t → isStrD d = true → isB t .str = true := fun {d t} ht hs => by
      cases d <;> simp [tyD, isStrD] at ht hs
      subst ht; rfl
    cases c1 : isStrD x
    · simp -implicitDefEqProofs [h1, u h1 c1, truD]
    · cases c2 : isStrD y
      · simp -implicitDefEqProofs [h1, h2, v h1 c1, u h2 c2, truD]
      · cases c3 : isStrD z
        · simp -implicitDefEqProofs [h1, h2, h3, v h1 c1, v h2 c2, u h3 c3, truD]
        · simp [c1, c2, c3] at c
theorem counts_eq {a b : Int} {h : LH} : L.f__law_counts [.int a, .int b] h = .ok (.bl (decide (a = b))) h := by
  unfold L.f__law_counts
  rw [mkF_eq (by rfl)]
  unfold L.b__law_counts
  simp -implicitDefEqProofs [tyD, isB, truD, dEq_int]
theorem lmark_eq {k t : List Nat} {h : LH} (hl : k.length + t.length ≤ 999999) : L.f__law_mark [.str k, .str t] h = .ok (.str (mkS k t)) h := by
  have a1 : dAdd (.str k) (.str [32]) h = .ok (.str (k ++ [32])) h := dAdd_str (by simp; omega)
  have a2 : dAdd (.str (k ++ [32])) (.str t) h = .ok (.str (k ++ [32] ++ t)) h := dAdd_str (by simp; omega)
  have e : k ++ [32] ++ t = k ++ 32 :: t := by simp
  have d := ldigest_eq (s := k ++ [32] ++ t) (h := h) (by simp; omega)
  rw [e] at d a2
  unfold L.f__law_mark
  rw [mkF_eq (by rfl)]
  unfold L.b__law_mark
  simp -implicitDefEqProofs [S_sp, a1, a2, d, mkS]
theorem allC_lc {z : List Nat} (h : ∀ c ∈ z, LC c) : allC z = true := List.all_eq_true.mpr fun c hc => okC_iff.mpr (h c hc)
theorem word_ok {h : LH} {s : Nat} (st : StrAt h s) : ∃ z h', L.f__law_word [.ref s] h = .ok (.str z) h' ∧ z.length ≤ 60 ∧ allC z = true ∧ SF s h h' := by
  have sk : S "ab 1k" = .str [97, 98, 32, 49, 107] := S_eq "ab 1k"
  obtain ⟨k, h1, e1, k0, k1, F1, _⟩ := take_ok (m := 4) st (by decide) (by decide)
  unfold L.f__law_word
  rw [mkF_eq (by rfl)]
  unfold L.b__law_word
  rw [ev_seq]
  by_cases q : k = 0
  · obtain ⟨z, h2, e2, zl, zc, F2⟩ := string_ok (most := 60) F1.st (by decide) (by decide)
    refine ⟨z, h2, ?_, by omega, allC_lc zc, F1.trans F2⟩
    simp -implicitDefEqProofs [e1, dEq_int, q, e2]
  · obtain ⟨n, h2, e2, n0, n1, F2, _⟩ := take_ok (m := 4) F1.st (by decide) (by decide)
    obtain ⟨z, h3, e3, e3', zl, zc, F3⟩ := joinR_ok (n := n.toNat) (i := 1) (P := fun c => c ∈ [97, 98, 32, 49, 107]) (e := [some (.ref s), none])
      (y := mOp dIx (mC (.str [97, 98, 32, 49, 107])) (mApp L.f__law_take (mCons (mVar 0) (mCons (mC (.int 5)) mNil)))) F2.st (by omega) (fun g j F hj => by
        obtain ⟨ch, w, g2, ew, ei, hmem, G⟩ := pick_ok (cs := [97, 98, 32, 49, 107]) (m := 5) F.st (by decide) (by decide) (by decide)
        exact ⟨ch, g2, by simp -implicitDefEqProofs [ew, ei], hmem, G⟩)
    rw [S_nil] at e3'
    refine ⟨z, h3, ?_, by omega, List.all_eq_true.mpr fun c hc => ?_, (F1.trans F2).trans F3⟩
    · simp -implicitDefEqProofs [e1, dEq_int, q, e2, ev_rng1, show -4611686018427387904 ≤ n ∧ n < 4611686018427387904 from ⟨by omega, by omega⟩, wipeM, sk, S_nil, isStr, e3, e3']
    · have := zc c hc
      simp at this
      rcases this with rfl | rfl | rfl | rfl | rfl <;> decide
end HM
set_option Elab.async false
set_option linter.all false
set_option maxRecDepth 100000
set_option maxHeartbeats 4000000
namespace G
open PySem L2 PySem.Spec PyProof.Rows HM L
def top (i : Nat) : Stmt := PySem.Challenge.pw_sealchart_k13_what_an_office_refuses.main.body.getD i (.Pass ⟨0, 0, 0, 0⟩)
def mt_BadKey : String → Option Bool := fun x => if x = "ChartError" then some false else if x = "BadText" then some false else if x = "BadKey" then some true else none
def mt_BadText : String → Option Bool := fun x => if x = "ChartError" then some false else if x = "BadText" then some true else if x = "BadKey" then some false else none
def mt_ChartError : String → Option Bool := fun x => if x = "ChartError" then some true else if x = "BadText" then some true else if x = "BadKey" then some true else none
def rt : String → Bool := fun x => false
structure Tx (K : PySem.W.Frag) (mg : Str → Option Value) : Prop where
  z_bool : mg "bool" = none
  z_int : mg "int" = none
  z_isinstance : mg "isinstance" = none
  z_len : mg "len" = none
  z_ord : mg "ord" = none
  z_range : mg "range" = none
  z_str : mg "str" = none
  x_ChartError : ∃ C, XC K mg "ChartError" C
  x_BadText : ∃ C, XC K mg "BadText" C
  x_BadKey : ∃ C, XC K mg "BadKey" C
  m_BadKey : MtOk K mg "BadKey" mt_BadKey
  m_BadText : MtOk K mg "BadText" mt_BadText
  m_ChartError : MtOk K mg "ChartError" mt_ChartError
  k_BadKey : KtOk K mg "BadKey" mt_BadKey
  k_BadText : KtOk K mg "BadText" mt_BadText
  k_ChartError : KtOk K mg "ChartError" mt_ChartError
  g_DIGITS : ∃ t, mg "DIGITS" = some (.str "0123456789" t)
  g_DIVISOR : ∃ t, mg "DIVISOR" = some (.int 2361183241434822606617 t)
  g_FACTOR : ∃ t, mg "FACTOR" = some (.int 65599 t)
  g_MOST_NAME : ∃ t, mg "MOST_NAME" = some (.int 12 t)
  f_Seals__marks : FdK K mg "Seals" "_marks"
  gc_BadKey : ∃ C, mg "BadKey" = some (.ref C)
  gc_BadText : ∃ C, mg "BadText" = some (.ref C)
  gc_ChartError : ∃ C, mg "ChartError" = some (.ref C)
  dummy : True
/-! ### digest -/
abbrev st_digest : Stmt := top 3
def N_digest : List Str := ["text", "number", "char"]
/-! ### made_of -/
abbrev st_made_of : Stmt := top 11
def N_made_of : List Str := ["text", "chars", "char"]
/-! ### is_key -/
abbrev st_is_key : Stmt := top 12
def N_is_key : List Str := ["value"]
/-! ### is_printable -/
abbrev st_is_printable : Stmt := top 14
def N_is_printable : List Str := ["value", "char", "code"]
/-! ### mark_of -/
abbrev st_mark_of : Stmt := top 16
def N_mark_of : List Str := ["key", "text"]
/-! ### Seals___init__ -/
abbrev st_Seals___init__ : Stmt := inClass (top 17) 0
def N_Seals___init__ : List Str := ["self"]
/-! ### Seals_make -/
abbrev st_Seals_make : Stmt := inClass (top 17) 1
def N_Seals_make : List Str := ["self", "key", "text", "mark"]
/-! ### Seals_holds -/
abbrev st_Seals_holds : Stmt := inClass (top 17) 2
def N_Seals_holds : List Str := ["self", "key", "text", "mark"]
/-! ### Seals_count -/
abbrev st_Seals_count : Stmt := inClass (top 17) 3
def N_Seals_count : List Str := ["self"]
/-! ### _law_cell -/
abbrev st__law_cell : Stmt := top 19
def N__law_cell : List Str := ["_law_script", "_law_k"]
/-! ### _law_stream -/
abbrev st__law_stream : Stmt := top 20
def N__law_stream : List Str := ["_law_cell_here"]
/-! ### _law_take -/
abbrev st__law_take : Stmt := top 21
def N__law_take : List Str := ["_law_stream_here", "_law_many", "_law_worth"]
/-! ### _law_char -/
abbrev st__law_char : Stmt := top 22
def N__law_char : List Str := ["_law_k", "_law_chars"]
/-! ### _law_string -/
abbrev st__law_string : Stmt := top 23
def N__law_string : List Str := ["_law_stream_here", "_law_most", "_law_size", "_law_k"]
/-! ### _law_digest -/
abbrev st__law_digest : Stmt := top 24
def N__law_digest : List Str := ["_law_text", "_law_number", "_law_char_here", "_law_digits", "_law_k"]
/-! ### _law_says -/
abbrev st__law_says : Stmt := top 25
def N__law_says : List Str := ["_law_actual", "_law_expected"]
/-! ### _law_key -/
abbrev st__law_key : Stmt := top 26
def N__law_key : List Str := ["_law_stream_here", "_law_k"]
/-! ### _law_word -/
abbrev st__law_word : Stmt := top 27
def N__law_word : List Str := ["_law_stream_here", "_law_k"]
/-! ### _law_mark -/
abbrev st__law_mark : Stmt := top 28
def N__law_mark : List Str := ["_law_key_here", "_law_text"]
/-! ### _law_counts -/
abbrev st__law_counts : Stmt := top 29
def N__law_counts : List Str := ["_law_actual", "_law_expected"]
/-! ### _law_refusal -/
abbrev st__law_refusal : Stmt := top 30
def N__law_refusal : List Str := ["_law_office", "_law_key_here", "_law_text", "e"]
def b__law_refusal : MS := (sSeq (sTryM (sExpr (mMeth "Seals" "make" f_Seals_make (mVar 0) (mCons (mVar 1) (mCons (mVar 2) mNil)))) [.nm mt_BadKey 3 (fun x3 p3 => (sRet (mOp dIx (mLst (mCons (mC (.int 1)) (mCons (mC (.int 0)) mNil))) (mApp dInt (mCons (mOr (mExIs2 x3 p3 (mt_BadText x3.cls) (mVar 3)) (mNot (mExIs2 x3 p3 (mt_ChartError x3.cls) (mVar 3)))) mNil))))), .nm mt_BadText 3 (fun x2 p2 => (sRet (mOp dIx (mLst (mCons (mC (.int 2)) (mCons (mC (.int 0)) mNil))) (mApp dInt (mCons (mOr (mExIs2 x2 p2 (mt_BadKey x2.cls) (mVar 3)) (mNot (mExIs2 x2 p2 (mt_ChartError x2.cls) (mVar 3)))) mNil)))))])
    (sRet (mC (.int 3))))
def f__law_refusal : MF := mkF 3 4 b__law_refusal
/-! ### _law_no_key -/
abbrev st__law_no_key : Stmt := top 31
def N__law_no_key : List Str := ["_law_stream_here", "_law_bad"]
/-! ### _law_no_text -/
abbrev st__law_no_text : Stmt := top 32
def N__law_no_text : List Str := ["_law_stream_here", "_law_place", "_law_word_here"]
/-! ### law -/
abbrev st_law : Stmt := top 33
def N_law : List Str := ["_law_script", "_law_stream_here", "_law_office", "_law_pairs", "_law_k", "_law_pair", "_law_key_here", "_law_text", "_law_bad_key", "_law_bad_text"]
def b_law : MS := (sSeq (sSet 1 (mApp f__law_stream (mCons (mApp f__law_cell (mCons (mVar 0) (mCons (mC (.int 0)) mNil))) mNil)))
    (sSeq (sSet 2 (mMake "Seals" f_Seals___init__ mNil))
    (sSeq (sSet 3 (mLst mNil))
    (sSeq (sFor (iRng1M (mCons (mApp f__law_take (mCons (mVar 1) (mCons (mC (.int 4)) mNil))) mNil)) (.nm 4) (sSeq (sSet 5 (mTup (mCons (mApp f__law_key (mCons (mVar 1) mNil)) (mCons (mApp f__law_word (mCons (mVar 1) mNil)) mNil))))
    (sSeq (sExpr (mMeth "Seals" "make" f_Seals_make (mVar 2) (mCons (mOp dIx (mVar 5) (mC (.int 0))) (mCons (mOp dIx (mVar 5) (mC (.int 1))) mNil))))
    (sIf (mTst (mOp dNotInD (mVar 5) (mVar 3))) (sExpr (mMet isLst dAppend (mVar 3) (mCons (mVar 5) mNil))) sNil))))
    (sSeq (sSet 6 (mApp f__law_key (mCons (mVar 1) mNil)))
    (sSeq (sSet 7 (mApp f__law_word (mCons (mVar 1) mNil)))
    (sSeq (sSet 8 (mApp f__law_no_key (mCons (mVar 1) mNil)))
    (sSeq (sSet 9 (mApp f__law_no_text (mCons (mVar 1) mNil)))
    (sSeq (sFor (iRng1M (mCons (mC (.int 2)) mNil)) (.nm 4) (sSeq (sIf (mTOr (mTst (mOp dNe (mApp f__law_refusal (mCons (mVar 2) (mCons (mVar 8) (mCons (mVar 7) mNil)))) (mC (.int 1)))) (mTst (mOp dNe (mApp f__law_refusal (mCons (mVar 2) (mCons (mVar 8) (mCons (mVar 9) mNil)))) (mC (.int 1))))) (sRet (mC (.bl false))) sNil)
    (sSeq (sIf (mTOr (mTst (mOp dNe (mApp f__law_refusal (mCons (mVar 2) (mCons (mVar 6) (mCons (mVar 9) mNil)))) (mC (.int 2)))) (mTNot (mTru (mApp f__law_counts (mCons (mMeth "Seals" "count" f_Seals_count (mVar 2) mNil) (mCons (mApp dLen (mCons (mVar 3) mNil)) mNil)))))) (sRet (mC (.bl false))) sNil)
    (sSeq (sIf (mTNot (mTru (mApp f__law_says (mCons (mMeth "Seals" "holds" f_Seals_holds (mVar 2) (mCons (mVar 6) (mCons (mVar 7) (mCons (mApp f__law_mark (mCons (mVar 6) (mCons (mVar 7) mNil))) mNil)))) (mCons (mOp dInD (mTup (mCons (mVar 6) (mCons (mVar 7) mNil))) (mVar 3)) mNil))))) (sRet (mC (.bl false))) sNil)
    (sSeq (sIf (mTst (mOp dNe (mApp f__law_refusal (mCons (mVar 2) (mCons (mVar 6) (mCons (mVar 7) mNil)))) (mC (.int 3)))) (sRet (mC (.bl false))) sNil)
    (sSeq (sIf (mTst (mOp dNotInD (mTup (mCons (mVar 6) (mCons (mVar 7) mNil))) (mVar 3))) (sExpr (mMet isLst dAppend (mVar 3) (mCons (mTup (mCons (mVar 6) (mCons (mVar 7) mNil))) mNil))) sNil)
    (sIf (mTNot (mTru (mApp f__law_counts (mCons (mMeth "Seals" "count" f_Seals_count (mVar 2) mNil) (mCons (mApp dLen (mCons (mVar 3) mNil)) mNil))))) (sRet (mC (.bl false))) sNil)))))))
    (sRet (mC (.bl true))))))))))))
def f_law : MF := mkF 1 10 b_law
section
variable {P : Program} {w : World} {K : PySem.W.Frag} {mg : Str → Option Value} {base : Heap} {fa : Addr} {fd : FuncData}
theorem sc_digest : FnScope N_digest ["text"] (defScope st_digest) := ⟨rfl, rfl, rfl, by decide +kernel, rfl, by decide +kernel, by decide +kernel⟩
theorem ok_digest (T : Tx K mg) (F : Fun K "digest" "digest" st_digest fa fd) : FnOk P w K mg base (L2.CX P w) 1 fa fd ["text"] (spM K mg f_digest) :=
  okM (N := N_digest) (m := b_digest) F sc_digest fun cdv A outer s H E hr =>
    (qss_cons (qs_set (i := 1) (qe_bin opm_add (qe_callB cm_len (by rfl) T.z_len (by decide +kernel) (qa_cons (qe_var 0) qa_nil)) qe_int) sc_digest.nd rfl (Or.inl rfl))
      (qss_cons (qs_for (t := (.nm 2)) (by exact passes_of rfl) rfl (qi_any (qe_var 0)) (pg_name (i := 2) sc_digest.nd rfl (Or.inl rfl)) (qss_one (qs_set (i := 1) (qe_bin opm_mod (qe_bin opm_add (qe_bin opm_mul (qe_var 1) (qe_globI (by rfl) T.g_FACTOR)) (qe_callB cm_ord (by rfl) T.z_ord (by decide +kernel) (qa_cons (qe_var 2) qa_nil))) (qe_globI (by rfl) T.g_DIVISOR)) sc_digest.nd rfl (Or.inl rfl))))
      (qss_one (qs_ret (qe_hex (qe_var 1))))))
theorem sc_made_of : FnScope N_made_of ["text", "chars"] (defScope st_made_of) := ⟨rfl, rfl, rfl, by decide +kernel, rfl, by decide +kernel, by decide +kernel⟩
theorem ok_made_of (T : Tx K mg) (F : Fun K "made_of" "made_of" st_made_of fa fd) : FnOk P w K mg base (L2.CX P w) 1 fa fd ["text", "chars"] (spM K mg f_made_of) :=
  okM (N := N_made_of) (m := b_made_of) F sc_made_of fun cdv A outer s H E hr =>
    (qss_cons (qs_for (t := (.nm 2)) (by exact passes_of rfl) rfl (qi_any (qe_var 0)) (pg_name (i := 2) sc_made_of.nd rfl (Or.inl rfl)) (qss_one (qs_if (qt_cmp opm_notIn (qe_var 2) (qe_var 1) (by rfl)) (qss_one (qs_ret qe_bl)) qss_nil)))
      (qss_one (qs_ret qe_bl)))
theorem sc_is_key : FnScope N_is_key ["value"] (defScope st_is_key) := ⟨rfl, rfl, rfl, by decide +kernel, rfl, by decide +kernel, by decide +kernel⟩
theorem ok_is_key (T : Tx K mg) (F : Fun K "is_key" "is_key" st_is_key fa fd) (c_made_of : CalM P w K mg base 1 "made_of" f_made_of) : FnOk P w K mg base (L2.CX P w) 2 fa fd ["value"] (spM K mg f_is_key) :=
  okM (N := N_is_key) (m := b_is_key) F sc_is_key fun cdv A outer s H E hr =>
    (qss_cons (qs_if (qt_w (qw_or (qt_not (qt_tru (qe_isi .str (by decide) (qe_var 0) (by rfl) T.z_isinstance (by rfl) T.z_str (by decide +kernel)))) (qw_or1 (qt_not (qt_chain opm_le opm_le qe_int (qe_callB cm_len (by rfl) T.z_len (by decide +kernel) (qa_cons (qe_var 0) qa_nil)) (qe_globI (by rfl) T.g_MOST_NAME) (by with_unfolding_all rfl)))))) (qss_one (qs_ret qe_bl)) qss_nil)
      (qss_one (qs_ret (qe_and (qe_cmp (opm_eq hr.units) (qe_ix (qe_var 0) qe_int (fun _ _ => rfl)) (qe_str (x := "k")) (nomark _)) (qe_one (qe_call c_made_of (hr.mono (by decide)) (by exact takes_of rfl rfl rfl rfl) (by rfl) (qa_cons (qe_sl (qe_var 0) (qo_some qe_int) qo_none) (qa_cons (qe_globS (by rfl) T.g_DIGITS) qa_nil))))))))
theorem sc_is_printable : FnScope N_is_printable ["value"] (defScope st_is_printable) := ⟨rfl, rfl, rfl, by decide +kernel, rfl, by decide +kernel, by decide +kernel⟩
theorem ok_is_printable (T : Tx K mg) (F : Fun K "is_printable" "is_printable" st_is_printable fa fd) : FnOk P w K mg base (L2.CX P w) 1 fa fd ["value"] (spM K mg f_is_printable) :=
  okM (N := N_is_printable) (m := b_is_printable) F sc_is_printable fun cdv A outer s H E hr =>
    (qss_cons (qs_if (qt_not (qt_tru (qe_isi .str (by decide) (qe_var 0) (by rfl) T.z_isinstance (by rfl) T.z_str (by decide +kernel)))) (qss_one (qs_ret qe_bl)) qss_nil)
      (qss_cons (qs_for (t := (.nm 1)) (by exact passes_of rfl) rfl (qi_any (qe_var 0)) (pg_name (i := 1) sc_is_printable.nd rfl (Or.inl rfl)) (qss_cons (qs_set (i := 2) (qe_callB cm_ord (by rfl) T.z_ord (by decide +kernel) (qa_cons (qe_var 1) qa_nil)) sc_is_printable.nd rfl (Or.inl rfl))
      (qss_one (qs_if (qt_w (qw_or (qt_cmp opm_lt (qe_var 2) qe_int (nomark _)) (qw_or (qt_cmp opm_gt (qe_var 2) qe_int (nomark _)) (qw_or1 (qt_cmp (opm_eq hr.units) (qe_var 2) qe_int (nomark _)))))) (qss_one (qs_ret qe_bl)) qss_nil))))
      (qss_one (qs_ret qe_bl))))
theorem sc_mark_of : FnScope N_mark_of ["key", "text"] (defScope st_mark_of) := ⟨rfl, rfl, rfl, by decide +kernel, rfl, by decide +kernel, by decide +kernel⟩
theorem ok_mark_of (T : Tx K mg) (F : Fun K "mark_of" "mark_of" st_mark_of fa fd) (c_digest : CalM P w K mg base 1 "digest" f_digest) : FnOk P w K mg base (L2.CX P w) 2 fa fd ["key", "text"] (spM K mg f_mark_of) :=
  okM (N := N_mark_of) (m := b_mark_of) F sc_mark_of fun cdv A outer s H E hr =>
    (qss_one (qs_ret (qe_call c_digest (hr.mono (by decide)) (by exact takes_of rfl rfl rfl rfl) (by rfl) (qa_cons (qe_bin opm_add (qe_bin opm_add (qe_var 0) (qe_str (x := " "))) (qe_var 1)) qa_nil))))
theorem sc_Seals___init__ : FnScope N_Seals___init__ ["self"] (defScope st_Seals___init__) := ⟨rfl, rfl, rfl, by decide +kernel, rfl, by decide +kernel, by decide +kernel⟩
theorem ok_Seals___init__ (T : Tx K mg) (F : Fun K "__init__" "Seals.__init__" st_Seals___init__ fa fd) : FnOk P w K mg base (L2.CX P w) 1 fa fd ["self"] (spM K mg f_Seals___init__) :=
  okM (N := N_Seals___init__) (m := b_Seals___init__) F sc_Seals___init__ fun cdv A outer s H E hr =>
    (qss_one (qs_fld T.f_Seals__marks (qe_var 0) qe_dictT))
theorem sc_Seals_make : FnScope N_Seals_make ["self", "key", "text"] (defScope st_Seals_make) := ⟨rfl, rfl, rfl, by decide +kernel, rfl, by decide +kernel, by decide +kernel⟩
theorem ok_Seals_make (T : Tx K mg) (F : Fun K "make" "Seals.make" st_Seals_make fa fd) (c_is_key : CalM P w K mg base 2 "is_key" f_is_key) (c_is_printable : CalM P w K mg base 1 "is_printable" f_is_printable) (c_mark_of : CalM P w K mg base 2 "mark_of" f_mark_of) : FnOk P w K mg base (L2.CX P w) 3 fa fd ["self", "key", "text"] (spM K mg f_Seals_make) :=
  okM (N := N_Seals_make) (m := b_Seals_make) F sc_Seals_make fun cdv A outer s H E hr =>
    (qss_cons (qs_if (qt_not (qt_tru (qe_call c_is_key (hr.mono (by decide)) (by exact takes_of rfl rfl rfl rfl) (by rfl) (qa_cons (qe_var 1) qa_nil)))) (qss_one (qs_raise rfl (by exact takes_of rfl rfl rfl rfl) T.x_BadKey.choose_spec (by rfl))) qss_nil)
      (qss_cons (qs_if (qt_not (qt_tru (qe_call c_is_printable (hr.mono (by decide)) (by exact takes_of rfl rfl rfl rfl) (by rfl) (qa_cons (qe_var 2) qa_nil)))) (qss_one (qs_raise rfl (by exact takes_of rfl rfl rfl rfl) T.x_BadText.choose_spec (by rfl))) qss_nil)
      (qss_cons (qs_set (i := 3) (qe_call c_mark_of (hr.mono (by decide)) (by exact takes_of rfl rfl rfl rfl) (by rfl) (qa_cons (qe_var 1) (qa_cons (qe_var 2) qa_nil))) sc_Seals_make.nd rfl (Or.inl rfl))
      (qss_cons (qs_putT (hu_of hr) (qe_fld T.f_Seals__marks (qe_var 0)) (qa_cons (qe_var 1) (qa_cons (qe_var 2) qa_nil)) (qe_var 3))
      (qss_one (qs_ret (qe_var 3)))))))
theorem sc_Seals_holds : FnScope N_Seals_holds ["self", "key", "text", "mark"] (defScope st_Seals_holds) := ⟨rfl, rfl, rfl, by decide +kernel, rfl, by decide +kernel, by decide +kernel⟩
theorem ok_Seals_holds (T : Tx K mg) (F : Fun K "holds" "Seals.holds" st_Seals_holds fa fd) : FnOk P w K mg base (L2.CX P w) 1 fa fd ["self", "key", "text", "mark"] (spM K mg f_Seals_holds) :=
  okM (N := N_Seals_holds) (m := b_Seals_holds) F sc_Seals_holds fun cdv A outer s H E hr =>
    (qss_cons (qs_if (qt_w (qw_or (qt_not (qt_tru (qe_isi .str (by decide) (qe_var 1) (by rfl) T.z_isinstance (by rfl) T.z_str (by decide +kernel)))) (qw_or (qt_not (qt_tru (qe_isi .str (by decide) (qe_var 2) (by rfl) T.z_isinstance (by rfl) T.z_str (by decide +kernel)))) (qw_or1 (qt_not (qt_tru (qe_isi .str (by decide) (qe_var 3) (by rfl) T.z_isinstance (by rfl) T.z_str (by decide +kernel)))))))) (qss_one (qs_ret qe_bl)) qss_nil)
      (qss_cons (qs_if (qt_notInT (hu_of hr) (qa_cons (qe_var 1) (qa_cons (qe_var 2) qa_nil)) (qe_fld T.f_Seals__marks (qe_var 0)) (by rfl)) (qss_one (qs_ret qe_bl)) qss_nil)
      (qss_one (qs_ret (qe_cmp (opm_eq hr.units) (qe_getT (hu_of hr) (qe_fld T.f_Seals__marks (qe_var 0)) (qa_cons (qe_var 1) (qa_cons (qe_var 2) qa_nil)) (fun _ _ => rfl)) (qe_var 3) (nomark _))))))
theorem sc_Seals_count : FnScope N_Seals_count ["self"] (defScope st_Seals_count) := ⟨rfl, rfl, rfl, by decide +kernel, rfl, by decide +kernel, by decide +kernel⟩
theorem ok_Seals_count (T : Tx K mg) (F : Fun K "count" "Seals.count" st_Seals_count fa fd) : FnOk P w K mg base (L2.CX P w) 1 fa fd ["self"] (spM K mg f_Seals_count) :=
  okM (N := N_Seals_count) (m := b_Seals_count) F sc_Seals_count fun cdv A outer s H E hr =>
    (qss_one (qs_ret (qe_callB cm_lenA (by rfl) T.z_len (by decide +kernel) (qa_cons (qe_fld T.f_Seals__marks (qe_var 0)) qa_nil))))
theorem sc__law_cell : FnScope N__law_cell ["_law_script", "_law_k"] (defScope st__law_cell) := ⟨rfl, rfl, rfl, by decide +kernel, rfl, by decide +kernel, by decide +kernel⟩
theorem ok__law_cell (T : Tx K mg) (F : Fun K "_law_cell" "_law_cell" st__law_cell fa fd) : FnOk P w K mg base (L2.CX P w) 1 fa fd ["_law_script", "_law_k"] (spM K mg f__law_cell) :=
  okM (N := N__law_cell) (m := b__law_cell) F sc__law_cell fun cdv A outer s H E hr =>
    (qss_cons (qs_if (qt_cmp opm_lt (qe_var 1) (qe_callB cm_len (by rfl) T.z_len (by decide +kernel) (qa_cons (qe_var 0) qa_nil)) (nomark _)) (qss_one (qs_ret (qe_ix (qe_var 0) (qe_var 1) (fun _ _ => rfl)))) qss_nil)
      (qss_one (qs_ret qe_int)))
theorem sc__law_stream : FnScope N__law_stream ["_law_cell_here"] (defScope st__law_stream) := ⟨rfl, rfl, rfl, by decide +kernel, rfl, by decide +kernel, by decide +kernel⟩
theorem ok__law_stream (T : Tx K mg) (F : Fun K "_law_stream" "_law_stream" st__law_stream fa fd) : FnOk P w K mg base (L2.CX P w) 1 fa fd ["_law_cell_here"] (spM K mg f__law_stream) :=
  okM (N := N__law_stream) (m := b__law_stream) F sc__law_stream fun cdv A outer s H E hr =>
    (qss_cons (qs_if (qt_cmp opm_ge (qe_var 0) (qe_bin opm_pow qe_int qe_int) (nomark _)) (qss_one (qs_ret (qe_lst (qa_cons (qe_var 0) (qa_cons qe_int qa_nil))))) qss_nil)
      (qss_one (qs_ret (qe_lst (qa_cons qe_int (qa_cons (qe_var 0) qa_nil))))))
theorem sc__law_take : FnScope N__law_take ["_law_stream_here", "_law_many"] (defScope st__law_take) := ⟨rfl, rfl, rfl, by decide +kernel, rfl, by decide +kernel, by decide +kernel⟩
theorem ok__law_take (T : Tx K mg) (F : Fun K "_law_take" "_law_take" st__law_take fa fd) : FnOk P w K mg base (L2.CX P w) 1 fa fd ["_law_stream_here", "_law_many"] (spM K mg f__law_take) :=
  okM (N := N__law_take) (m := b__law_take) F sc__law_take fun cdv A outer s H E hr =>
    (qss_cons (qs_if (qt_cmp opm_gt (qe_ix (qe_var 0) qe_int (fun _ _ => rfl)) qe_int (nomark _)) (qss_cons (qs_set (i := 2) (qe_bin opm_mod (qe_callTy cm_int (by rfl) T.z_int (by decide +kernel) (qa_cons (qe_ix (qe_var 0) qe_int (fun _ _ => rfl)) qa_nil)) (qe_var 1)) sc__law_take.nd rfl (Or.inl rfl))
      (qss_cons (qs_setL (qe_bin opm_div (qe_ix (qe_var 0) qe_int (fun _ _ => rfl)) (qe_var 1)) (qe_var 0) qe_int)
      (qss_one (qs_ret (qe_var 2))))) qss_nil)
      (qss_cons (qs_setL (qe_bin opm_mod (qe_callTy cm_int (by rfl) T.z_int (by decide +kernel) (qa_cons (qe_bin opm_add (qe_bin opm_mul (qe_ix (qe_var 0) qe_int (fun _ _ => rfl)) qe_int) qe_int) qa_nil)) qe_int) (qe_var 0) qe_int)
      (qss_one (qs_ret (qe_bin opm_mod (qe_callTy cm_int (by rfl) T.z_int (by decide +kernel) (qa_cons (qe_bin opm_add (qe_bin opm_div (qe_bin opm_mul (qe_ix (qe_var 0) qe_int (fun _ _ => rfl)) (qe_ix (qe_var 0) qe_int (fun _ _ => rfl))) qe_int) (qe_bin opm_div (qe_ix (qe_var 0) qe_int (fun _ _ => rfl)) qe_int)) qa_nil)) (qe_var 1))))))
theorem sc__law_char : FnScope N__law_char ["_law_k"] (defScope st__law_char) := ⟨rfl, rfl, rfl, by decide +kernel, rfl, by decide +kernel, by decide +kernel⟩
theorem ok__law_char (T : Tx K mg) (F : Fun K "_law_char" "_law_char" st__law_char fa fd) : FnOk P w K mg base (L2.CX P w) 1 fa fd ["_law_k"] (spM K mg f__law_char) :=
  okM (N := N__law_char) (m := b__law_char) F sc__law_char fun cdv A outer s H E hr =>
    (qss_cons (qs_set (i := 1) (qe_str (x := " !\"#$&'()*+,-./0123456789:;<=>?@ABCDEFGHIJKLMNOPQRSTUVWXYZ[\\]^_`")) sc__law_char.nd rfl (Or.inl rfl))
      (qss_cons (qs_set (i := 1) (qe_bin opm_add (qe_var 1) (qe_str (x := "abcdefghijklmnopqrstuvwxyz{|}~"))) sc__law_char.nd rfl (Or.inl rfl))
      (qss_one (qs_ret (qe_ix (qe_var 1) (qe_var 0) (fun _ _ => rfl))))))
theorem sc__law_string : FnScope N__law_string ["_law_stream_here", "_law_most"] (defScope st__law_string) := ⟨rfl, rfl, rfl, by decide +kernel, rfl, by decide +kernel, by decide +kernel⟩
theorem ok__law_string (T : Tx K mg) (F : Fun K "_law_string" "_law_string" st__law_string fa fd) (c__law_char : CalM P w K mg base 1 "_law_char" f__law_char) (c__law_take : CalM P w K mg base 1 "_law_take" f__law_take) : FnOk P w K mg base (L2.CX P w) 2 fa fd ["_law_stream_here", "_law_most"] (spM K mg f__law_string) :=
  okM (N := N__law_string) (m := b__law_string) F sc__law_string fun cdv A outer s H E hr =>
    (qss_cons (qs_set (i := 2) (qe_call c__law_take (hr.mono (by decide)) (by exact takes_of rfl rfl rfl rfl) (by rfl) (qa_cons (qe_var 0) (qa_cons (qe_bin opm_add (qe_var 1) qe_int) qa_nil))) sc__law_string.nd rfl (Or.inl rfl))
      (qss_one (qs_ret (qe_join (qe_str (x := "")) (qe_lc (t := (.nm 3)) (own := [("_law_k", 3)]) (by decide) rfl sc__law_string.nd (qi_range1 (by rfl) T.z_range (qa_cons (qe_var 2) qa_nil)) (blkOk_by (own := [("_law_k", 3)]) (N := N__law_string) (sc := defScope st__law_string) (by decide +kernel)) (fun _ _ _ _ _ => (pg_name (i := 3) sc__law_string.nd rfl (Or.inl rfl))) (fun _ _ _ _ _ => qts_nil) (fun _ _ _ _ _ => (qe_call c__law_char (hr.mono (by decide)) takes0 (by rfl) (qa_cons (qe_call c__law_take (hr.mono (by decide)) takes0 (by rfl) (qa_cons (qe_var 0) (qa_cons qe_int qa_nil))) qa_nil))))))))
theorem sc__law_digest : FnScope N__law_digest ["_law_text"] (defScope st__law_digest) := ⟨rfl, rfl, rfl, by decide +kernel, rfl, by decide +kernel, by decide +kernel⟩
theorem ok__law_digest (T : Tx K mg) (F : Fun K "_law_digest" "_law_digest" st__law_digest fa fd) : FnOk P w K mg base (L2.CX P w) 1 fa fd ["_law_text"] (spM K mg f__law_digest) :=
  okM (N := N__law_digest) (m := b__law_digest) F sc__law_digest fun cdv A outer s H E hr =>
    (qss_cons (qs_set (i := 1) (qe_bin opm_add (qe_callB cm_len (by rfl) T.z_len (by decide +kernel) (qa_cons (qe_var 0) qa_nil)) qe_int) sc__law_digest.nd rfl (Or.inl rfl))
      (qss_cons (qs_for (t := (.nm 2)) (by exact passes_of rfl) rfl (qi_any (qe_var 0)) (pg_name (i := 2) sc__law_digest.nd rfl (Or.inl rfl)) (qss_one (qs_set (i := 1) (qe_bin opm_add (qe_bin opm_mul (qe_var 1) qe_int) (qe_callB cm_ord (by rfl) T.z_ord (by decide +kernel) (qa_cons (qe_var 2) qa_nil))) sc__law_digest.nd rfl (Or.inl rfl))))
      (qss_cons (qs_set (i := 1) (qe_bin opm_mod (qe_callTy cm_int (by rfl) T.z_int (by decide +kernel) (qa_cons (qe_var 1) qa_nil)) (qe_bin opm_sub (qe_bin opm_mul (qe_bin opm_pow qe_int qe_int) qe_int) qe_int)) sc__law_digest.nd rfl (Or.inl rfl))
      (qss_cons (qs_set (i := 3) (qe_str (x := "")) sc__law_digest.nd rfl (Or.inl rfl))
      (qss_cons (qs_for (t := (.nm 4)) (by exact passes_of rfl) rfl (qi_range1 (by rfl) T.z_range (qa_cons qe_int qa_nil)) (pg_name (i := 4) sc__law_digest.nd rfl (Or.inl rfl)) (qss_cons (qs_set (i := 3) (qe_bin opm_add (qe_ix (qe_str (x := "0123456789abcdef")) (qe_bin opm_mod (qe_callTy cm_int (by rfl) T.z_int (by decide +kernel) (qa_cons (qe_var 1) qa_nil)) qe_int) (fun _ _ => rfl)) (qe_var 3)) sc__law_digest.nd rfl (Or.inl rfl))
      (qss_one (qs_set (i := 1) (qe_bin opm_div (qe_var 1) qe_int) sc__law_digest.nd rfl (Or.inl rfl)))))
      (qss_one (qs_ret (qe_var 3))))))))
theorem sc__law_says : FnScope N__law_says ["_law_actual", "_law_expected"] (defScope st__law_says) := ⟨rfl, rfl, rfl, by decide +kernel, rfl, by decide +kernel, by decide +kernel⟩
theorem ok__law_says (T : Tx K mg) (F : Fun K "_law_says" "_law_says" st__law_says fa fd) : FnOk P w K mg base (L2.CX P w) 1 fa fd ["_law_actual", "_law_expected"] (spM K mg f__law_says) :=
  okM (N := N__law_says) (m := b__law_says) F sc__law_says fun cdv A outer s H E hr =>
    (qss_one (qs_ret (qe_and (qe_isi .bool (by decide) (qe_var 0) (by rfl) T.z_isinstance (by rfl) T.z_bool (by decide +kernel)) (qe_one (qe_cmp (opm_eq hr.units) (qe_var 0) (qe_var 1) (nomark _))))))
theorem sc__law_key : FnScope N__law_key ["_law_stream_here"] (defScope st__law_key) := ⟨rfl, rfl, rfl, by decide +kernel, rfl, by decide +kernel, by decide +kernel⟩
theorem ok__law_key (T : Tx K mg) (F : Fun K "_law_key" "_law_key" st__law_key fa fd) (c__law_take : CalM P w K mg base 1 "_law_take" f__law_take) : FnOk P w K mg base (L2.CX P w) 2 fa fd ["_law_stream_here"] (spM K mg f__law_key) :=
  okM (N := N__law_key) (m := b__law_key) F sc__law_key fun cdv A outer s H E hr =>
    (qss_cons (qs_if (qt_cmp opm_gt (qe_call c__law_take (hr.mono (by decide)) (by exact takes_of rfl rfl rfl rfl) (by rfl) (qa_cons (qe_var 0) (qa_cons qe_int qa_nil))) qe_int (nomark _)) (qss_one (qs_ret (qe_bin opm_add (qe_str (x := "k")) (qe_ix (qe_lst (qa_cons (qe_str (x := "0")) (qa_cons (qe_str (x := "1")) (qa_cons (qe_str (x := "2")) (qa_cons (qe_str (x := "00")) (qa_cons (qe_str (x := "10")) (qa_cons (qe_str (x := "7")) qa_nil))))))) (qe_call c__law_take (hr.mono (by decide)) (by exact takes_of rfl rfl rfl rfl) (by rfl) (qa_cons (qe_var 0) (qa_cons qe_int qa_nil))) (fun _ _ => rfl))))) qss_nil)
      (qss_one (qs_ret (qe_bin opm_add (qe_str (x := "k")) (qe_join (qe_str (x := "")) (qe_lc (t := (.nm 1)) (own := [("_law_k", 1)]) (by decide) rfl sc__law_key.nd (qi_range1 (by rfl) T.z_range (qa_cons (qe_bin opm_add qe_int (qe_call c__law_take (hr.mono (by decide)) (by exact takes_of rfl rfl rfl rfl) (by rfl) (qa_cons (qe_var 0) (qa_cons qe_int qa_nil)))) qa_nil)) (blkOk_by (own := [("_law_k", 1)]) (N := N__law_key) (sc := defScope st__law_key) (by decide +kernel)) (fun _ _ _ _ _ => (pg_name (i := 1) sc__law_key.nd rfl (Or.inl rfl))) (fun _ _ _ _ _ => qts_nil) (fun _ _ _ _ _ => (qe_ix (qe_str (x := "0123456789")) (qe_call c__law_take (hr.mono (by decide)) takes0 (by rfl) (qa_cons (qe_var 0) (qa_cons qe_int qa_nil))) (fun _ _ => rfl)))))))))
theorem sc__law_word : FnScope N__law_word ["_law_stream_here"] (defScope st__law_word) := ⟨rfl, rfl, rfl, by decide +kernel, rfl, by decide +kernel, by decide +kernel⟩
theorem ok__law_word (T : Tx K mg) (F : Fun K "_law_word" "_law_word" st__law_word fa fd) (c__law_string : CalM P w K mg base 2 "_law_string" f__law_string) (c__law_take : CalM P w K mg base 1 "_law_take" f__law_take) : FnOk P w K mg base (L2.CX P w) 3 fa fd ["_law_stream_here"] (spM K mg f__law_word) :=
  okM (N := N__law_word) (m := b__law_word) F sc__law_word fun cdv A outer s H E hr =>
    (qss_cons (qs_if (qt_cmp (opm_eq hr.units) (qe_call c__law_take (hr.mono (by decide)) (by exact takes_of rfl rfl rfl rfl) (by rfl) (qa_cons (qe_var 0) (qa_cons qe_int qa_nil))) qe_int (nomark _)) (qss_one (qs_ret (qe_call c__law_string (hr.mono (by decide)) (by exact takes_of rfl rfl rfl rfl) (by rfl) (qa_cons (qe_var 0) (qa_cons qe_int qa_nil))))) qss_nil)
      (qss_one (qs_ret (qe_join (qe_str (x := "")) (qe_lc (t := (.nm 1)) (own := [("_law_k", 1)]) (by decide) rfl sc__law_word.nd (qi_range1 (by rfl) T.z_range (qa_cons (qe_call c__law_take (hr.mono (by decide)) (by exact takes_of rfl rfl rfl rfl) (by rfl) (qa_cons (qe_var 0) (qa_cons qe_int qa_nil))) qa_nil)) (blkOk_by (own := [("_law_k", 1)]) (N := N__law_word) (sc := defScope st__law_word) (by decide +kernel)) (fun _ _ _ _ _ => (pg_name (i := 1) sc__law_word.nd rfl (Or.inl rfl))) (fun _ _ _ _ _ => qts_nil) (fun _ _ _ _ _ => (qe_ix (qe_str (x := "ab 1k")) (qe_call c__law_take (hr.mono (by decide)) takes0 (by rfl) (qa_cons (qe_var 0) (qa_cons qe_int qa_nil))) (fun _ _ => rfl))))))))
theorem sc__law_mark : FnScope N__law_mark ["_law_key_here", "_law_text"] (defScope st__law_mark) := ⟨rfl, rfl, rfl, by decide +kernel, rfl, by decide +kernel, by decide +kernel⟩
theorem ok__law_mark (T : Tx K mg) (F : Fun K "_law_mark" "_law_mark" st__law_mark fa fd) (c__law_digest : CalM P w K mg base 1 "_law_digest" f__law_digest) : FnOk P w K mg base (L2.CX P w) 2 fa fd ["_law_key_here", "_law_text"] (spM K mg f__law_mark) :=
  okM (N := N__law_mark) (m := b__law_mark) F sc__law_mark fun cdv A outer s H E hr =>
    (qss_one (qs_ret (qe_call c__law_digest (hr.mono (by decide)) (by exact takes_of rfl rfl rfl rfl) (by rfl) (qa_cons (qe_bin opm_add (qe_bin opm_add (qe_var 0) (qe_str (x := " "))) (qe_var 1)) qa_nil))))
theorem sc__law_counts : FnScope N__law_counts ["_law_actual", "_law_expected"] (defScope st__law_counts) := ⟨rfl, rfl, rfl, by decide +kernel, rfl, by decide +kernel, by decide +kernel⟩
theorem ok__law_counts (T : Tx K mg) (F : Fun K "_law_counts" "_law_counts" st__law_counts fa fd) : FnOk P w K mg base (L2.CX P w) 1 fa fd ["_law_actual", "_law_expected"] (spM K mg f__law_counts) :=
  okM (N := N__law_counts) (m := b__law_counts) F sc__law_counts fun cdv A outer s H E hr =>
    (qss_one (qs_ret (qe_and (qe_isi .int (by decide) (qe_var 0) (by rfl) T.z_isinstance (by rfl) T.z_int (by decide +kernel)) (qe_and (qe_not (qe_isi .bool (by decide) (qe_var 0) (by rfl) T.z_isinstance (by rfl) T.z_bool (by decide +kernel))) (qe_one (qe_cmp (opm_eq hr.units) (qe_var 0) (qe_var 1) (nomark _)))))))
theorem sc__law_refusal : FnScope N__law_refusal ["_law_office", "_law_key_here", "_law_text"] (defScope st__law_refusal) := ⟨rfl, rfl, rfl, by decide +kernel, rfl, by decide +kernel, by decide +kernel⟩
theorem ok__law_refusal (T : Tx K mg) (F : Fun K "_law_refusal" "_law_refusal" st__law_refusal fa fd) (c_Seals_make : MeM (L2.CX P w) P w K mg base 3 "Seals" "make" f_Seals_make) : FnOk P w K mg base (L2.CX P w) 4 fa fd ["_law_office", "_law_key_here", "_law_text"] (spM K mg f__law_refusal) :=
  okM (N := N__law_refusal) (m := b__law_refusal) F sc__law_refusal fun cdv A outer s H E hr =>
    (qss_cons (qs_tryM rfl rfl (by exact takes_of rfl rfl rfl rfl) (fun W1 pn1 xe1 tk1 hp1 => (qss_one (qs_expr (qe_meth c_Seals_make (hr.mono (by decide)) (fun σ => passAt tk1 σ) (qe_var 0) (qa_cons (qe_var 1) (qa_cons (qe_var 2) qa_nil)))))) (QHm.nm (i := 3) sc__law_refusal.nd rfl rfl T.gc_BadKey.choose_spec (by rfl) T.m_BadKey (fun a3 oe3 pn3 x3 C3 d3 su3 => (qss_one (qs_ret (qe_ix (qe_lst (qa_cons qe_int (qa_cons qe_int qa_nil))) (qe_callTy cm_int (by rfl) T.z_int (by decide +kernel) (qa_cons (qe_or (qe_isE2 T.k_BadText su3 (qe_var 3) (by rfl) T.z_isinstance (by rfl) T.gc_BadText) (qe_one (qe_not (qe_isE2 T.k_ChartError su3 (qe_var 3) (by rfl) T.z_isinstance (by rfl) T.gc_ChartError)))) qa_nil)) (fun _ _ => rfl))))) (by intro x; repeat' (first | exact uq_c | exact uq_nil | exact uq_noP | exact uq_isE | exact uq_exF | exact uq_var (by decide) | exact uq_retN | exact uq_sNil | apply uq_ret | apply uq_expr | apply uq_set (by decide) | apply uq_if | apply uq_seq | apply uq_and | apply uq_or | apply uq_not | apply uq_op | apply uq_un | apply uq_cons | apply uq_app | apply uq_meth | apply uq_tup | apply uq_lst | apply uq_tst | apply uq_tru | apply uq_tNot | apply uq_tAnd | apply uq_tOr | apply uq_isI)) (QHm.nm (i := 3) sc__law_refusal.nd rfl rfl T.gc_BadText.choose_spec (by rfl) T.m_BadText (fun a2 oe2 pn2 x2 C2 d2 su2 => (qss_one (qs_ret (qe_ix (qe_lst (qa_cons qe_int (qa_cons qe_int qa_nil))) (qe_callTy cm_int (by rfl) T.z_int (by decide +kernel) (qa_cons (qe_or (qe_isE2 T.k_BadKey su2 (qe_var 3) (by rfl) T.z_isinstance (by rfl) T.gc_BadKey) (qe_one (qe_not (qe_isE2 T.k_ChartError su2 (qe_var 3) (by rfl) T.z_isinstance (by rfl) T.gc_ChartError)))) qa_nil)) (fun _ _ => rfl))))) (by intro x; repeat' (first | exact uq_c | exact uq_nil | exact uq_noP | exact uq_isE | exact uq_exF | exact uq_var (by decide) | exact uq_retN | exact uq_sNil | apply uq_ret | apply uq_expr | apply uq_set (by decide) | apply uq_if | apply uq_seq | apply uq_and | apply uq_or | apply uq_not | apply uq_op | apply uq_un | apply uq_cons | apply uq_app | apply uq_meth | apply uq_tup | apply uq_lst | apply uq_tst | apply uq_tru | apply uq_tNot | apply uq_tAnd | apply uq_tOr | apply uq_isI)) QHm.nil)))
      (qss_one (qs_ret qe_int)))
theorem sc__law_no_key : FnScope N__law_no_key ["_law_stream_here"] (defScope st__law_no_key) := ⟨rfl, rfl, rfl, by decide +kernel, rfl, by decide +kernel, by decide +kernel⟩
theorem ok__law_no_key (T : Tx K mg) (F : Fun K "_law_no_key" "_law_no_key" st__law_no_key fa fd) (c__law_take : CalM P w K mg base 1 "_law_take" f__law_take) : FnOk P w K mg base (L2.CX P w) 2 fa fd ["_law_stream_here"] (spM K mg f__law_no_key) :=
  okM (N := N__law_no_key) (m := b__law_no_key) F sc__law_no_key fun cdv A outer s H E hr =>
    (qss_cons (qs_set (i := 1) (qe_lst (qa_cons (qe_str (x := "")) (qa_cons (qe_str (x := "k")) (qa_cons (qe_str (x := "K1")) (qa_cons (qe_str (x := "1k")) (qa_cons (qe_str (x := "k1 ")) (qa_cons (qe_str (x := " k1")) (qa_cons (qe_str (x := "kk1")) (qa_cons (qe_str (x := "k1a")) (qa_cons (qe_str (x := "k1\n")) (qa_cons (qe_str (x := "k-1")) (qa_cons (qe_str (x := "k1.0")) (qa_cons (qe_str (x := "j1")) (qa_cons (qe_str (x := "k0123456789012")) qa_nil)))))))))))))) sc__law_no_key.nd rfl (Or.inl rfl))
      (qss_cons (qs_set (i := 1) (qe_bin opm_add (qe_var 1) (qe_lst (qa_cons qe_non (qa_cons qe_int (qa_cons qe_bl (qa_cons (qe_lst (qa_cons (qe_str (x := "k1")) qa_nil)) (qa_cons (qe_tup (qa_cons (qe_str (x := "k1")) qa_nil)) qa_nil))))))) sc__law_no_key.nd rfl (Or.inl rfl))
      (qss_one (qs_ret (qe_ix (qe_var 1) (qe_call c__law_take (hr.mono (by decide)) (by exact takes_of rfl rfl rfl rfl) (by rfl) (qa_cons (qe_var 0) (qa_cons qe_int qa_nil))) (fun _ _ => rfl))))))
theorem sc__law_no_text : FnScope N__law_no_text ["_law_stream_here"] (defScope st__law_no_text) := ⟨rfl, rfl, rfl, by decide +kernel, rfl, by decide +kernel, by decide +kernel⟩
theorem ok__law_no_text (T : Tx K mg) (F : Fun K "_law_no_text" "_law_no_text" st__law_no_text fa fd) (c__law_take : CalM P w K mg base 1 "_law_take" f__law_take) : FnOk P w K mg base (L2.CX P w) 2 fa fd ["_law_stream_here"] (spM K mg f__law_no_text) :=
  okM (N := N__law_no_text) (m := b__law_no_text) F sc__law_no_text fun cdv A outer s H E hr =>
    (qss_cons (qs_set (i := 1) (qe_call c__law_take (hr.mono (by decide)) (by exact takes_of rfl rfl rfl rfl) (by rfl) (qa_cons (qe_var 0) (qa_cons qe_int qa_nil))) sc__law_no_text.nd rfl (Or.inl rfl))
      (qss_cons (qs_set (i := 2) (qe_str (x := "abc")) sc__law_no_text.nd rfl (Or.inl rfl))
      (qss_one (qs_ret (qe_ix (qe_lst (qa_cons (qe_bin opm_add (qe_bin opm_add (qe_sl (qe_var 2) qo_none (qo_some (qe_var 1))) (qe_str (x := "\n"))) (qe_sl (qe_var 2) (qo_some (qe_var 1)) qo_none)) (qa_cons (qe_bin opm_add (qe_sl (qe_var 2) qo_none (qo_some (qe_var 1))) (qe_str (x := "\t"))) (qa_cons qe_non (qa_cons qe_int (qa_cons (qe_lst (qa_cons (qe_var 2) qa_nil)) (qa_cons (qe_tup (qa_cons (qe_var 2) qa_nil)) (qa_cons qe_bl qa_nil)))))))) (qe_call c__law_take (hr.mono (by decide)) (by exact takes_of rfl rfl rfl rfl) (by rfl) (qa_cons (qe_var 0) (qa_cons qe_int qa_nil))) (fun _ _ => rfl))))))
theorem sc_law : FnScope N_law ["_law_script"] (defScope st_law) := ⟨rfl, rfl, rfl, by decide +kernel, rfl, by decide +kernel, by decide +kernel⟩
theorem ok_law (T : Tx K mg) (F : Fun K "law" "law" st_law fa fd) (c_Seals___init__ : MkM (L2.CX P w) P w K mg base 1 "Seals" f_Seals___init__) (c_Seals_count : MeM (L2.CX P w) P w K mg base 1 "Seals" "count" f_Seals_count) (c_Seals_holds : MeM (L2.CX P w) P w K mg base 1 "Seals" "holds" f_Seals_holds) (c_Seals_make : MeM (L2.CX P w) P w K mg base 3 "Seals" "make" f_Seals_make) (c__law_cell : CalM P w K mg base 1 "_law_cell" f__law_cell) (c__law_counts : CalM P w K mg base 1 "_law_counts" f__law_counts) (c__law_key : CalM P w K mg base 2 "_law_key" f__law_key) (c__law_mark : CalM P w K mg base 2 "_law_mark" f__law_mark) (c__law_no_key : CalM P w K mg base 2 "_law_no_key" f__law_no_key) (c__law_no_text : CalM P w K mg base 2 "_law_no_text" f__law_no_text) (c__law_refusal : CalM P w K mg base 4 "_law_refusal" f__law_refusal) (c__law_says : CalM P w K mg base 1 "_law_says" f__law_says) (c__law_stream : CalM P w K mg base 1 "_law_stream" f__law_stream) (c__law_take : CalM P w K mg base 1 "_law_take" f__law_take) (c__law_word : CalM P w K mg base 3 "_law_word" f__law_word) : FnOk P w K mg base (L2.CX P w) 5 fa fd ["_law_script"] (spM K mg f_law) :=
  okM (N := N_law) (m := b_law) F sc_law fun cdv A outer s H E hr =>
    (qss_cons (qs_set (i := 1) (qe_call c__law_stream (hr.mono (by decide)) (by exact takes_of rfl rfl rfl rfl) (by rfl) (qa_cons (qe_call c__law_cell (hr.mono (by decide)) (by exact takes_of rfl rfl rfl rfl) (by rfl) (qa_cons (qe_var 0) (qa_cons qe_int qa_nil))) qa_nil)) sc_law.nd rfl (Or.inl rfl))
      (qss_cons (qs_set (i := 2) (qe_make0 c_Seals___init__ (hr.mono (by decide)) (fun σ => passAt (by exact takes_of rfl rfl rfl rfl) σ) (by rfl)) sc_law.nd rfl (Or.inl rfl))
      (qss_cons (qs_set (i := 3) (qe_lst qa_nil) sc_law.nd rfl (Or.inl rfl))
      (qss_cons (qs_for (t := (.nm 4)) (by exact passes_of rfl) rfl (qi_range1 (by rfl) T.z_range (qa_cons (qe_call c__law_take (hr.mono (by decide)) (by exact takes_of rfl rfl rfl rfl) (by rfl) (qa_cons (qe_var 1) (qa_cons qe_int qa_nil))) qa_nil)) (pg_name (i := 4) sc_law.nd rfl (Or.inl rfl)) (qss_cons (qs_set (i := 5) (qe_tup (qa_cons (qe_call c__law_key (hr.mono (by decide)) (by exact takes_of rfl rfl rfl rfl) (by rfl) (qa_cons (qe_var 1) qa_nil)) (qa_cons (qe_call c__law_word (hr.mono (by decide)) (by exact takes_of rfl rfl rfl rfl) (by rfl) (qa_cons (qe_var 1) qa_nil)) qa_nil))) sc_law.nd rfl (Or.inl rfl))
      (qss_cons (qs_expr (qe_meth c_Seals_make (hr.mono (by decide)) (fun σ => passAt (by exact takes_of rfl rfl rfl rfl) σ) (qe_var 2) (qa_cons (qe_ix (qe_var 5) qe_int (fun _ _ => rfl)) (qa_cons (qe_ix (qe_var 5) qe_int (fun _ _ => rfl)) qa_nil))))
      (qss_one (qs_if (qt_cmp (opm_notInD (hu65 hr)) (qe_var 5) (qe_var 3) (by rfl)) (qss_one (qs_expr (qe_append (qe_var 3) (qe_var 5)))) qss_nil)))))
      (qss_cons (qs_set (i := 6) (qe_call c__law_key (hr.mono (by decide)) (by exact takes_of rfl rfl rfl rfl) (by rfl) (qa_cons (qe_var 1) qa_nil)) sc_law.nd rfl (Or.inl rfl))
      (qss_cons (qs_set (i := 7) (qe_call c__law_word (hr.mono (by decide)) (by exact takes_of rfl rfl rfl rfl) (by rfl) (qa_cons (qe_var 1) qa_nil)) sc_law.nd rfl (Or.inl rfl))
      (qss_cons (qs_set (i := 8) (qe_call c__law_no_key (hr.mono (by decide)) (by exact takes_of rfl rfl rfl rfl) (by rfl) (qa_cons (qe_var 1) qa_nil)) sc_law.nd rfl (Or.inl rfl))
      (qss_cons (qs_set (i := 9) (qe_call c__law_no_text (hr.mono (by decide)) (by exact takes_of rfl rfl rfl rfl) (by rfl) (qa_cons (qe_var 1) qa_nil)) sc_law.nd rfl (Or.inl rfl))
      (qss_cons (qs_for (t := (.nm 4)) (by exact passes_of rfl) rfl (qi_range1 (by rfl) T.z_range (qa_cons qe_int qa_nil)) (pg_name (i := 4) sc_law.nd rfl (Or.inl rfl)) (qss_cons (qs_if (qt_w (qw_or (qt_cmp (opm_ne hr.units) (qe_call c__law_refusal (hr.mono (by decide)) (by exact takes_of rfl rfl rfl rfl) (by rfl) (qa_cons (qe_var 2) (qa_cons (qe_var 8) (qa_cons (qe_var 7) qa_nil)))) qe_int (nomark _)) (qw_or1 (qt_cmp (opm_ne hr.units) (qe_call c__law_refusal (hr.mono (by decide)) (by exact takes_of rfl rfl rfl rfl) (by rfl) (qa_cons (qe_var 2) (qa_cons (qe_var 8) (qa_cons (qe_var 9) qa_nil)))) qe_int (nomark _))))) (qss_one (qs_ret qe_bl)) qss_nil)
      (qss_cons (qs_if (qt_w (qw_or (qt_cmp (opm_ne hr.units) (qe_call c__law_refusal (hr.mono (by decide)) (by exact takes_of rfl rfl rfl rfl) (by rfl) (qa_cons (qe_var 2) (qa_cons (qe_var 6) (qa_cons (qe_var 9) qa_nil)))) qe_int (nomark _)) (qw_or1 (qt_not (qt_tru (qe_call c__law_counts (hr.mono (by decide)) (by exact takes_of rfl rfl rfl rfl) (by rfl) (qa_cons (qe_meth0 c_Seals_count (hr.mono (by decide)) (fun σ => passAt (by exact takes_of rfl rfl rfl rfl) σ) (qe_var 2)) (qa_cons (qe_callB cm_len (by rfl) T.z_len (by decide +kernel) (qa_cons (qe_var 3) qa_nil)) qa_nil)))))))) (qss_one (qs_ret qe_bl)) qss_nil)
      (qss_cons (qs_if (qt_not (qt_tru (qe_call c__law_says (hr.mono (by decide)) (by exact takes_of rfl rfl rfl rfl) (by rfl) (qa_cons (qe_meth c_Seals_holds (hr.mono (by decide)) (fun σ => passAt (by exact takes_of rfl rfl rfl rfl) σ) (qe_var 2) (qa_cons (qe_var 6) (qa_cons (qe_var 7) (qa_cons (qe_call c__law_mark (hr.mono (by decide)) (by exact takes_of rfl rfl rfl rfl) (by rfl) (qa_cons (qe_var 6) (qa_cons (qe_var 7) qa_nil))) qa_nil)))) (qa_cons (qe_cmp (opm_inD (hu65 hr)) (qe_tup (qa_cons (qe_var 6) (qa_cons (qe_var 7) qa_nil))) (qe_var 3) (by rfl)) qa_nil))))) (qss_one (qs_ret qe_bl)) qss_nil)
      (qss_cons (qs_if (qt_cmp (opm_ne hr.units) (qe_call c__law_refusal (hr.mono (by decide)) (by exact takes_of rfl rfl rfl rfl) (by rfl) (qa_cons (qe_var 2) (qa_cons (qe_var 6) (qa_cons (qe_var 7) qa_nil)))) qe_int (nomark _)) (qss_one (qs_ret qe_bl)) qss_nil)
      (qss_cons (qs_if (qt_cmp (opm_notInD (hu65 hr)) (qe_tup (qa_cons (qe_var 6) (qa_cons (qe_var 7) qa_nil))) (qe_var 3) (by rfl)) (qss_one (qs_expr (qe_append (qe_var 3) (qe_tup (qa_cons (qe_var 6) (qa_cons (qe_var 7) qa_nil)))))) qss_nil)
      (qss_one (qs_if (qt_not (qt_tru (qe_call c__law_counts (hr.mono (by decide)) (by exact takes_of rfl rfl rfl rfl) (by rfl) (qa_cons (qe_meth0 c_Seals_count (hr.mono (by decide)) (fun σ => passAt (by exact takes_of rfl rfl rfl rfl) σ) (qe_var 2)) (qa_cons (qe_callB cm_len (by rfl) T.z_len (by decide +kernel) (qa_cons (qe_var 3) qa_nil)) qa_nil))))) (qss_one (qs_ret qe_bl)) qss_nil))))))))
      (qss_one (qs_ret qe_bl)))))))))))
end
/-! ### the end -/
theorem all_mk {P : Program} {w : World} {K : PySem.W.Frag} {h : Heap} {mg : Str → Option Value} {fa f0 f1 f2 f3 f4 f5 f6 f7 f8 f9 f10 f11 f12 f13 f14 f15 f16 f17 f18 f19 f20 f21 f22 f23 CChartError CBadText CBadKey KSeals  : Addr} (X : K.In h) (G : h.Ns mainGlobals mg) (hfa : mg "law" = some (.ref fa))
    {od0 an0 od1 an1 od2 an2 od3 an3 od4 an4 od5 an5 od6 an6 od7 an7 od8 an8 od9 an9 od10 an10 od11 an11 od12 an12 od13 an13 od14 an14 od15 an15 od16 an16 od17 an17 od18 an18 od19 an19 od20 an20 od21 an21 od22 an22 od23 an23 : Option Addr} {sl0 sl1 sl2 sl3 sl4 sl5 sl6 sl7 sl8 sl9 sl10 sl11 sl12 sl13 sl14 sl15 sl16 sl17 sl18 sl19 sl20 sl21 sl22 sl23 : Array (Option Value)} {oc0 kV0 dc0 pm0 cd0 ct0 oc1 kV1 dc1 pm1 cd1 ct1 oc2 kV2 dc2 pm2 cd2 ct2 oc3 kV3 dc3 pm3 cd3 ct3 oc4 kV4 dc4 pm4 cd4 ct4 oc5 kV5 dc5 pm5 cd5 ct5 oc6 kV6 dc6 pm6 cd6 ct6 oc7 kV7 dc7 pm7 cd7 ct7 oc8 kV8 dc8 pm8 cd8 ct8 oc9 kV9 dc9 pm9 cd9 ct9 oc10 kV10 dc10 pm10 cd10 ct10 oc11 kV11 dc11 pm11 cd11 ct11 oc12 kV12 dc12 pm12 cd12 ct12 oc13 kV13 dc13 pm13 cd13 ct13 oc14 kV14 dc14 pm14 cd14 ct14 oc15 kV15 dc15 pm15 cd15 ct15 oc16 kV16 dc16 pm16 cd16 ct16 oc17 kV17 dc17 pm17 cd17 ct17 oc18 kV18 dc18 pm18 cd18 ct18 oc19 kV19 dc19 pm19 cd19 ct19 oc20 kV20 dc20 pm20 cd20 ct20 oc21 kV21 dc21 pm21 cd21 ct21 oc22 kV22 dc22 pm22 cd22 ct22 oc23 kV23 dc23 pm23 cd23 ct23 : Value}
    (aCSeals : PySem.W.nsIn K mainGlobals "Seals" = some (some (.ref KSeals))) (pgSeals : PySem.W.plainGet K KSeals Str.empty = true) (hdSeals : PySem.W.hasDictIn K KSeals = true) (poSeals : PySem.W.plainOver K KSeals = true) (saSeals : PySem.W.findIn K (.ref KSeals) "__setattr__" = some (some (.builtin "object.__setattr__")))
    (mkSeals : PySem.W.makesIn K KSeals = true) (kcSeals : PySem.W.keepIn K (.ref KSeals) = true)
    (nSeals__marks : PySem.W.findIn K (.ref KSeals) "_marks" = some none)
    (a0 : PySem.W.nsIn K mainGlobals "digest" = some (some (.ref f0)))
    (l0 : K.lookup f0 = some ⟨oc0, od0, .func (PySem.W.fnOf "digest" "digest" (defArgs st_digest) (defBody st_digest) (defScope st_digest) .none kV0 dc0 pm0 an0 cd0 ct0), sl0⟩) (c0 : PySem.W.codeIn K cd0 "digest" = true) (k0 : PySem.W.keepIn K (.ref f0) = true)
    (a1 : PySem.W.nsIn K mainGlobals "made_of" = some (some (.ref f1)))
    (l1 : K.lookup f1 = some ⟨oc1, od1, .func (PySem.W.fnOf "made_of" "made_of" (defArgs st_made_of) (defBody st_made_of) (defScope st_made_of) .none kV1 dc1 pm1 an1 cd1 ct1), sl1⟩) (c1 : PySem.W.codeIn K cd1 "made_of" = true) (k1 : PySem.W.keepIn K (.ref f1) = true)
    (a2 : PySem.W.nsIn K mainGlobals "is_key" = some (some (.ref f2)))
    (l2 : K.lookup f2 = some ⟨oc2, od2, .func (PySem.W.fnOf "is_key" "is_key" (defArgs st_is_key) (defBody st_is_key) (defScope st_is_key) .none kV2 dc2 pm2 an2 cd2 ct2), sl2⟩) (c2 : PySem.W.codeIn K cd2 "is_key" = true) (k2 : PySem.W.keepIn K (.ref f2) = true)
    (a3 : PySem.W.nsIn K mainGlobals "is_printable" = some (some (.ref f3)))
    (l3 : K.lookup f3 = some ⟨oc3, od3, .func (PySem.W.fnOf "is_printable" "is_printable" (defArgs st_is_printable) (defBody st_is_printable) (defScope st_is_printable) .none kV3 dc3 pm3 an3 cd3 ct3), sl3⟩) (c3 : PySem.W.codeIn K cd3 "is_printable" = true) (k3 : PySem.W.keepIn K (.ref f3) = true)
    (a4 : PySem.W.nsIn K mainGlobals "mark_of" = some (some (.ref f4)))
    (l4 : K.lookup f4 = some ⟨oc4, od4, .func (PySem.W.fnOf "mark_of" "mark_of" (defArgs st_mark_of) (defBody st_mark_of) (defScope st_mark_of) .none kV4 dc4 pm4 an4 cd4 ct4), sl4⟩) (c4 : PySem.W.codeIn K cd4 "mark_of" = true) (k4 : PySem.W.keepIn K (.ref f4) = true)
    (a5 : PySem.W.findIn K (.ref KSeals) "__init__" = some (some (.ref f5))) (i5 : PySem.W.isFn K (.ref f5) = true)
    (l5 : K.lookup f5 = some ⟨oc5, od5, .func (PySem.W.fnOf "__init__" "Seals.__init__" (defArgs st_Seals___init__) (defBody st_Seals___init__) (defScope st_Seals___init__) .none kV5 dc5 pm5 an5 cd5 ct5), sl5⟩) (c5 : PySem.W.codeIn K cd5 "Seals.__init__" = true) (k5 : PySem.W.keepIn K (.ref f5) = true)
    (a6 : PySem.W.findIn K (.ref KSeals) "make" = some (some (.ref f6))) (i6 : PySem.W.isFn K (.ref f6) = true)
    (l6 : K.lookup f6 = some ⟨oc6, od6, .func (PySem.W.fnOf "make" "Seals.make" (defArgs st_Seals_make) (defBody st_Seals_make) (defScope st_Seals_make) .none kV6 dc6 pm6 an6 cd6 ct6), sl6⟩) (c6 : PySem.W.codeIn K cd6 "Seals.make" = true) (k6 : PySem.W.keepIn K (.ref f6) = true)
    (a7 : PySem.W.findIn K (.ref KSeals) "holds" = some (some (.ref f7))) (i7 : PySem.W.isFn K (.ref f7) = true)
    (l7 : K.lookup f7 = some ⟨oc7, od7, .func (PySem.W.fnOf "holds" "Seals.holds" (defArgs st_Seals_holds) (defBody st_Seals_holds) (defScope st_Seals_holds) .none kV7 dc7 pm7 an7 cd7 ct7), sl7⟩) (c7 : PySem.W.codeIn K cd7 "Seals.holds" = true) (k7 : PySem.W.keepIn K (.ref f7) = true)
    (a8 : PySem.W.findIn K (.ref KSeals) "count" = some (some (.ref f8))) (i8 : PySem.W.isFn K (.ref f8) = true)
    (l8 : K.lookup f8 = some ⟨oc8, od8, .func (PySem.W.fnOf "count" "Seals.count" (defArgs st_Seals_count) (defBody st_Seals_count) (defScope st_Seals_count) .none kV8 dc8 pm8 an8 cd8 ct8), sl8⟩) (c8 : PySem.W.codeIn K cd8 "Seals.count" = true) (k8 : PySem.W.keepIn K (.ref f8) = true)
    (a9 : PySem.W.nsIn K mainGlobals "_law_cell" = some (some (.ref f9)))
    (l9 : K.lookup f9 = some ⟨oc9, od9, .func (PySem.W.fnOf "_law_cell" "_law_cell" (defArgs st__law_cell) (defBody st__law_cell) (defScope st__law_cell) .none kV9 dc9 pm9 an9 cd9 ct9), sl9⟩) (c9 : PySem.W.codeIn K cd9 "_law_cell" = true) (k9 : PySem.W.keepIn K (.ref f9) = true)
    (a10 : PySem.W.nsIn K mainGlobals "_law_stream" = some (some (.ref f10)))
    (l10 : K.lookup f10 = some ⟨oc10, od10, .func (PySem.W.fnOf "_law_stream" "_law_stream" (defArgs st__law_stream) (defBody st__law_stream) (defScope st__law_stream) .none kV10 dc10 pm10 an10 cd10 ct10), sl10⟩) (c10 : PySem.W.codeIn K cd10 "_law_stream" = true) (k10 : PySem.W.keepIn K (.ref f10) = true)
    (a11 : PySem.W.nsIn K mainGlobals "_law_take" = some (some (.ref f11)))
    (l11 : K.lookup f11 = some ⟨oc11, od11, .func (PySem.W.fnOf "_law_take" "_law_take" (defArgs st__law_take) (defBody st__law_take) (defScope st__law_take) .none kV11 dc11 pm11 an11 cd11 ct11), sl11⟩) (c11 : PySem.W.codeIn K cd11 "_law_take" = true) (k11 : PySem.W.keepIn K (.ref f11) = true)
    (a12 : PySem.W.nsIn K mainGlobals "_law_char" = some (some (.ref f12)))
    (l12 : K.lookup f12 = some ⟨oc12, od12, .func (PySem.W.fnOf "_law_char" "_law_char" (defArgs st__law_char) (defBody st__law_char) (defScope st__law_char) .none kV12 dc12 pm12 an12 cd12 ct12), sl12⟩) (c12 : PySem.W.codeIn K cd12 "_law_char" = true) (k12 : PySem.W.keepIn K (.ref f12) = true)
    (a13 : PySem.W.nsIn K mainGlobals "_law_string" = some (some (.ref f13)))
    (l13 : K.lookup f13 = some ⟨oc13, od13, .func (PySem.W.fnOf "_law_string" "_law_string" (defArgs st__law_string) (defBody st__law_string) (defScope st__law_string) .none kV13 dc13 pm13 an13 cd13 ct13), sl13⟩) (c13 : PySem.W.codeIn K cd13 "_law_string" = true) (k13 : PySem.W.keepIn K (.ref f13) = true)
    (a14 : PySem.W.nsIn K mainGlobals "_law_digest" = some (some (.ref f14)))
    (l14 : K.lookup f14 = some ⟨oc14, od14, .func (PySem.W.fnOf "_law_digest" "_law_digest" (defArgs st__law_digest) (defBody st__law_digest) (defScope st__law_digest) .none kV14 dc14 pm14 an14 cd14 ct14), sl14⟩) (c14 : PySem.W.codeIn K cd14 "_law_digest" = true) (k14 : PySem.W.keepIn K (.ref f14) = true)
    (a15 : PySem.W.nsIn K mainGlobals "_law_says" = some (some (.ref f15)))
    (l15 : K.lookup f15 = some ⟨oc15, od15, .func (PySem.W.fnOf "_law_says" "_law_says" (defArgs st__law_says) (defBody st__law_says) (defScope st__law_says) .none kV15 dc15 pm15 an15 cd15 ct15), sl15⟩) (c15 : PySem.W.codeIn K cd15 "_law_says" = true) (k15 : PySem.W.keepIn K (.ref f15) = true)
    (a16 : PySem.W.nsIn K mainGlobals "_law_key" = some (some (.ref f16)))
    (l16 : K.lookup f16 = some ⟨oc16, od16, .func (PySem.W.fnOf "_law_key" "_law_key" (defArgs st__law_key) (defBody st__law_key) (defScope st__law_key) .none kV16 dc16 pm16 an16 cd16 ct16), sl16⟩) (c16 : PySem.W.codeIn K cd16 "_law_key" = true) (k16 : PySem.W.keepIn K (.ref f16) = true)
    (a17 : PySem.W.nsIn K mainGlobals "_law_word" = some (some (.ref f17)))
    (l17 : K.lookup f17 = some ⟨oc17, od17, .func (PySem.W.fnOf "_law_word" "_law_word" (defArgs st__law_word) (defBody st__law_word) (defScope st__law_word) .none kV17 dc17 pm17 an17 cd17 ct17), sl17⟩) (c17 : PySem.W.codeIn K cd17 "_law_word" = true) (k17 : PySem.W.keepIn K (.ref f17) = true)
    (a18 : PySem.W.nsIn K mainGlobals "_law_mark" = some (some (.ref f18)))
    (l18 : K.lookup f18 = some ⟨oc18, od18, .func (PySem.W.fnOf "_law_mark" "_law_mark" (defArgs st__law_mark) (defBody st__law_mark) (defScope st__law_mark) .none kV18 dc18 pm18 an18 cd18 ct18), sl18⟩) (c18 : PySem.W.codeIn K cd18 "_law_mark" = true) (k18 : PySem.W.keepIn K (.ref f18) = true)
    (a19 : PySem.W.nsIn K mainGlobals "_law_counts" = some (some (.ref f19)))
    (l19 : K.lookup f19 = some ⟨oc19, od19, .func (PySem.W.fnOf "_law_counts" "_law_counts" (defArgs st__law_counts) (defBody st__law_counts) (defScope st__law_counts) .none kV19 dc19 pm19 an19 cd19 ct19), sl19⟩) (c19 : PySem.W.codeIn K cd19 "_law_counts" = true) (k19 : PySem.W.keepIn K (.ref f19) = true)
    (a20 : PySem.W.nsIn K mainGlobals "_law_refusal" = some (some (.ref f20)))
    (l20 : K.lookup f20 = some ⟨oc20, od20, .func (PySem.W.fnOf "_law_refusal" "_law_refusal" (defArgs st__law_refusal) (defBody st__law_refusal) (defScope st__law_refusal) .none kV20 dc20 pm20 an20 cd20 ct20), sl20⟩) (c20 : PySem.W.codeIn K cd20 "_law_refusal" = true) (k20 : PySem.W.keepIn K (.ref f20) = true)
    (a21 : PySem.W.nsIn K mainGlobals "_law_no_key" = some (some (.ref f21)))
    (l21 : K.lookup f21 = some ⟨oc21, od21, .func (PySem.W.fnOf "_law_no_key" "_law_no_key" (defArgs st__law_no_key) (defBody st__law_no_key) (defScope st__law_no_key) .none kV21 dc21 pm21 an21 cd21 ct21), sl21⟩) (c21 : PySem.W.codeIn K cd21 "_law_no_key" = true) (k21 : PySem.W.keepIn K (.ref f21) = true)
    (a22 : PySem.W.nsIn K mainGlobals "_law_no_text" = some (some (.ref f22)))
    (l22 : K.lookup f22 = some ⟨oc22, od22, .func (PySem.W.fnOf "_law_no_text" "_law_no_text" (defArgs st__law_no_text) (defBody st__law_no_text) (defScope st__law_no_text) .none kV22 dc22 pm22 an22 cd22 ct22), sl22⟩) (c22 : PySem.W.codeIn K cd22 "_law_no_text" = true) (k22 : PySem.W.keepIn K (.ref f22) = true)
    (a23 : PySem.W.nsIn K mainGlobals "law" = some (some (.ref f23)))
    (l23 : K.lookup f23 = some ⟨oc23, od23, .func (PySem.W.fnOf "law" "law" (defArgs st_law) (defBody st_law) (defScope st_law) .none kV23 dc23 pm23 an23 cd23 ct23), sl23⟩) (c23 : PySem.W.codeIn K cd23 "law" = true) (k23 : PySem.W.keepIn K (.ref f23) = true)
    (e1ChartError : PySem.W.nsIn K mainGlobals "ChartError" = some (some (.ref CChartError))) (e3ChartError : PySem.W.keepIn K (.ref CChartError) = true) (e4ChartError : PySem.W.subIn K (.ref CChartError) (.type "BaseException") = some true) (e5ChartError : PySem.W.typeIn K (.ref CChartError) = some (.type "type"))
    (e1BadText : PySem.W.nsIn K mainGlobals "BadText" = some (some (.ref CBadText))) (e3BadText : PySem.W.keepIn K (.ref CBadText) = true) (e4BadText : PySem.W.subIn K (.ref CBadText) (.type "BaseException") = some true) (e5BadText : PySem.W.typeIn K (.ref CBadText) = some (.type "type"))
    (e1BadKey : PySem.W.nsIn K mainGlobals "BadKey" = some (some (.ref CBadKey))) (e3BadKey : PySem.W.keepIn K (.ref CBadKey) = true) (e4BadKey : PySem.W.subIn K (.ref CBadKey) (.type "BaseException") = some true) (e5BadKey : PySem.W.typeIn K (.ref CBadKey) = some (.type "type"))
    (e2ChartError : PySem.W.excIn K CChartError veB "ValueError.__new__" = true)
    (e2BadText : PySem.W.excIn K CBadText veB "ValueError.__new__" = true)
    (e2BadKey : PySem.W.excIn K CBadKey veB "ValueError.__new__" = true)
    (e6BadKey : PySem.W.isClsIn K CBadKey = true)
    (e7ChartErrorBadKey : PySem.W.subIn K (.ref CChartError) (.ref CBadKey) = some false)
    (e7BadTextBadKey : PySem.W.subIn K (.ref CBadText) (.ref CBadKey) = some false)
    (e7BadKeyBadKey : PySem.W.subIn K (.ref CBadKey) (.ref CBadKey) = some true)
    (e6BadText : PySem.W.isClsIn K CBadText = true)
    (e7ChartErrorBadText : PySem.W.subIn K (.ref CChartError) (.ref CBadText) = some false)
    (e7BadTextBadText : PySem.W.subIn K (.ref CBadText) (.ref CBadText) = some true)
    (e7BadKeyBadText : PySem.W.subIn K (.ref CBadKey) (.ref CBadText) = some false)
    (e6ChartError : PySem.W.isClsIn K CChartError = true)
    (e7ChartErrorChartError : PySem.W.subIn K (.ref CChartError) (.ref CChartError) = some true)
    (e7BadTextChartError : PySem.W.subIn K (.ref CBadText) (.ref CChartError) = some true)
    (e7BadKeyChartError : PySem.W.subIn K (.ref CBadKey) (.ref CChartError) = some true)
    (e91 : PySem.W.specialIn K (.builtin "object.__class__") "__get__" = some (some (.builtin "getset_descriptor.__get__"))) (e92 : PySem.W.takesIn K (.builtin "object.__class__") = some true)
    (e9ChartErrora : PySem.W.findIn K (.ref CChartError) "__getattribute__" = some (some (.builtin "BaseException.__getattribute__"))) (e9ChartErrorb : PySem.W.findIn K (.ref CChartError) "__getattr__" = some none) (e9ChartErrorc : PySem.W.hasDictIn K CChartError = true) (e9ChartErrord : PySem.W.findIn K (.ref CChartError) "__class__" = some (some (.builtin "object.__class__"))) (e9ChartErrore : PySem.W.mroIn K CChartError (.type "object") = some true)
    (e8ChartErrorBadKey : PySem.W.kitOne K (.ref CChartError) (.ref CBadKey) = some false)
    (e8ChartErrorBadText : PySem.W.kitOne K (.ref CChartError) (.ref CBadText) = some false)
    (e8ChartErrorChartError : PySem.W.kitOne K (.ref CChartError) (.ref CChartError) = some true)
    (e9BadTexta : PySem.W.findIn K (.ref CBadText) "__getattribute__" = some (some (.builtin "BaseException.__getattribute__"))) (e9BadTextb : PySem.W.findIn K (.ref CBadText) "__getattr__" = some none) (e9BadTextc : PySem.W.hasDictIn K CBadText = true) (e9BadTextd : PySem.W.findIn K (.ref CBadText) "__class__" = some (some (.builtin "object.__class__"))) (e9BadTexte : PySem.W.mroIn K CBadText (.type "object") = some true)
    (e8BadTextBadKey : PySem.W.kitOne K (.ref CBadText) (.ref CBadKey) = some false)
    (e8BadTextBadText : PySem.W.kitOne K (.ref CBadText) (.ref CBadText) = some true)
    (e8BadTextChartError : PySem.W.kitOne K (.ref CBadText) (.ref CChartError) = some true)
    (e9BadKeya : PySem.W.findIn K (.ref CBadKey) "__getattribute__" = some (some (.builtin "BaseException.__getattribute__"))) (e9BadKeyb : PySem.W.findIn K (.ref CBadKey) "__getattr__" = some none) (e9BadKeyc : PySem.W.hasDictIn K CBadKey = true) (e9BadKeyd : PySem.W.findIn K (.ref CBadKey) "__class__" = some (some (.builtin "object.__class__"))) (e9BadKeye : PySem.W.mroIn K CBadKey (.type "object") = some true)
    (e8BadKeyBadKey : PySem.W.kitOne K (.ref CBadKey) (.ref CBadKey) = some true)
    (e8BadKeyBadText : PySem.W.kitOne K (.ref CBadKey) (.ref CBadText) = some false)
    (e8BadKeyChartError : PySem.W.kitOne K (.ref CBadKey) (.ref CChartError) = some true)
    (z_bool : PySem.W.nsIn K mainGlobals "bool" = some none)
    (z_int : PySem.W.nsIn K mainGlobals "int" = some none)
    (z_isinstance : PySem.W.nsIn K mainGlobals "isinstance" = some none)
    (z_len : PySem.W.nsIn K mainGlobals "len" = some none)
    (z_ord : PySem.W.nsIn K mainGlobals "ord" = some none)
    (z_range : PySem.W.nsIn K mainGlobals "range" = some none)
    (z_str : PySem.W.nsIn K mainGlobals "str" = some none)
    {t_DIGITS : Tok} (g_DIGITS : PySem.W.nsIn K mainGlobals "DIGITS" = some (some (.str "0123456789" t_DIGITS)))
    {t_DIVISOR : Tok} (g_DIVISOR : PySem.W.nsIn K mainGlobals "DIVISOR" = some (some (.int 2361183241434822606617 t_DIVISOR)))
    {t_FACTOR : Tok} (g_FACTOR : PySem.W.nsIn K mainGlobals "FACTOR" = some (some (.int 65599 t_FACTOR)))
    {t_MOST_NAME : Tok} (g_MOST_NAME : PySem.W.nsIn K mainGlobals "MOST_NAME" = some (some (.int 12 t_MOST_NAME)))
    : ∃ fd : FuncData, (∀ (s : Shared) (v : Value), BindsTo s fd ⟨[v], []⟩ [("_law_script", v)]) ∧ ∀ base : Heap, K.In base → base.Ns mainGlobals mg → FnOk P w K mg base (L2.CX P w) 5 fa fd ["_law_script"] (spM K mg f_law) := by
  have e := hfa.symm.trans (PySem.W.mg_of X G a23)
  cases e
  have m_BadKey : MtOk K mg "BadKey" mt_BadKey := by
    intro x b hx
    unfold mt_BadKey at hx
    split at hx
    · rename_i ex
      subst ex
      cases hx
      exact ⟨_, _, PySem.W.mg_of X G e1ChartError, PySem.W.mg_of X G e1BadKey, exm_of e4BadKey e6BadKey e5BadKey e7ChartErrorBadKey⟩
    split at hx
    · rename_i ex
      subst ex
      cases hx
      exact ⟨_, _, PySem.W.mg_of X G e1BadText, PySem.W.mg_of X G e1BadKey, exm_of e4BadKey e6BadKey e5BadKey e7BadTextBadKey⟩
    split at hx
    · rename_i ex
      subst ex
      cases hx
      exact ⟨_, _, PySem.W.mg_of X G e1BadKey, PySem.W.mg_of X G e1BadKey, exm_of e4BadKey e6BadKey e5BadKey e7BadKeyBadKey⟩
    cases hx
  have m_BadText : MtOk K mg "BadText" mt_BadText := by
    intro x b hx
    unfold mt_BadText at hx
    split at hx
    · rename_i ex
      subst ex
      cases hx
      exact ⟨_, _, PySem.W.mg_of X G e1ChartError, PySem.W.mg_of X G e1BadText, exm_of e4BadText e6BadText e5BadText e7ChartErrorBadText⟩
    split at hx
    · rename_i ex
      subst ex
      cases hx
      exact ⟨_, _, PySem.W.mg_of X G e1BadText, PySem.W.mg_of X G e1BadText, exm_of e4BadText e6BadText e5BadText e7BadTextBadText⟩
    split at hx
    · rename_i ex
      subst ex
      cases hx
      exact ⟨_, _, PySem.W.mg_of X G e1BadKey, PySem.W.mg_of X G e1BadText, exm_of e4BadText e6BadText e5BadText e7BadKeyBadText⟩
    cases hx
  have m_ChartError : MtOk K mg "ChartError" mt_ChartError := by
    intro x b hx
    unfold mt_ChartError at hx
    split at hx
    · rename_i ex
      subst ex
      cases hx
      exact ⟨_, _, PySem.W.mg_of X G e1ChartError, PySem.W.mg_of X G e1ChartError, exm_of e4ChartError e6ChartError e5ChartError e7ChartErrorChartError⟩
    split at hx
    · rename_i ex
      subst ex
      cases hx
      exact ⟨_, _, PySem.W.mg_of X G e1BadText, PySem.W.mg_of X G e1ChartError, exm_of e4ChartError e6ChartError e5ChartError e7BadTextChartError⟩
    split at hx
    · rename_i ex
      subst ex
      cases hx
      exact ⟨_, _, PySem.W.mg_of X G e1BadKey, PySem.W.mg_of X G e1ChartError, exm_of e4ChartError e6ChartError e5ChartError e7BadKeyChartError⟩
    cases hx
  have k_BadKey : KtOk K mg "BadKey" mt_BadKey := by
    intro x b hx
    unfold mt_BadKey at hx
    split at hx
    · rename_i ex
      subst ex
      cases hx
      exact ⟨_, _, PySem.W.mg_of X G e1ChartError, PySem.W.mg_of X G e1BadKey, e8ChartErrorBadKey, ⟨e9ChartErrora, e9ChartErrorb, e4ChartError, e9ChartErrorc, e9ChartErrord, e91, e92, e9ChartErrore⟩⟩
    split at hx
    · rename_i ex
      subst ex
      cases hx
      exact ⟨_, _, PySem.W.mg_of X G e1BadText, PySem.W.mg_of X G e1BadKey, e8BadTextBadKey, ⟨e9BadTexta, e9BadTextb, e4BadText, e9BadTextc, e9BadTextd, e91, e92, e9BadTexte⟩⟩
    split at hx
    · rename_i ex
      subst ex
      cases hx
      exact ⟨_, _, PySem.W.mg_of X G e1BadKey, PySem.W.mg_of X G e1BadKey, e8BadKeyBadKey, ⟨e9BadKeya, e9BadKeyb, e4BadKey, e9BadKeyc, e9BadKeyd, e91, e92, e9BadKeye⟩⟩
    cases hx
  have k_BadText : KtOk K mg "BadText" mt_BadText := by
    intro x b hx
    unfold mt_BadText at hx
    split at hx
    · rename_i ex
      subst ex
      cases hx
      exact ⟨_, _, PySem.W.mg_of X G e1ChartError, PySem.W.mg_of X G e1BadText, e8ChartErrorBadText, ⟨e9ChartErrora, e9ChartErrorb, e4ChartError, e9ChartErrorc, e9ChartErrord, e91, e92, e9ChartErrore⟩⟩
    split at hx
    · rename_i ex
      subst ex
      cases hx
      exact ⟨_, _, PySem.W.mg_of X G e1BadText, PySem.W.mg_of X G e1BadText, e8BadTextBadText, ⟨e9BadTexta, e9BadTextb, e4BadText, e9BadTextc, e9BadTextd, e91, e92, e9BadTexte⟩⟩
    split at hx
    · rename_i ex
      subst ex
      cases hx
      exact ⟨_, _, PySem.W.mg_of X G e1BadKey, PySem.W.mg_of X G e1BadText, e8BadKeyBadText, ⟨e9BadKeya, e9BadKeyb, e4BadKey, e9BadKeyc, e9BadKeyd, e91, e92, e9BadKeye⟩⟩
    cases hx
  have k_ChartError : KtOk K mg "ChartError" mt_ChartError := by
    intro x b hx
    unfold mt_ChartError at hx
    split at hx
    · rename_i ex
      subst ex
      cases hx
      exact ⟨_, _, PySem.W.mg_of X G e1ChartError, PySem.W.mg_of X G e1ChartError, e8ChartErrorChartError, ⟨e9ChartErrora, e9ChartErrorb, e4ChartError, e9ChartErrorc, e9ChartErrord, e91, e92, e9ChartErrore⟩⟩
    split at hx
    · rename_i ex
      subst ex
      cases hx
      exact ⟨_, _, PySem.W.mg_of X G e1BadText, PySem.W.mg_of X G e1ChartError, e8BadTextChartError, ⟨e9BadTexta, e9BadTextb, e4BadText, e9BadTextc, e9BadTextd, e91, e92, e9BadTexte⟩⟩
    split at hx
    · rename_i ex
      subst ex
      cases hx
      exact ⟨_, _, PySem.W.mg_of X G e1BadKey, PySem.W.mg_of X G e1ChartError, e8BadKeyChartError, ⟨e9BadKeya, e9BadKeyb, e4BadKey, e9BadKeyc, e9BadKeyd, e91, e92, e9BadKeye⟩⟩
    cases hx
  have clSeals : Cls K KSeals := ⟨pgSeals, hdSeals, poSeals, saSeals⟩
  have T : Tx K mg := { z_bool := PySem.W.mg_none_of X G z_bool, z_int := PySem.W.mg_none_of X G z_int, z_isinstance := PySem.W.mg_none_of X G z_isinstance, z_len := PySem.W.mg_none_of X G z_len, z_ord := PySem.W.mg_none_of X G z_ord, z_range := PySem.W.mg_none_of X G z_range, z_str := PySem.W.mg_none_of X G z_str, x_ChartError := ⟨CChartError, PySem.W.mg_of X G e1ChartError, e2ChartError, e3ChartError, e4ChartError, e5ChartError⟩, x_BadText := ⟨CBadText, PySem.W.mg_of X G e1BadText, e2BadText, e3BadText, e4BadText, e5BadText⟩, x_BadKey := ⟨CBadKey, PySem.W.mg_of X G e1BadKey, e2BadKey, e3BadKey, e4BadKey, e5BadKey⟩, m_BadKey := m_BadKey, m_BadText := m_BadText, m_ChartError := m_ChartError, k_BadKey := k_BadKey, k_BadText := k_BadText, k_ChartError := k_ChartError, g_DIGITS := ⟨_, PySem.W.mg_of X G g_DIGITS⟩, g_DIVISOR := ⟨_, PySem.W.mg_of X G g_DIVISOR⟩, g_FACTOR := ⟨_, PySem.W.mg_of X G g_FACTOR⟩, g_MOST_NAME := ⟨_, PySem.W.mg_of X G g_MOST_NAME⟩, f_Seals__marks := ⟨_, PySem.W.mg_of X G aCSeals, clSeals, nSeals__marks⟩, gc_BadKey := ⟨_, PySem.W.mg_of X G e1BadKey⟩, gc_BadText := ⟨_, PySem.W.mg_of X G e1BadText⟩, gc_ChartError := ⟨_, PySem.W.mg_of X G e1ChartError⟩, dummy := trivial }
  have F0 := fun_mk (st := st_digest) l0 c0 k0
  have F1 := fun_mk (st := st_made_of) l1 c1 k1
  have F2 := fun_mk (st := st_is_key) l2 c2 k2
  have F3 := fun_mk (st := st_is_printable) l3 c3 k3
  have F4 := fun_mk (st := st_mark_of) l4 c4 k4
  have F5 := fun_mk (st := st_Seals___init__) l5 c5 k5
  have F6 := fun_mk (st := st_Seals_make) l6 c6 k6
  have F7 := fun_mk (st := st_Seals_holds) l7 c7 k7
  have F8 := fun_mk (st := st_Seals_count) l8 c8 k8
  have F9 := fun_mk (st := st__law_cell) l9 c9 k9
  have F10 := fun_mk (st := st__law_stream) l10 c10 k10
  have F11 := fun_mk (st := st__law_take) l11 c11 k11
  have F12 := fun_mk (st := st__law_char) l12 c12 k12
  have F13 := fun_mk (st := st__law_string) l13 c13 k13
  have F14 := fun_mk (st := st__law_digest) l14 c14 k14
  have F15 := fun_mk (st := st__law_says) l15 c15 k15
  have F16 := fun_mk (st := st__law_key) l16 c16 k16
  have F17 := fun_mk (st := st__law_word) l17 c17 k17
  have F18 := fun_mk (st := st__law_mark) l18 c18 k18
  have F19 := fun_mk (st := st__law_counts) l19 c19 k19
  have F20 := fun_mk (st := st__law_refusal) l20 c20 k20
  have F21 := fun_mk (st := st__law_no_key) l21 c21 k21
  have F22 := fun_mk (st := st__law_no_text) l22 c22 k22
  have F23 := fun_mk (st := st_law) l23 c23 k23
  refine ⟨PySem.W.fnOf "law" "law" (defArgs st_law) (defBody st_law) (defScope st_law) .none kV23 dc23 pm23 an23 cd23 ct23, fun s v => .of_eq rfl, fun base hb1 hb2 => ?_⟩
  have c_digest : CalM P w K mg base 1 "digest" f_digest := ⟨_, _, ["text"], PySem.W.mg_of X G a0, k0, F0.binds (ps := ["text"]) (fun _ _ _ _ _ _ us hl => match us, hl with | [_], _ => rfl), ok_digest T F0 ⟩
  have c_made_of : CalM P w K mg base 1 "made_of" f_made_of := ⟨_, _, ["text", "chars"], PySem.W.mg_of X G a1, k1, F1.binds (ps := ["text", "chars"]) (fun _ _ _ _ _ _ us hl => match us, hl with | [_, _], _ => rfl), ok_made_of T F1 ⟩
  have c_is_key : CalM P w K mg base 2 "is_key" f_is_key := ⟨_, _, ["value"], PySem.W.mg_of X G a2, k2, F2.binds (ps := ["value"]) (fun _ _ _ _ _ _ us hl => match us, hl with | [_], _ => rfl), ok_is_key T F2 c_made_of⟩
  have c_is_printable : CalM P w K mg base 1 "is_printable" f_is_printable := ⟨_, _, ["value"], PySem.W.mg_of X G a3, k3, F3.binds (ps := ["value"]) (fun _ _ _ _ _ _ us hl => match us, hl with | [_], _ => rfl), ok_is_printable T F3 ⟩
  have c_mark_of : CalM P w K mg base 2 "mark_of" f_mark_of := ⟨_, _, ["key", "text"], PySem.W.mg_of X G a4, k4, F4.binds (ps := ["key", "text"]) (fun _ _ _ _ _ _ us hl => match us, hl with | [_, _], _ => rfl), ok_mark_of T F4 c_digest⟩
  have c_Seals___init__ : MkM (L2.CX P w) P w K mg base 1 "Seals" f_Seals___init__ := ⟨_, _, _, ["self"], PySem.W.mg_of X G aCSeals, ⟨mkSeals, a5, i5, kcSeals⟩, F5.binds (ps := ["self"]) (fun _ _ _ _ _ _ us hl => match us, hl with | [_], _ => rfl), ok_Seals___init__ T F5 ⟩
  have c_Seals_make : MeM (L2.CX P w) P w K mg base 3 "Seals" "make" f_Seals_make := ⟨_, _, _, ["self", "key", "text"], PySem.W.mg_of X G aCSeals, clSeals, ⟨a6, i6, k6⟩, F6.binds (ps := ["self", "key", "text"]) (fun _ _ _ _ _ _ us hl => match us, hl with | [_, _, _], _ => rfl), ok_Seals_make T F6 c_is_key c_is_printable c_mark_of⟩
  have c_Seals_holds : MeM (L2.CX P w) P w K mg base 1 "Seals" "holds" f_Seals_holds := ⟨_, _, _, ["self", "key", "text", "mark"], PySem.W.mg_of X G aCSeals, clSeals, ⟨a7, i7, k7⟩, F7.binds (ps := ["self", "key", "text", "mark"]) (fun _ _ _ _ _ _ us hl => match us, hl with | [_, _, _, _], _ => rfl), ok_Seals_holds T F7 ⟩
  have c_Seals_count : MeM (L2.CX P w) P w K mg base 1 "Seals" "count" f_Seals_count := ⟨_, _, _, ["self"], PySem.W.mg_of X G aCSeals, clSeals, ⟨a8, i8, k8⟩, F8.binds (ps := ["self"]) (fun _ _ _ _ _ _ us hl => match us, hl with | [_], _ => rfl), ok_Seals_count T F8 ⟩
  have c__law_cell : CalM P w K mg base 1 "_law_cell" f__law_cell := ⟨_, _, ["_law_script", "_law_k"], PySem.W.mg_of X G a9, k9, F9.binds (ps := ["_law_script", "_law_k"]) (fun _ _ _ _ _ _ us hl => match us, hl with | [_, _], _ => rfl), ok__law_cell T F9 ⟩
  have c__law_stream : CalM P w K mg base 1 "_law_stream" f__law_stream := ⟨_, _, ["_law_cell_here"], PySem.W.mg_of X G a10, k10, F10.binds (ps := ["_law_cell_here"]) (fun _ _ _ _ _ _ us hl => match us, hl with | [_], _ => rfl), ok__law_stream T F10 ⟩
  have c__law_take : CalM P w K mg base 1 "_law_take" f__law_take := ⟨_, _, ["_law_stream_here", "_law_many"], PySem.W.mg_of X G a11, k11, F11.binds (ps := ["_law_stream_here", "_law_many"]) (fun _ _ _ _ _ _ us hl => match us, hl with | [_, _], _ => rfl), ok__law_take T F11 ⟩
  have c__law_char : CalM P w K mg base 1 "_law_char" f__law_char := ⟨_, _, ["_law_k"], PySem.W.mg_of X G a12, k12, F12.binds (ps := ["_law_k"]) (fun _ _ _ _ _ _ us hl => match us, hl with | [_], _ => rfl), ok__law_char T F12 ⟩
  have c__law_string : CalM P w K mg base 2 "_law_string" f__law_string := ⟨_, _, ["_law_stream_here", "_law_most"], PySem.W.mg_of X G a13, k13, F13.binds (ps := ["_law_stream_here", "_law_most"]) (fun _ _ _ _ _ _ us hl => match us, hl with | [_, _], _ => rfl), ok__law_string T F13 c__law_char c__law_take⟩
  have c__law_digest : CalM P w K mg base 1 "_law_digest" f__law_digest := ⟨_, _, ["_law_text"], PySem.W.mg_of X G a14, k14, F14.binds (ps := ["_law_text"]) (fun _ _ _ _ _ _ us hl => match us, hl with | [_], _ => rfl), ok__law_digest T F14 ⟩
  have c__law_says : CalM P w K mg base 1 "_law_says" f__law_says := ⟨_, _, ["_law_actual", "_law_expected"], PySem.W.mg_of X G a15, k15, F15.binds (ps := ["_law_actual", "_law_expected"]) (fun _ _ _ _ _ _ us hl => match us, hl with | [_, _], _ => rfl), ok__law_says T F15 ⟩
  have c__law_key : CalM P w K mg base 2 "_law_key" f__law_key := ⟨_, _, ["_law_stream_here"], PySem.W.mg_of X G a16, k16, F16.binds (ps := ["_law_stream_here"]) (fun _ _ _ _ _ _ us hl => match us, hl with | [_], _ => rfl), ok__law_key T F16 c__law_take⟩
  have c__law_word : CalM P w K mg base 3 "_law_word" f__law_word := ⟨_, _, ["_law_stream_here"], PySem.W.mg_of X G a17, k17, F17.binds (ps := ["_law_stream_here"]) (fun _ _ _ _ _ _ us hl => match us, hl with | [_], _ => rfl), ok__law_word T F17 c__law_string c__law_take⟩
  have c__law_mark : CalM P w K mg base 2 "_law_mark" f__law_mark := ⟨_, _, ["_law_key_here", "_law_text"], PySem.W.mg_of X G a18, k18, F18.binds (ps := ["_law_key_here", "_law_text"]) (fun _ _ _ _ _ _ us hl => match us, hl with | [_, _], _ => rfl), ok__law_mark T F18 c__law_digest⟩
  have c__law_counts : CalM P w K mg base 1 "_law_counts" f__law_counts := ⟨_, _, ["_law_actual", "_law_expected"], PySem.W.mg_of X G a19, k19, F19.binds (ps := ["_law_actual", "_law_expected"]) (fun _ _ _ _ _ _ us hl => match us, hl with | [_, _], _ => rfl), ok__law_counts T F19 ⟩
  have c__law_refusal : CalM P w K mg base 4 "_law_refusal" f__law_refusal := ⟨_, _, ["_law_office", "_law_key_here", "_law_text"], PySem.W.mg_of X G a20, k20, F20.binds (ps := ["_law_office", "_law_key_here", "_law_text"]) (fun _ _ _ _ _ _ us hl => match us, hl with | [_, _, _], _ => rfl), ok__law_refusal T F20 c_Seals_make⟩
  have c__law_no_key : CalM P w K mg base 2 "_law_no_key" f__law_no_key := ⟨_, _, ["_law_stream_here"], PySem.W.mg_of X G a21, k21, F21.binds (ps := ["_law_stream_here"]) (fun _ _ _ _ _ _ us hl => match us, hl with | [_], _ => rfl), ok__law_no_key T F21 c__law_take⟩
  have c__law_no_text : CalM P w K mg base 2 "_law_no_text" f__law_no_text := ⟨_, _, ["_law_stream_here"], PySem.W.mg_of X G a22, k22, F22.binds (ps := ["_law_stream_here"]) (fun _ _ _ _ _ _ us hl => match us, hl with | [_], _ => rfl), ok__law_no_text T F22 c__law_take⟩
  exact ok_law T F23 c_Seals___init__ c_Seals_count c_Seals_holds c_Seals_make c__law_cell c__law_counts c__law_key c__law_mark c__law_no_key c__law_no_text c__law_refusal c__law_says c__law_stream c__law_take c__law_word
theorem walk {l : PySem.W.OpenLaw} {q : Program} {loose : List Str} {XP : (Str → Option Value) → Heap → Prop} {YP : World → Heap → Prop} {d : DefRec} {K : Params → PySem.W.Frag} (L : LawOk f_law) (hn : l.most = some 63) (hdf : d.params.defaults = [])
    (hY : ∀ (w : World) (h : Heap), YP w h → (K w.params).In h)
    (F : ∀ (w : World) (mg : Str → Option Value) (fa : Addr) (h : Heap), (K w.params).In h → h.Ns mainGlobals mg → mg d.name = some (.ref fa) →
      ∃ fd : FuncData, (∀ (s : Shared) (u : Value), BindsTo s fd ⟨[u], []⟩ [("_law_script", u)]) ∧ ∀ base : Heap, (K w.params).In base → base.Ns mainGlobals mg → FnOk l.prog w (K w.params) mg base (L2.CX l.prog w) 5 fa fd ["_law_script"] (spM (K w.params) mg f_law)) :
    PySem.W.WalkO q loose XP YP l.row.toRowW d [] (fun f vs => PySem.call f vs) :=
  HM.walk_M (k := 5) (x := "_law_script") L hn hdf ⟨rfl, by decide, by decide⟩ hY F
end G
set_option Elab.async false
set_option linter.all false
set_option maxRecDepth 100000
set_option maxHeartbeats 4000000
local macro_rules | `(tactic| walk_at "nx") => `(tactic| first | rfl | exact ⟨rfl, rfl⟩)
namespace G
open PySem L2 HM
theorem ix0 {x : D} {r : List D} {h : LH} : dIx (.tup (x :: r)) (.int 0) h = .ok x h := dIx_tup (atI_of (by decide) rfl)
theorem ix1 {x y : D} {r : List D} {h : LH} : dIx (.tup (x :: y :: r)) (.int 1) h = .ok y h := dIx_tup (atI_of (by decide) rfl)
theorem ix2 {x y z : D} {r : List D} {h : LH} : dIx (.tup (x :: y :: z :: r)) (.int 2) h = .ok z h := dIx_tup (atI_of (by decide) rfl)
theorem add_ne {p : PR} {ps : List PR} : addP p ps ≠ [] := by
  unfold addP
  split
  · rename_i h
    intro z
    rw [z] at h
    cases h
  · simp
theorem add_mem {p : PR} {ps : List PR} : p ∈ addP p ps := by
  unfold addP
  split
  · assumption
  · simp
theorem gM : getF "holds" [("_marks", D.ref 1)] = none := by simp [getF]
theorem meth1 {h : LH} {o m : Nat} {ps : List PR} {e : EN} {n : String} {f : MF} {a : M (List D)} (w : Off h o m ps) (hn : n ≠ "_marks") : kMeth "Seals" n f a e (.ref o) h = (a e h).bind fun xs h2 => f (.ref o :: xs) h2 := kMeth_ok w.o (by simp [getF, Ne.symm hn])

def Od (g : LH) : D → Prop
  | .ref i => 4 ≤ i ∧ ∃ xs, g[i]? = some (.lst xs)
  | .str s => s.length ≤ 100
  | .non => True
  | .bl _ => True
  | .int _ => True
  | .tup _ => True
  | _ => False
theorem Od.ty {g : LH} {d : D} (h : Od g d) : ∃ t, tyD d g = some t := by
  cases d <;> simp [Od] at h
  all_goals first | exact ⟨_, rfl⟩ | skip
  obtain ⟨_, xs, e⟩ := h
  exact ⟨.list, by simp [tyD, e]⟩
theorem Od.len {g : LH} {d : D} (h : Od g d) : ∀ s, d = .str s → s.length ≤ 16777216 := by
  rintro s rfl
  have : s.length ≤ 100 := h
  omega
theorem Od.of {g g' : LH} {d : D} (h : Od g d) (k : ∀ i xs, 4 ≤ i → g[i]? = some (.lst xs) → g'[i]? = some (.lst xs)) : Od g' d := by
  cases d <;> simp [Od] at h ⊢
  all_goals first | exact h | skip
  obtain ⟨a, xs, e⟩ := h
  exact ⟨a, xs, k _ _ a e⟩
theorem Od.kp {g g' : LH} {d : D} (h : Od g d) (k : Kp g g') : Od g' d := h.of fun _ _ _ e => k.get e
theorem Od.sf {g g' : LH} {d : D} (h : Od g d) (k : SF 0 g g') : Od g' d := h.of fun i _ hi e => k.get (by omega) e
theorem Od.set {g : LH} {d : D} {i : Nat} {o : LO} (h : Od g d) (hi : i < 4) : Od (g.set i o) d := h.of fun _ _ _ e => by rw [List.getElem?_set_ne (by omega)]; exact e
structure St (j : Nat) (g : LH) (ps : List PR) : Prop where
  o : Off g 1 2 ps
  r : g[3]? = some (.lst (ps.map pD))
  l : ps.length ≤ j
  s : StrAt g 0
  n : 4 ≤ g.length
theorem StrAt.kp {g g' : LH} {s : Nat} (w : StrAt g s) (k : Kp g g') : StrAt g' s := by
  obtain ⟨a, b, e⟩ := w
  exact ⟨a, b, k.get e⟩
theorem StrAt.set {g : LH} {s i : Nat} {o : LO} (w : StrAt g s) (hi : i ≠ s) : StrAt (g.set i o) s := by
  obtain ⟨a, b, e⟩ := w
  exact ⟨a, b, by rw [List.getElem?_set_ne hi]; exact e⟩
theorem St.kp {j : Nat} {g g' : LH} {ps : List PR} (w : St j g ps) (k : Kp g g') : St j g' ps := ⟨w.o.kp k, k.get w.r, w.l, StrAt.kp w.s k, Nat.le_trans w.n k.le⟩
theorem St.sf {j : Nat} {g g' : LH} {ps : List PR} (w : St j g ps) (k : SF 0 g g') : St j g' ps := ⟨w.o.sf k (by omega) (by omega), k.get (by omega) w.r, w.l, k.st, Nat.le_trans w.n k.le⟩
def B1 : MS := (sSeq (sSet 5 (mTup (mCons (mApp L.f__law_key (mCons (mVar 1) mNil)) (mCons (mApp L.f__law_word (mCons (mVar 1) mNil)) mNil))))
    (sSeq (sExpr (mMeth "Seals" "make" L.f_Seals_make (mVar 2) (mCons (mOp dIx (mVar 5) (mC (.int 0))) (mCons (mOp dIx (mVar 5) (mC (.int 1))) mNil))))
    (sIf (mTst (mOp dNotInD (mVar 5) (mVar 3))) (sExpr (mMet isLst dAppend (mVar 3) (mCons (mVar 5) mNil))) sNil)))
def B2 : MS := (sSeq (sIf (mTOr (mTst (mOp dNe (mApp f__law_refusal (mCons (mVar 2) (mCons (mVar 8) (mCons (mVar 7) mNil)))) (mC (.int 1)))) (mTst (mOp dNe (mApp f__law_refusal (mCons (mVar 2) (mCons (mVar 8) (mCons (mVar 9) mNil)))) (mC (.int 1))))) (sRet (mC (.bl false))) sNil)
    (sSeq (sIf (mTOr (mTst (mOp dNe (mApp f__law_refusal (mCons (mVar 2) (mCons (mVar 6) (mCons (mVar 9) mNil)))) (mC (.int 2)))) (mTNot (mTru (mApp L.f__law_counts (mCons (mMeth "Seals" "count" L.f_Seals_count (mVar 2) mNil) (mCons (mApp dLen (mCons (mVar 3) mNil)) mNil)))))) (sRet (mC (.bl false))) sNil)
    (sSeq (sIf (mTNot (mTru (mApp L.f__law_says (mCons (mMeth "Seals" "holds" L.f_Seals_holds (mVar 2) (mCons (mVar 6) (mCons (mVar 7) (mCons (mApp L.f__law_mark (mCons (mVar 6) (mCons (mVar 7) mNil))) mNil)))) (mCons (mOp dInD (mTup (mCons (mVar 6) (mCons (mVar 7) mNil))) (mVar 3)) mNil))))) (sRet (mC (.bl false))) sNil)
    (sSeq (sIf (mTst (mOp dNe (mApp f__law_refusal (mCons (mVar 2) (mCons (mVar 6) (mCons (mVar 7) mNil)))) (mC (.int 3)))) (sRet (mC (.bl false))) sNil)
    (sSeq (sIf (mTst (mOp dNotInD (mTup (mCons (mVar 6) (mCons (mVar 7) mNil))) (mVar 3))) (sExpr (mMet isLst dAppend (mVar 3) (mCons (mTup (mCons (mVar 6) (mCons (mVar 7) mNil))) mNil))) sNil)
    (sIf (mTNot (mTru (mApp L.f__law_counts (mCons (mMeth "Seals" "count" L.f_Seals_count (mVar 2) mNil) (mCons (mApp dLen (mCons (mVar 3) mNil)) mNil))))) (sRet (mC (.bl false))) sNil))))))
/-- the pair is added to the list -/
theorem app_ok {j : Nat} {g : LH} {ps : List PR} {p : PR} {e : EN} {m : M D} (hm : ∀ g, m e g = .ok (pD p) g) (he : e[3]? = some (some (.ref 3))) (gp : GPr p) (W : Off g 1 2 (addP p ps)) (r : g[3]? = some (.lst (ps.map pD))) (ok : ∀ p ∈ ps, GPr p) (s : StrAt g 0) (n : 4 ≤ g.length) (hl : ps.length ≤ j) (hj : j ≤ 100) :
    ∃ g', (sIf (mTst (mOp dNotInD m (mVar 3))) (sExpr (mMet isLst dAppend (mVar 3) (mCons m mNil))) sNil) e g = .next e g' ∧ St (j + 1) g' (addP p ps) ∧ ∀ d, Od g d → Od g' d := by
  have nD := (inD_pairs r ok gp (by omega)).2
  by_cases c : p ∈ ps
  · have ea : addP p ps = ps := by unfold addP; rw [if_pos c]
    refine ⟨g, ?_, ⟨W, by rw [ea]; exact r, by rw [ea]; omega, s, n⟩, fun _ h => h⟩
    simp -implicitDefEqProofs [hm, he, nD, c]
  · have ea : addP p ps = ps ++ [p] := by unfold addP; rw [if_neg c]
    have ap := dAppend_ref (y := pD p) r (by simp; omega)
    have il := isLst_ref r
    refine ⟨_, ?_, ⟨W.set (s := 3) (x := .lst (ps.map pD ++ [pD p])) (by omega) (by omega), ?_, by rw [ea]; simp; omega, StrAt.set s (by omega), by simpa using n⟩, fun _ h => h.set (by decide)⟩
    · simp -implicitDefEqProofs [hm, he, nD, c, il, ap]
    · rw [List.getElem?_set_self (lt_of_get r), ea]
      simp
theorem b1_ok {j : Nat} {g : LH} {ps : List PR} {v0 v4 v5 v6 v7 v8 v9 : Option D} (w : St j g ps) (hj : j ≤ 50) : ∃ w5 g' ps', B1 [v0, some (.ref 0), some (.ref 1), some (.ref 3), v4, v5, v6, v7, v8, v9] g = .next [v0, some (.ref 0), some (.ref 1), some (.ref 3), v4, w5, v6, v7, v8, v9] g' ∧ St (j + 1) g' ps' := by
  obtain ⟨k, h1, e1, hk, F1⟩ := dkey_ok w.s
  obtain ⟨t, h2, e2, tl, tc, F2⟩ := word_ok F1.st
  have w2 := w.sf (F1.trans F2)
  have kl := key_le hk
  have hl := w.l
  have gp : GPr (k, t) := ⟨hk, tc, by simp; omega⟩
  obtain ⟨eM, W3⟩ := seal_make w2.o gp (by omega)
  obtain ⟨h3, q3⟩ : ∃ h3, h3 = h2.set 2 (.dT ((addP (k, t) ps).map kvP)) := ⟨_, rfl⟩
  rw [← q3] at eM W3
  simp only at eM
  obtain ⟨g', e3, W4, _⟩ := app_ok (j := j) (e := [v0, some (.ref 0), some (.ref 1), some (.ref 3), v4, some (pD (k, t)), v6, v7, v8, v9]) (m := mVar 5) (fun g => rfl) (g := h3) rfl gp W3 (by rw [q3, List.getElem?_set_ne (by decide)]; exact w2.r) w2.o.g (by rw [q3]; exact StrAt.set w2.s (by omega)) (by rw [q3, List.length_set]; exact w2.n) hl (by omega)
  refine ⟨some (pD (k, t)), g', _, ?_, W4⟩
  unfold B1
  refine wseq (R := fun r => r = _) (h1 := h2) (e1 := [v0, some (.ref 0), some (.ref 1), some (.ref 3), v4, some (pD (k, t)), v6, v7, v8, v9]) (by
    unfold pD
    simp -implicitDefEqProofs [e1, e2]) ?_
  refine wseq (R := fun r => r = _) (h1 := h3) (e1 := [v0, some (.ref 0), some (.ref 1), some (.ref 3), v4, some (pD (k, t)), v6, v7, v8, v9]) (by
    unfold pD
    simp -implicitDefEqProofs [ix0, ix1, meth1 w2.o, eM]) ?_
  exact e3
theorem no_key_ok {g : LH} (st : StrAt g 0) (hn : 4 ≤ g.length) : ∃ d g', L.f__law_no_key [.ref 0] g = .ok d g' ∧ isKey d = false ∧ Od g' d ∧ SF 0 g g' := by
  obtain ⟨xs, qx⟩ : ∃ xs, xs = [S "", S "k", S "K1", S "1k", S "k1 ", S " k1", S "kk1", S "k1a", S "k1\n", S "k-1", S "k1.0", S "j1", S "k0123456789012"] := ⟨_, rfl⟩
  have P13 : ∀ x ∈ xs, isKey x = false ∧ ∃ s, x = .str s ∧ s.length ≤ 100 := by
    rw [qx]
    intro x hx
    simp only [List.mem_cons, List.not_mem_nil, or_false] at hx
    rcases hx with rfl | rfl | rfl | rfl | rfl | rfl | rfl | rfl | rfl | rfl | rfl | rfl | rfl
    all_goals exact ⟨by decide +kernel, _, rfl, by decide +kernel⟩
  have L13 : xs.length = 13 := by rw [qx]; rfl
  obtain ⟨h1, q1⟩ : ∃ h1, h1 = g ++ [LO.lst xs] := ⟨_, rfl⟩
  have F1 : SF 0 g h1 := by rw [q1]; exact SF.push st
  obtain ⟨ys, qy⟩ : ∃ ys : List D, ys = [.non, .int 1, .bl true, .ref h1.length, .tup [S "k1"]] := ⟨_, rfl⟩
  obtain ⟨h3, q3⟩ : ∃ h3, h3 = h1 ++ [LO.lst [S "k1"], LO.lst ys] := ⟨_, rfl⟩
  have F3 : SF 0 h1 h3 := by
    have := (SF.push (o := .lst [S "k1"]) F1.st)
    have := this.trans (SF.push (o := .lst ys) this.st)
    rw [List.append_assoc] at this
    rw [q3]
    exact this
  have r1 : h3[g.length]? = some (.lst xs) := F3.get (st_ne st) (by rw [q1]; simp)
  have r2 : h3[h1.length]? = some (.lst [S "k1"]) := by rw [q3]; simp
  have r3 : h3[h1.length + 1]? = some (.lst ys) := by rw [q3]; simp
  have ea := dAdd_refs r1 r3 (by rw [L13, qy]; simp)
  obtain ⟨h4, q4⟩ : ∃ h4, h4 = h3 ++ [LO.lst (xs ++ ys)] := ⟨_, rfl⟩
  rw [← q4] at ea
  have F4 : SF 0 h3 h4 := by rw [q4]; exact SF.push F3.st
  obtain ⟨v, h5, e5, v0, v1, F5, _⟩ := take_ok (m := 18) F4.st (by decide) (by decide)
  have r4 : h5[h3.length]? = some (.lst (xs ++ ys)) := F5.get (st_ne F3.st) (by rw [q4]; simp)
  have hv : v.toNat < (xs ++ ys).length := by rw [List.length_append, L13, qy]; simp; omega
  have ei : dIx (.ref h3.length) (.int v) h5 = .ok (xs ++ ys)[v.toNat] h5 := dIx_ref r4 (atI_of v0 (List.getElem?_eq_getElem hv))
  have hx := List.getElem_mem hv
  generalize (xs ++ ys)[v.toNat] = x at ei hx
  have hd : isKey x = false ∧ Od h5 x := by
    rcases List.mem_append.mp hx with hx | hx
    · obtain ⟨a, s, rfl, b⟩ := P13 x hx
      exact ⟨a, b⟩
    · rw [qy] at hx
      simp at hx
      rcases hx with rfl | rfl | rfl | rfl | rfl
      · exact ⟨rfl, trivial⟩
      · exact ⟨rfl, trivial⟩
      · exact ⟨rfl, trivial⟩
      · exact ⟨rfl, by have := F1.le; omega, _, (F4.trans F5).get (st_ne F1.st) r2⟩
      · exact ⟨rfl, trivial⟩
  refine ⟨x, h5, ?_, hd.1, hd.2, ((F1.trans F3).trans F4).trans F5⟩
  unfold L.f__law_no_key L.b__law_no_key
  refine mkF_ret rfl ?_
  refine wseq (R := fun r => r = _) (h1 := h1) (e1 := [some (.ref 0), some (.ref g.length)]) (by
    rw [q1, qx]
    simp -implicitDefEqProofs []) ?_
  refine wseq (R := fun r => r = _) (h1 := h4) (e1 := [some (.ref 0), some (.ref h3.length)]) (by
    simp -implicitDefEqProofs [← qy, ← q3, ea]) ?_
  simp -implicitDefEqProofs [e5, ei]
theorem abc_cut {p : Int} (h0 : 0 ≤ p) (h4 : p < 4) : ∃ a b : List Nat, (∀ g, dSl (S "abc") none (some p) g = .ok (.str a) g) ∧ (∀ g, dSl (S "abc") (some p) none g = .ok (.str b) g) ∧ a.length ≤ 3 ∧ b.length ≤ 3 := by
  have s0 : S "abc" = .str [97, 98, 99] := S_eq "abc"
  rw [s0]
  have : p = 0 ∨ p = 1 ∨ p = 2 ∨ p = 3 := by omega
  rcases this with rfl | rfl | rfl | rfl
  · exact ⟨[], [97, 98, 99], fun _ => rfl, fun _ => rfl, by decide, by decide⟩
  · exact ⟨[97], [98, 99], fun _ => rfl, fun _ => rfl, by decide, by decide⟩
  · exact ⟨[97, 98], [99], fun _ => rfl, fun _ => rfl, by decide, by decide⟩
  · exact ⟨[97, 98, 99], [], fun _ => rfl, fun _ => rfl, by decide, by decide⟩
theorem no_text_ok {g : LH} (st : StrAt g 0) (hn : 4 ≤ g.length) : ∃ d g', L.f__law_no_text [.ref 0] g = .ok d g' ∧ isPr d = false ∧ Od g' d ∧ SF 0 g g' := by
  obtain ⟨p, h1, e1, p0, p4, F1, _⟩ := take_ok (m := 4) st (by decide) (by decide)
  obtain ⟨a, b, ca, cb, la, lb⟩ := abc_cut p0 p4
  have sn : S "\n" = .str [10] := S_eq "\n"
  have stb : S "\t" = .str [9] := S_eq "\t"
  have a1 : ∀ g, dAdd (.str a) (.str [10]) g = .ok (.str (a ++ [10])) g := fun g => dAdd_str (by simp; omega)
  have a2 : ∀ g, dAdd (.str (a ++ [10])) (.str b) g = .ok (.str (a ++ [10] ++ b)) g := fun g => dAdd_str (by simp; omega)
  have a3 : ∀ g, dAdd (.str a) (.str [9]) g = .ok (.str (a ++ [9])) g := fun g => dAdd_str (by simp; omega)
  obtain ⟨h2, q2⟩ : ∃ h2, h2 = h1 ++ [LO.lst [S "abc"]] := ⟨_, rfl⟩
  have F2 : SF 0 h1 h2 := by rw [q2]; exact SF.push F1.st
  obtain ⟨v, x, h3, e3, i3, hx, F3⟩ := pickL_ok (xs := [.str (a ++ [10] ++ b), .str (a ++ [9]), .non, .int 7, .ref h1.length, .tup [S "abc"], .bl true]) (m := 7) F2.st rfl (by simp) (by simp)
  have F3' : SF 0 h2 h3 := (SF.push F2.st).trans F3
  have hd : isPr x = false ∧ Od h3 x := by
    simp only [List.mem_cons, List.not_mem_nil, or_false] at hx
    rcases hx with rfl | rfl | rfl | rfl | rfl | rfl | rfl
    · exact ⟨Bool.eq_false_iff.mpr (allC_not (c := 10) (by simp) (by decide)), by simp [Od]; omega⟩
    · exact ⟨Bool.eq_false_iff.mpr (allC_not (c := 9) (by simp) (by decide)), by simp [Od]; omega⟩
    · exact ⟨rfl, trivial⟩
    · exact ⟨rfl, trivial⟩
    · exact ⟨rfl, by have := F1.le; omega, [S "abc"], F3'.get (st_ne F1.st) (by rw [q2]; simp)⟩
    · exact ⟨rfl, trivial⟩
    · exact ⟨rfl, trivial⟩
  refine ⟨x, h3, ?_, hd.1, hd.2, (F1.trans F2).trans F3'⟩
  rw [q2] at e3 i3
  unfold L.f__law_no_text L.b__law_no_text
  refine mkF_ret rfl ?_
  refine wseq (R := fun r => r = _) (h1 := h1) (e1 := [some (.ref 0), some (.int p), none]) (by
    simp -implicitDefEqProofs [e1]) ?_
  refine wseq (R := fun r => r = _) (h1 := h1) (e1 := [some (.ref 0), some (.int p), some (S "abc")]) (by
    simp -implicitDefEqProofs []) ?_
  generalize S "abc" = sa at *
  simp -implicitDefEqProofs at e3 i3 a2
  simp -implicitDefEqProofs [mPart, ca, cb, sn, stb, a1, a2, a3, e3, i3]
theorem refusal_key {g : LH} {o m : Nat} {ps : List PR} {k t : D} (w : Off g o m ps) (hk : Od g k) (hn : isKey k = false) : ∃ g', f__law_refusal [.ref o, k, t] g = .ok (.int 1) g' ∧ Kp g g' := by
  obtain ⟨ty, ht⟩ := hk.ty
  have e := seal_badkey (o := o) (t := t) ht hk.len hn
  refine ⟨g ++ [.lst [.int 1, .int 0]], ?_, Kp.push _ _⟩
  unfold f__law_refusal
  rw [mkF_eq (by rfl)]
  unfold b__law_refusal
  have r : redOf ⟨"BadKey", []⟩ = some none := rfl
  have n : noR ⟨"BadKey", []⟩ = true := rfl
  have x := ix_disp (h := g) (xs := [.int 1, .int 0]) (i := 0) (x := .int 1) (atI_of (by decide) rfl)
  simp -implicitDefEqProofs [ev_seq, ev_tryM, meth1 w, e, sTryMGo, mt_BadKey, mt_BadText, mt_ChartError, r, exD, mExIs2, n, kOr, truD, dInt_bl, x]
theorem refusal_text {g : LH} {o m : Nat} {ps : List PR} {k : List Nat} {t : D} (w : Off g o m ps) (hk : isKey (.str k) = true) (ht : Od g t) (hn : isPr t = false) : ∃ g', f__law_refusal [.ref o, .str k, t] g = .ok (.int 2) g' ∧ Kp g g' := by
  obtain ⟨ty, ht⟩ := ht.ty
  have e := seal_badtext (o := o) ht hk hn
  refine ⟨g ++ [.lst [.int 2, .int 0]], ?_, Kp.push _ _⟩
  unfold f__law_refusal
  rw [mkF_eq (by rfl)]
  unfold b__law_refusal
  have r : redOf ⟨"BadText", []⟩ = some none := rfl
  have n : noR ⟨"BadText", []⟩ = true := rfl
  have x := ix_disp (h := g) (xs := [.int 2, .int 0]) (i := 0) (x := .int 2) (atI_of (by decide) rfl)
  simp -implicitDefEqProofs [ev_seq, ev_tryM, meth1 w, e, sTryMGo, mt_BadKey, mt_BadText, mt_ChartError, r, exD, mExIs2, n, kOr, truD, dInt_bl, x]
theorem refusal_good {g : LH} {o m : Nat} {ps : List PR} {p : PR} (w : Off g o m ps) (gp : GPr p) (hl : ps.length ≤ 1000000) : f__law_refusal [.ref o, .str p.1, .str p.2] g = .ok (.int 3) (g.set m (.dT ((addP p ps).map kvP))) := by
  obtain ⟨e, _⟩ := seal_make w gp hl
  unfold f__law_refusal
  rw [mkF_eq (by rfl)]
  unfold b__law_refusal
  simp -implicitDefEqProofs [ev_seq, ev_tryM, meth1 w, e, sTryMGo]
def ED (ns : List Int) (v4 v5 : Option D) (k t : List Nat) (d8 d9 : D) : EN := [some (.scr ns), some (.ref 0), some (.ref 1), some (.ref 3), v4, v5, some (.str k), some (.str t), some d8, some d9]
theorem b2_ok {ns : List Int} {j : Nat} {g : LH} {ps : List PR} {v4 v5 : Option D} {k t : List Nat} {d8 d9 : D} (w : St j g ps) (hj : j ≤ 50) (gp : GPr (k, t)) (tl : t.length ≤ 60) (o8 : Od g d8) (o9 : Od g d9) (n8 : isKey d8 = false) (n9 : isPr d9 = false) :
    ∃ g' ps', B2 (ED ns v4 v5 k t d8 d9) g = .next (ED ns v4 v5 k t d8 d9) g' ∧ St (j + 1) g' ps' ∧ Od g' d8 ∧ Od g' d9 := by
  obtain ⟨g1, e1, K1⟩ := refusal_key (t := .str t) w.o o8 n8
  have w1 := w.kp K1
  obtain ⟨g2, e2, K2⟩ := refusal_key (t := d9) w1.o (o8.kp K1) n8
  have w2 := w1.kp K2
  obtain ⟨g3, e3, K3⟩ := refusal_text w2.o gp.k ((o9.kp K1).kp K2) n9
  have w3 := w2.kp K3
  have K := (K1.trans K2).trans K3
  have kl := key_le gp.k
  have hl := w.l
  have C3 := seal_count w3.o
  have L3 := dLen_ref w3.r
  have em := lmark_eq (k := k) (t := t) (h := g3) (by simp at kl; omega)
  have eh := seal_holds (x := .str k) (y := .str t) (z := .str (mkS k t)) w3.o rfl rfl rfl
  have hv : holdsV ps (.str k) (.str t) (.str (mkS k t)) = decide ((k, t) ∈ ps) := by
    simp [holdsV]
  rw [hv] at eh
  have iD := (inD_pairs w3.r w3.o.g gp (by omega)).1
  have e4 := refusal_good w3.o gp (by omega)
  obtain ⟨_, W4⟩ := seal_make w3.o gp (by omega)
  obtain ⟨g4, q4⟩ : ∃ g4, g4 = g3.set 2 (.dT ((addP (k, t) ps).map kvP)) := ⟨_, rfl⟩
  rw [← q4] at e4 W4
  simp only at e4
  have o84 : Od g4 d8 := by rw [q4]; exact (o8.kp K).set (by decide)
  have o94 : Od g4 d9 := by rw [q4]; exact (o9.kp K).set (by decide)
  obtain ⟨g5, e5, W5, K5⟩ := app_ok (j := j) (e := ED ns v4 v5 k t d8 d9) (m := mTup (mCons (mVar 6) (mCons (mVar 7) mNil))) (fun g => rfl) (g := g4) rfl gp W4 (by rw [q4, List.getElem?_set_ne (by decide)]; exact w3.r) w3.o.g (by rw [q4]; exact StrAt.set w3.s (by omega)) (by rw [q4, List.length_set]; exact w3.n) hl (by omega)
  have C5 := seal_count W5.o
  have L5 := dLen_ref W5.r
  have sy : ∀ (a b : Bool) (g : LH), L.f__law_says [.bl a, .bl b] g = .ok (.bl (decide (a = b))) g := fun a b g => says_eq
  unfold pD at iD
  simp only at iD
  refine ⟨g5, _, ?_, W5, K5 _ o84, K5 _ o94⟩
  unfold B2
  refine wseq (R := fun r => r = _) (h1 := g2) (e1 := ED ns v4 v5 k t d8 d9) (by
    unfold ED
    simp -implicitDefEqProofs [e1, e2, dNe_int]) ?_
  refine wseq (R := fun r => r = _) (h1 := g3) (e1 := ED ns v4 v5 k t d8 d9) (by
    unfold ED
    simp -implicitDefEqProofs [e3, dNe_int, meth1 w3.o, C3, L3, counts_eq, truD]) ?_
  refine wseq (R := fun r => r = _) (h1 := g3) (e1 := ED ns v4 v5 k t d8 d9) (by
    unfold ED
    simp -implicitDefEqProofs [em, meth1 w3.o, eh, iD, sy, truD]) ?_
  refine wseq (R := fun r => r = _) (h1 := g4) (e1 := ED ns v4 v5 k t d8 d9) (by
    unfold ED
    simp -implicitDefEqProofs [e4, dNe_int]) ?_
  refine wseq (R := fun r => r = _) (h1 := g5) (e1 := ED ns v4 v5 k t d8 d9) e5 ?_
  unfold ED
  simp -implicitDefEqProofs [meth1 W5.o, C5, L5, counts_eq, truD]
theorem law_ok : LawOk f_law := by
  refine law_of fun ns hn hb => ?_
  obtain ⟨c, h0, ec, es, st0, l0⟩ := start_ok ns
  have i0 := seal_init (h := h0)
  rw [l0] at i0
  obtain ⟨g0, q0⟩ : ∃ g0 : LH, g0 = h0 ++ [.ins "Seals" [("_marks", .ref 2)], .dT []] ++ [.lst []] := ⟨_, rfl⟩
  have K0 : Kp h0 g0 := by
    rw [q0, List.append_assoc]
    exact Kp.push _ _
  have W0 : St 0 g0 [] := ⟨⟨by rw [q0]; simp [l0], by rw [q0]; simp [l0], by simp⟩, by rw [q0]; simp [l0], by simp, StrAt.kp st0 K0, by rw [q0]; simp [l0]⟩
  obtain ⟨v, g1, e1, v0, v4, F1, _⟩ := take_ok (m := 4) W0.s (by decide) (by decide)
  have W1 := W0.sf F1
  obtain ⟨N, rfl⟩ : ∃ N : Nat, v = N := ⟨v.toNat, by omega⟩
  have key := loopF_gen (g := itN N) (t := .nm 4) (body := B1) (N := N) (fun j => .int (j : Nat))
    (fun j e g => (∃ v4 v5, e = [some (.scr ns), some (.ref 0), some (.ref 1), some (.ref 3), v4, v5, none, none, none, none]) ∧ ∃ ps, St j g ps)
    (fun r => ∃ v4 v5 g ps, r = .next [some (.scr ns), some (.ref 0), some (.ref 1), some (.ref 3), v4, v5, none, none, none, none] g ∧ St N g ps)
    (fun j e g hj hi => rfl) (by
      rintro j e g hj ⟨⟨v4, v5, rfl⟩, ps, W⟩
      refine ⟨_, rfl, ?_⟩
      obtain ⟨w5, g', ps', e, W'⟩ := b1_ok (v0 := some (.scr ns)) (v4 := some (.int (j : Nat))) (v5 := v5) (v6 := none) (v7 := none) (v8 := none) (v9 := none) W (by omega)
      have e' := e
      simp only [List.set_cons_succ, List.set_cons_zero] at e' ⊢
      rw [e']
      exact ⟨⟨_, _, rfl⟩, ps', W'⟩)
    (fun e g ⟨⟨v4, v5, he⟩, ps, W⟩ => ⟨v4, v5, g, ps, by rw [he], W⟩) N 0 [some (.scr ns), some (.ref 0), some (.ref 1), some (.ref 3), none, none, none, none, none, none] g1 (by omega) ⟨⟨_, _, rfl⟩, [], W1⟩
  obtain ⟨u4, u5, g2, ps, er, W2⟩ := key
  obtain ⟨k, g3, e3, hk, F3⟩ := dkey_ok W2.s
  obtain ⟨t, g4, e4, tl, tc, F4⟩ := word_ok F3.st
  have W4 := W2.sf (F3.trans F4)
  obtain ⟨d8, g5, e5, n8, o8, F5⟩ := no_key_ok W4.s W4.n
  have W5 := W4.sf F5
  obtain ⟨d9, g6, e6, n9, o9, F6⟩ := no_text_ok W5.s W5.n
  have W6 := W5.sf F6
  have gp : GPr (k, t) := ⟨hk, tc, by simp; omega⟩
  have key := loopF_gen (g := itN 2) (t := .nm 4) (body := B2) (N := 2) (fun j => .int (j : Nat))
    (fun j e g => (∃ v4, e = ED ns v4 u5 k t d8 d9) ∧ ∃ ps, St (N + j) g ps ∧ Od g d8 ∧ Od g d9)
    (fun r => ∃ e g, r = .next e g)
    (fun j e g hj hi => rfl) (by
      rintro j e g hj ⟨⟨v4, rfl⟩, ps, W, o8, o9⟩
      refine ⟨ED ns (some (.int (j : Nat))) u5 k t d8 d9, rfl, ?_⟩
      obtain ⟨g', ps', e, W'⟩ := b2_ok (ns := ns) (v4 := some (.int (j : Nat))) (v5 := u5) W (by omega) gp tl o8 o9 n8 n9
      rw [e]
      exact ⟨⟨_, rfl⟩, ps', W'⟩)
    (fun e g _ => ⟨e, g, rfl⟩) 2 0 (ED ns u4 u5 k t d8 d9) g6 (by omega) ⟨⟨_, rfl⟩, ps, W6, o8.sf F6, o9⟩
  obtain ⟨e, g, er2⟩ := key
  unfold b_law
  refine wseq (h1 := h0) (e1 := [some (.scr ns), some (.ref 0), none, none, none, none, none, none, none, none]) (by
    simp -implicitDefEqProofs [ec, es]) ?_
  refine wseq (h1 := h0 ++ [.ins "Seals" [("_marks", .ref 2)], .dT []]) (e1 := [some (.scr ns), some (.ref 0), some (.ref 1), none, none, none, none, none, none, none]) (by
    simp -implicitDefEqProofs [i0]) ?_
  refine wseq (h1 := g0) (e1 := [some (.scr ns), some (.ref 0), some (.ref 1), some (.ref 3), none, none, none, none, none, none]) (by
    rw [q0]
    simp -implicitDefEqProofs [l0]) ?_
  refine wseq (h1 := g2) (e1 := [some (.scr ns), some (.ref 0), some (.ref 1), some (.ref 3), u4, u5, none, none, none, none]) (by
    rw [ev_for]
    have er1 := rng1_nat (n := N) (a := mCons (mApp L.f__law_take (mCons (mVar 1) (mCons (mC (.int 4)) mNil))) mNil) (e := [some (.scr ns), some (.ref 0), some (.ref 1), some (.ref 3), none, none, none, none, none, none]) (h := g0) (h1 := g1) (by
      simp -implicitDefEqProofs [e1]) (by omega)
    rw [er1]
    exact er) ?_
  refine wseq (h1 := g3) (e1 := [some (.scr ns), some (.ref 0), some (.ref 1), some (.ref 3), u4, u5, some (.str k), none, none, none]) (by
    simp -implicitDefEqProofs [e3]) ?_
  refine wseq (h1 := g4) (e1 := [some (.scr ns), some (.ref 0), some (.ref 1), some (.ref 3), u4, u5, some (.str k), some (.str t), none, none]) (by
    simp -implicitDefEqProofs [e4]) ?_
  refine wseq (h1 := g5) (e1 := [some (.scr ns), some (.ref 0), some (.ref 1), some (.ref 3), u4, u5, some (.str k), some (.str t), some d8, none]) (by
    simp -implicitDefEqProofs [e5]) ?_
  refine wseq (h1 := g6) (e1 := ED ns u4 u5 k t d8 d9) (by
    unfold ED
    simp -implicitDefEqProofs [e6]) ?_
  refine wseq (h1 := g) (e1 := e) (by
    rw [ev_for]
    exact er2) ?_
  exact ⟨g, by simp -implicitDefEqProofs []⟩
end G
set_option Elab.async false
set_option linter.all false
set_option maxRecDepth 100000
set_option maxHeartbeats 4000000
open PySem PySem.W PyProof.Rows
set_option maxRecDepth 100000 in
set_option maxHeartbeats 0 in
theorem PySem.Challenge.cw_sealchart_k13_what_an_office_refuses_holds : PySem.Challenge.rw_sealchart_k13_what_an_office_refuses.Holds := by
  w_on; o_law; k_head; (case hw => w_witness2)
  k_fill
  refine G.walk (l := PySem.Challenge.rw_sealchart_k13_what_an_office_refuses) G.law_ok rfl rfl (fun w h Y => PySem.W.kIn_of Y) ?F
  case F =>
    intro w mg fa h KX GG hmg
    refine' G.all_mk KX GG hmg ?aCSeals ?pgSeals ?hdSeals ?poSeals ?saSeals ?mkSeals ?kcSeals ?nSeals__marks ?a0 ?l0 ?c0 ?k0 ?a1 ?l1 ?c1 ?k1 ?a2 ?l2 ?c2 ?k2 ?a3 ?l3 ?c3 ?k3 ?a4 ?l4 ?c4 ?k4 ?a5 ?i5 ?l5 ?c5 ?k5 ?a6 ?i6 ?l6 ?c6 ?k6 ?a7 ?i7 ?l7 ?c7 ?k7 ?a8 ?i8 ?l8 ?c8 ?k8 ?a9 ?l9 ?c9 ?k9 ?a10 ?l10 ?c10 ?k10 ?a11 ?l11 ?c11 ?k11 ?a12 ?l12 ?c12 ?k12 ?a13 ?l13 ?c13 ?k13 ?a14 ?l14 ?c14 ?k14 ?a15 ?l15 ?c15 ?k15 ?a16 ?l16 ?c16 ?k16 ?a17 ?l17 ?c17 ?k17 ?a18 ?l18 ?c18 ?k18 ?a19 ?l19 ?c19 ?k19 ?a20 ?l20 ?c20 ?k20 ?a21 ?l21 ?c21 ?k21 ?a22 ?l22 ?c22 ?k22 ?a23 ?l23 ?c23 ?k23 ?e1ChartError ?e3ChartError ?e4ChartError ?e5ChartError ?e1BadText ?e3BadText ?e4BadText ?e5BadText ?e1BadKey ?e3BadKey ?e4BadKey ?e5BadKey ?e2ChartError ?e2BadText ?e2BadKey ?e6BadKey ?e7ChartErrorBadKey ?e7BadTextBadKey ?e7BadKeyBadKey ?e6BadText ?e7ChartErrorBadText ?e7BadTextBadText ?e7BadKeyBadText ?e6ChartError ?e7ChartErrorChartError ?e7BadTextChartError ?e7BadKeyChartError ?e91 ?e92 ?e9ChartErrora ?e9ChartErrorb ?e9ChartErrorc ?e9ChartErrord ?e9ChartErrore ?e8ChartErrorBadKey ?e8ChartErrorBadText ?e8ChartErrorChartError ?e9BadTexta ?e9BadTextb ?e9BadTextc ?e9BadTextd ?e9BadTexte ?e8BadTextBadKey ?e8BadTextBadText ?e8BadTextChartError ?e9BadKeya ?e9BadKeyb ?e9BadKeyc ?e9BadKeyd ?e9BadKeye ?e8BadKeyBadKey ?e8BadKeyBadText ?e8BadKeyChartError ?z_bool ?z_int ?z_isinstance ?z_len ?z_ord ?z_range ?z_str ?g_DIGITS ?g_DIVISOR ?g_FACTOR ?g_MOST_NAME
    (case aCSeals => k_is); (case pgSeals => k_is); (case hdSeals => k_is); (case poSeals => k_is); (case saSeals => k_is); (case mkSeals => k_is)
    (case kcSeals => k_is); (case nSeals__marks => k_is); (case a0 => k_is); (case l0 => k_is); (case c0 => k_is); (case k0 => k_is)
    (case a1 => k_is); (case l1 => k_is); (case c1 => k_is); (case k1 => k_is); (case a2 => k_is); (case l2 => k_is)
    (case c2 => k_is); (case k2 => k_is); (case a3 => k_is); (case l3 => k_is); (case c3 => k_is); (case k3 => k_is)
    (case a4 => k_is); (case l4 => k_is); (case c4 => k_is); (case k4 => k_is); (case a5 => k_is); (case i5 => k_is)
    (case l5 => k_is); (case c5 => k_is); (case k5 => k_is); (case a6 => k_is); (case i6 => k_is); (case l6 => k_is)
    (case c6 => k_is); (case k6 => k_is); (case a7 => k_is); (case i7 => k_is); (case l7 => k_is); (case c7 => k_is)
    (case k7 => k_is); (case a8 => k_is); (case i8 => k_is); (case l8 => k_is); (case c8 => k_is); (case k8 => k_is)
    (case a9 => k_is); (case l9 => k_is); (case c9 => k_is); (case k9 => k_is); (case a10 => k_is); (case l10 => k_is)
    (case c10 => k_is); (case k10 => k_is); (case a11 => k_is); (case l11 => k_is); (case c11 => k_is); (case k11 => k_is)
    (case a12 => k_is); (case l12 => k_is); (case c12 => k_is); (case k12 => k_is); (case a13 => k_is); (case l13 => k_is)
    (case c13 => k_is); (case k13 => k_is); (case a14 => k_is); (case l14 => k_is); (case c14 => k_is); (case k14 => k_is)
    (case a15 => k_is); (case l15 => k_is); (case c15 => k_is); (case k15 => k_is); (case a16 => k_is); (case l16 => k_is)
    (case c16 => k_is); (case k16 => k_is); (case a17 => k_is); (case l17 => k_is); (case c17 => k_is); (case k17 => k_is)
    (case a18 => k_is); (case l18 => k_is); (case c18 => k_is); (case k18 => k_is); (case a19 => k_is); (case l19 => k_is)
    (case c19 => k_is); (case k19 => k_is); (case a20 => k_is); (case l20 => k_is); (case c20 => k_is); (case k20 => k_is)
    (case a21 => k_is); (case l21 => k_is); (case c21 => k_is); (case k21 => k_is); (case a22 => k_is); (case l22 => k_is)
    (case c22 => k_is); (case k22 => k_is); (case a23 => k_is); (case l23 => k_is); (case c23 => k_is); (case k23 => k_is)
    (case e1ChartError => k_is); (case e3ChartError => k_is); (case e4ChartError => k_is); (case e5ChartError => k_is); (case e1BadText => k_is); (case e3BadText => k_is)
    (case e4BadText => k_is); (case e5BadText => k_is); (case e1BadKey => k_is); (case e3BadKey => k_is); (case e4BadKey => k_is); (case e5BadKey => k_is)
    (case e2ChartError => k_exc); (case e2BadText => k_exc); (case e2BadKey => k_exc); (case e6BadKey => k_is); (case e7ChartErrorBadKey => first | rfl | k_is); (case e7BadTextBadKey => first | rfl | k_is)
    (case e7BadKeyBadKey => first | rfl | k_is); (case e6BadText => k_is); (case e7ChartErrorBadText => first | rfl | k_is); (case e7BadTextBadText => first | rfl | k_is); (case e7BadKeyBadText => first | rfl | k_is); (case e6ChartError => k_is)
    (case e7ChartErrorChartError => first | rfl | k_is); (case e7BadTextChartError => first | rfl | k_is); (case e7BadKeyChartError => first | rfl | k_is); (case e91 => k_is); (case e92 => k_is); (case e9ChartErrora => k_is)
    (case e9ChartErrorb => k_is); (case e9ChartErrorc => k_is); (case e9ChartErrord => k_is); (case e9ChartErrore => k_is); (case e8ChartErrorBadKey => first | rfl | k_is); (case e8ChartErrorBadText => first | rfl | k_is)
    (case e8ChartErrorChartError => first | rfl | k_is); (case e9BadTexta => k_is); (case e9BadTextb => k_is); (case e9BadTextc => k_is); (case e9BadTextd => k_is); (case e9BadTexte => k_is)
    (case e8BadTextBadKey => first | rfl | k_is); (case e8BadTextBadText => first | rfl | k_is); (case e8BadTextChartError => first | rfl | k_is); (case e9BadKeya => k_is); (case e9BadKeyb => k_is); (case e9BadKeyc => k_is)
    (case e9BadKeyd => k_is); (case e9BadKeye => k_is); (case e8BadKeyBadKey => first | rfl | k_is); (case e8BadKeyBadText => first | rfl | k_is); (case e8BadKeyChartError => first | rfl | k_is); (case z_bool => k_is)
    (case z_int => k_is); (case z_isinstance => k_is); (case z_len => k_is); (case z_ord => k_is); (case z_range => k_is); (case z_str => k_is)
    (case g_DIGITS => k_is); (case g_DIVISOR => k_is); (case g_FACTOR => k_is); (case g_MOST_NAME => k_is)
