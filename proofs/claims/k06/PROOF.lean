import PyProof.Rows.All
import Wide.All
import OpenK.AllK
import Wide.FinOn
import HandS.ForMost
import HandS.ForExc
import HandS.Wide
import HandS.EndBits
import HandS.IsInst
import HandS.Conv
import HandS.TupAny
import PyProof.Rows.StrIntSpec
import PyProof.FString3
import HandS.FStr
import HandS.Replace
import HandS.Style
import KE.KRevSl
import PyProof.SliceStr2
import PySem.Challenge.RW_sealchart_k06_matches_by_a_table
set_option Elab.async false
set_option linter.all false
set_option maxRecDepth 100000
set_option maxHeartbeats 4000000
namespace HM
open PySem L2

/-! ### values, objects, results of the mirrors -/
inductive D where
  | non | bl (b : Bool) | int (i : Int) | str (s : List Nat) | tup (xs : List D) | ref (i : Nat) | scr (ns : List Int)
  deriving Inhabited
inductive LO where
  | lst (xs : List D)
  | ins (c : String) (fs : List (String × D))
  | dK (kvs : List (Sum Int (List Nat) × D))
  | dT (kvs : List (List (Sum Int (List Nat)) × D))
  deriving Inhabited
abbrev LH := List LO
abbrev EN := List (Option D)
structure XO where
  cls : String
  flds : List (String × D)
inductive Res (α : Type) where
  | ok (a : α) (h : LH)
  | exc (e : XO) (h : LH)
  | bad
def Res.bind {α β : Type} (x : Res α) (f : α → LH → Res β) : Res β := match x with
  | .ok a h => f a h
  | .exc e h => .exc e h
  | .bad => .bad
abbrev M (α : Type) := EN → LH → Res α
abbrev MF := List D → LH → Res D
inductive RSt where
  | next (e : EN) (h : LH)
  | ret (d : D) (h : LH)
  | brk (e : EN) (h : LH)
  | cnt (e : EN) (h : LH)
  | exc (x : XO) (e : EN) (h : LH)
  | bad
abbrev MS := EN → LH → RSt

/-! ### the relations -/
mutual
inductive RD (K : PySem.W.Frag) (φ : Nat → Addr) (n : Nat) (H : Hp) : D → V → Prop
  | non : RD K φ n H .non .non
  | bl (b : Bool) : RD K φ n H (.bl b) (.bl b)
  | int (i : Int) : RD K φ n H (.int i) (.int i)
  | str (s : List Nat) : RD K φ n H (.str s) (.str ⟨s.toArray⟩)
  | tup {xs : List D} {vs : List V} {a : Addr} : SqT K H a vs → RDs K φ n H xs vs → RD K φ n H (.tup xs) (.ref a)
  | ref {i : Nat} : i < n → RD K φ n H (.ref i) (.ref (φ i))
  | scr {ns : List Int} {a : Addr} : ((∃ o, H a = some (.frz o (.lst (ns.map V.int)))) ∨ (∃ (o : Obj) (its : Array Value) (m : Nat), K.lookup a = some o ∧ o.cls = .type "list" ∧ o.dict = none ∧ o.data = .seq its m ∧ its.size ≤ sizeLine ∧ Vals (ns.map V.int) its.toList)) → RD K φ n H (.scr ns) (.ref a)
inductive RDs (K : PySem.W.Frag) (φ : Nat → Addr) (n : Nat) (H : Hp) : List D → List V → Prop
  | nil : RDs K φ n H [] []
  | cons {d : D} {v : V} {ds : List D} {vs : List V} : RD K φ n H d v → RDs K φ n H ds vs → RDs K φ n H (d :: ds) (v :: vs)
end
def kc : Sum Int (List Nat) → Key
  | .inl i => .inl i
  | .inr s => .inr ⟨s.toArray⟩
inductive RF (K : PySem.W.Frag) (φ : Nat → Addr) (n : Nat) (H : Hp) : List (String × D) → List (Str × V) → Prop
  | nil : RF K φ n H [] []
  | cons {f : String} {d : D} {v : V} {ds : List (String × D)} {vs : List (Str × V)} : RD K φ n H d v → RF K φ n H ds vs → RF K φ n H ((f, d) :: ds) ((Str.ofString f, v) :: vs)
inductive RKs (K : PySem.W.Frag) (φ : Nat → Addr) (n : Nat) (H : Hp) : List (Sum Int (List Nat) × D) → List (Key × V) → Prop
  | nil : RKs K φ n H [] []
  | cons {k : Sum Int (List Nat)} {d : D} {v : V} {ds : List (Sum Int (List Nat) × D)} {vs : List (Key × V)} : RD K φ n H d v → RKs K φ n H ds vs → RKs K φ n H ((k, d) :: ds) ((kc k, v) :: vs)
inductive RTs (K : PySem.W.Frag) (φ : Nat → Addr) (n : Nat) (H : Hp) : List (List (Sum Int (List Nat)) × D) → List (List Key × V) → Prop
  | nil : RTs K φ n H [] []
  | cons {k : List (Sum Int (List Nat))} {d : D} {v : V} {ds : List (List (Sum Int (List Nat)) × D)} {vs : List (List Key × V)} : RD K φ n H d v → RTs K φ n H ds vs → RTs K φ n H ((k, d) :: ds) ((k.map kc, v) :: vs)
/-- an object of the logical heap stands at a -/
def OA (K : PySem.W.Frag) (mg : Str → Option Value) (φ : Nat → Addr) (n : Nat) (H : Hp) (a : Addr) : LO → Prop
  | .lst ds => ∃ vs, H a = some (.lst vs) ∧ RDs K φ n H ds vs
  | .ins c fs => ∃ C dx vs, mg (Str.ofString c) = some (.ref C) ∧ H a = some (.ins C dx vs) ∧ RF K φ n H fs vs
  | .dK kvs => ∃ vs, H a = some (.dK vs) ∧ RKs K φ n H kvs vs
  | .dT kvs => ∃ vs, H a = some (.dT vs) ∧ RTs K φ n H kvs vs
structure HR (K : PySem.W.Frag) (mg : Str → Option Value) (φ : Nat → Addr) (lh : LH) (H : Hp) : Prop where
  inj : ∀ i j, i < lh.length → j < lh.length → φ i = φ j → i = j
  obj : ∀ i o, lh[i]? = some o → OA K mg φ lh.length H (φ i) o
structure Ext (H H' : Hp) : Prop where
  tup : ∀ a xs, H a = some (.tup xs) → H' a = some (.tup xs)
  frz : ∀ a o u, H a = some (.frz o u) → H' a = some (.frz o u)
theorem Ext.refl (H : Hp) : Ext H H := ⟨fun _ _ h => h, fun _ _ _ h => h⟩
theorem Ext.trans {H H1 H2 : Hp} (a : Ext H H1) (b : Ext H1 H2) : Ext H H2 := ⟨fun x xs h => b.tup x xs (a.tup x xs h), fun x o u h => b.frz x o u (a.frz x o u h)⟩
/-- a state behind another -/
structure Po (K : PySem.W.Frag) (mg : Str → Option Value) (φ : Nat → Addr) (lh : LH) (H : Hp) (φ' : Nat → Addr) (lh' : LH) (H' : Hp) : Prop where
  le : lh.length ≤ lh'.length
  ag : ∀ i, i < lh.length → φ' i = φ i
  ext : Ext H H'
  hr : HR K mg φ' lh' H'
section
variable {K : PySem.W.Frag} {mg : Str → Option Value} {φ φ' φ1 φ2 : Nat → Addr} {lh lh' lh1 lh2 : LH} {H H' H1 H2 : Hp} {n n' : Nat}
theorem Po.refl (h : HR K mg φ lh H) : Po K mg φ lh H φ lh H := ⟨Nat.le_refl _, fun _ _ => rfl, Ext.refl H, h⟩
theorem Po.trans (a : Po K mg φ lh H φ1 lh1 H1) (b : Po K mg φ1 lh1 H1 φ2 lh2 H2) : Po K mg φ lh H φ2 lh2 H2 :=
  ⟨Nat.le_trans a.le b.le, fun i hi => (b.ag i (Nat.lt_of_lt_of_le hi a.le)).trans (a.ag i hi), a.ext.trans b.ext, b.hr⟩
theorem sqT_ext {a : Addr} {vs : List V} (e : Ext H H') (h : SqT K H a vs) : SqT K H' a vs := by
  rcases h with (h | ⟨o, h⟩) | h
  · exact .inl (.inl (e.tup _ _ h))
  · exact .inl (.inr ⟨o, e.frz _ _ _ h⟩)
  · exact .inr h
mutual
theorem RD.mono (hn : n ≤ n') (ag : ∀ i, i < n → φ' i = φ i) (e : Ext H H') : ∀ {d : D} {v : V}, RD K φ n H d v → RD K φ' n' H' d v
  | _, _, .non => .non
  | _, _, .bl b => .bl b
  | _, _, .int i => .int i
  | _, _, .str s => .str s
  | _, _, .tup h r => .tup (sqT_ext e h) (RDs.mono hn ag e r)
  | _, _, .ref (i := i) h => by
    have q := ag i h
    rw [← q]
    exact .ref (Nat.lt_of_lt_of_le h hn)
  | _, _, .scr h => .scr (h.imp (fun ⟨o, h⟩ => ⟨o, e.frz _ _ _ h⟩) id)
theorem RDs.mono (hn : n ≤ n') (ag : ∀ i, i < n → φ' i = φ i) (e : Ext H H') : ∀ {d : List D} {v : List V}, RDs K φ n H d v → RDs K φ' n' H' d v
  | _, _, .nil => .nil
  | _, _, .cons h r => .cons (RD.mono hn ag e h) (RDs.mono hn ag e r)
end
theorem RF.mono (hn : n ≤ n') (ag : ∀ i, i < n → φ' i = φ i) (e : Ext H H') {d v} (r : RF K φ n H d v) : RF K φ' n' H' d v := by
  induction r with
  | nil => exact .nil
  | cons h _ ih => exact .cons (h.mono hn ag e) ih
theorem RKs.mono (hn : n ≤ n') (ag : ∀ i, i < n → φ' i = φ i) (e : Ext H H') {d v} (r : RKs K φ n H d v) : RKs K φ' n' H' d v := by
  induction r with
  | nil => exact .nil
  | cons h _ ih => exact .cons (h.mono hn ag e) ih
theorem RTs.mono (hn : n ≤ n') (ag : ∀ i, i < n → φ' i = φ i) (e : Ext H H') {d v} (r : RTs K φ n H d v) : RTs K φ' n' H' d v := by
  induction r with
  | nil => exact .nil
  | cons h _ ih => exact .cons (h.mono hn ag e) ih
theorem RD.up (p : Po K mg φ lh H φ' lh' H') {d : D} {v : V} (r : RD K φ lh.length H d v) : RD K φ' lh'.length H' d v := r.mono p.le p.ag p.ext
theorem RDs.up (p : Po K mg φ lh H φ' lh' H') {d : List D} {v : List V} (r : RDs K φ lh.length H d v) : RDs K φ' lh'.length H' d v := r.mono p.le p.ag p.ext
theorem RDs.len {d : List D} {v : List V} (r : RDs K φ n H d v) : d.length = v.length := by
  induction d generalizing v with
  | nil => cases r; rfl
  | cons a l ih =>
    cases r with
    | cons h q => rw [List.length_cons, List.length_cons, ih q]
theorem RDs.get {d : List D} {v : List V} (r : RDs K φ n H d v) {i : Nat} {x : D} (h : d[i]? = some x) : ∃ y, v[i]? = some y ∧ RD K φ n H x y := by
  induction d generalizing v i with
  | nil => simp at h
  | cons a l ih =>
    cases r with
    | cons ha q =>
      cases i with
      | zero =>
        simp only [List.getElem?_cons_zero, Option.some.injEq] at h ⊢
        subst h
        exact ⟨_, rfl, ha⟩
      | succ i =>
        simp only [List.getElem?_cons_succ] at h ⊢
        exact ih q h
theorem RDs.get' {d : List D} {v : List V} (r : RDs K φ n H d v) {i : Nat} {y : V} (h : v[i]? = some y) : ∃ x, d[i]? = some x ∧ RD K φ n H x y := by
  have hl := r.len
  have hi := (List.getElem?_eq_some_iff.mp h).1
  obtain ⟨y', e, q⟩ := r.get (i := i) (x := d[i]'(by omega)) (by simp)
  rw [h] at e
  cases e
  exact ⟨_, by simp, q⟩
theorem RDs.app {d e : List D} {v w : List V} (r : RDs K φ n H d v) (q : RDs K φ n H e w) : RDs K φ n H (d ++ e) (v ++ w) := by
  induction d generalizing v with
  | nil => cases r; exact q
  | cons a l ih =>
    cases r with
    | cons h t => exact .cons h (ih t)
theorem RDs.take {d : List D} {v : List V} (r : RDs K φ n H d v) (i : Nat) : RDs K φ n H (d.take i) (v.take i) := by
  induction d generalizing v i with
  | nil => cases r; simp; exact .nil
  | cons a l ih =>
    cases r with
    | cons h t =>
      cases i with
      | zero => exact .nil
      | succ i => exact .cons h (ih t i)
theorem RDs.drop {d : List D} {v : List V} (r : RDs K φ n H d v) (i : Nat) : RDs K φ n H (d.drop i) (v.drop i) := by
  induction d generalizing v i with
  | nil => cases r; simp; exact .nil
  | cons a l ih =>
    cases r with
    | cons h t =>
      cases i with
      | zero => exact .cons h t
      | succ i => exact ih t i
theorem RDs.set {d : List D} {v : List V} (r : RDs K φ n H d v) {x : D} {y : V} (q : RD K φ n H x y) (i : Nat) : RDs K φ n H (d.set i x) (v.set i y) := by
  induction d generalizing v i with
  | nil => cases r; exact .nil
  | cons a l ih =>
    cases r with
    | cons h t =>
      cases i with
      | zero => exact .cons q t
      | succ i => exact .cons h (ih t i)
theorem OA.mono (hn : n ≤ n') (ag : ∀ i, i < n → φ' i = φ i) (e : Ext H H') {a : Addr} (ha : H' a = H a) : ∀ {o : LO}, OA K mg φ n H a o → OA K mg φ' n' H' a o
  | .lst _, ⟨vs, h, r⟩ => ⟨vs, ha.trans h, r.mono hn ag e⟩
  | .ins _ _, ⟨C, dx, vs, m, h, r⟩ => ⟨C, dx, vs, m, ha.trans h, r.mono hn ag e⟩
  | .dK _, ⟨vs, h, r⟩ => ⟨vs, ha.trans h, r.mono hn ag e⟩
  | .dT _, ⟨vs, h, r⟩ => ⟨vs, ha.trans h, r.mono hn ag e⟩
theorem OA.some {a : Addr} : ∀ {o : LO}, OA K mg φ n H a o → ∃ u, H a = some u ∧ (∀ xs, u ≠ .tup xs) ∧ ∀ ob w, u ≠ .frz ob w
  | .lst _, ⟨vs, h, r⟩ => ⟨_, h, fun _ z => by (cases z), fun _ _ z => by (cases z)⟩
  | .ins _ _, ⟨C, dx, vs, m, h, r⟩ => ⟨_, h, fun _ z => by (cases z), fun _ _ z => by (cases z)⟩
  | .dK _, ⟨vs, h, r⟩ => ⟨_, h, fun _ z => by (cases z), fun _ _ z => by (cases z)⟩
  | .dT _, ⟨vs, h, r⟩ => ⟨_, h, fun _ z => by (cases z), fun _ _ z => by (cases z)⟩
theorem HR.lt_some (h : HR K mg φ lh H) {i : Nat} (hi : i < lh.length) : ∃ u, H (φ i) = Option.some u ∧ (∀ xs, u ≠ .tup xs) ∧ ∀ ob w, u ≠ .frz ob w :=
  (h.obj i lh[i] (by simp [hi])).some
theorem Ext.new {p : Addr} {o : HO} (hp : H p = none) : Ext H (upd H p o) :=
  ⟨fun a xs h => by rw [upd_ne (ne_of_none h hp)]; exact h, fun a ob u h => by rw [upd_ne (ne_of_none h hp)]; exact h⟩
theorem Ext.put {p : Addr} {o u : HO} (hp : H p = some u) (h1 : ∀ xs, u ≠ .tup xs) (h2 : ∀ ob w, u ≠ .frz ob w) : Ext H (upd H p o) := by
  refine ⟨fun a xs h => ?_, fun a ob w h => ?_⟩
  · rw [upd_ne]
    · exact h
    · rintro rfl
      rw [hp] at h
      exact h1 _ (Option.some.inj h)
  · rw [upd_ne]
    · exact h
    · rintro rfl
      rw [hp] at h
      exact h2 _ _ (Option.some.inj h)
/-- a new object that is not of the logical heap (a tuple) -/
theorem Po.side {p : Addr} {o : HO} (h : HR K mg φ lh H) (hp : H p = none) : Po K mg φ lh H φ lh (upd H p o) := by
  have e : Ext H (upd H p o) := Ext.new hp
  refine ⟨Nat.le_refl _, fun _ _ => rfl, e, h.inj, fun i u hi => (h.obj i u hi).mono (Nat.le_refl _) (fun _ _ => rfl) e ?_⟩
  obtain ⟨w, hw, _⟩ := (h.obj i u hi).some
  exact upd_ne (ne_of_none hw hp)
def ext1 (φ : Nat → Addr) (n : Nat) (p : Addr) : Nat → Addr := fun i => if i = n then p else φ i
theorem ext1_lt {p : Addr} {i : Nat} (h : i < n) : ext1 φ n p i = φ i := by
  unfold ext1; rw [if_neg (Nat.ne_of_lt h)]
theorem ext1_at {p : Addr} : ext1 φ n p n = p := by
  unfold ext1; rw [if_pos rfl]
/-- a new object of the logical heap -/
theorem Po.new {p : Addr} {o : HO} {u : LO} (h : HR K mg φ lh H) (hp : H p = none)
    (ho : OA K mg (ext1 φ lh.length p) (lh.length + 1) (upd H p o) p u) : Po K mg φ lh H (ext1 φ lh.length p) (lh ++ [u]) (upd H p o) := by
  have e : Ext H (upd H p o) := Ext.new hp
  have hl : (lh ++ [u]).length = lh.length + 1 := by simp
  have hne : ∀ i, i < lh.length → φ i ≠ p := fun i hi z => by
    obtain ⟨w, hw, _⟩ := h.lt_some hi
    rw [z, hp] at hw
    cases hw
  refine ⟨by omega, fun i hi => ext1_lt hi, e, fun i j hi hj z => ?_, fun i w hi => ?_⟩
  · rw [hl] at hi hj
    by_cases c : i = lh.length
    · by_cases d : j = lh.length
      · omega
      · subst c
        rw [ext1_at, ext1_lt (by omega)] at z
        exact absurd z.symm (hne j (by omega))
    · by_cases d : j = lh.length
      · subst d
        rw [ext1_at, ext1_lt (by omega)] at z
        exact absurd z (hne i (by omega))
      · rw [ext1_lt (by omega), ext1_lt (by omega)] at z
        exact h.inj i j (by omega) (by omega) z
  · rw [hl]
    by_cases c : i = lh.length
    · subst c
      rw [List.getElem?_append_right (Nat.le_refl _), Nat.sub_self] at hi
      simp only [List.getElem?_cons_zero, Option.some.injEq] at hi
      subst hi
      rw [ext1_at]
      exact ho
    · have hi2 : i < lh.length := by
        have := (List.getElem?_eq_some_iff.mp hi).1
        rw [hl] at this
        omega
      rw [List.getElem?_append_left hi2] at hi
      rw [ext1_lt hi2]
      exact (h.obj i w hi).mono (by omega) (fun j hj => ext1_lt hj) e (upd_ne (hne i hi2))
/-- an object of the logical heap is changed -/
theorem Po.put {i : Nat} {o : HO} {u : LO} (h : HR K mg φ lh H) (hi : i < lh.length) (ho : OA K mg φ lh.length (upd H (φ i) o) (φ i) u) : Po K mg φ lh H φ (lh.set i u) (upd H (φ i) o) := by
  obtain ⟨w, hw, h1, h2⟩ := h.lt_some hi
  have e : Ext H (upd H (φ i) o) := Ext.put hw h1 h2
  refine ⟨by simp, fun _ _ => rfl, e, by simpa using h.inj, fun j x hj => ?_⟩
  rw [List.length_set]
  by_cases c : j = i
  · subst c
    rw [List.getElem?_set_self hi] at hj
    cases hj
    exact ho
  · rw [List.getElem?_set_ne (Ne.symm c)] at hj
    have hj2 := (List.getElem?_eq_some_iff.mp hj).1
    exact (h.obj j x hj).mono (Nat.le_refl _) (fun _ _ => rfl) e (upd_ne fun z => c (h.inj j i hj2 hi z))
end

/-! ### the slots -/
structure RS (K : PySem.W.Frag) (φ : Nat → Addr) (n : Nat) (H : Hp) (env : EN) (σ : L2.St) : Prop where
  len : env.length = σ.length
  at' : ∀ (i : Nat) (d : D), env[i]? = some (some d) → ∃ v, σ[i]? = some (some v) ∧ RD K φ n H d v
section
variable {K : PySem.W.Frag} {mg : Str → Option Value} {φ φ' : Nat → Addr} {lh lh' : LH} {H H' : Hp} {n : Nat} {env : EN} {σ : L2.St}
theorem RS.up (p : Po K mg φ lh H φ' lh' H') (r : RS K φ lh.length H env σ) : RS K φ' lh'.length H' env σ := ⟨r.len, fun i d h => by
  obtain ⟨v, e, q⟩ := r.at' i d h
  exact ⟨v, e, q.up p⟩⟩
theorem RS.set (r : RS K φ n H env σ) {d : D} {v : V} (q : RD K φ n H d v) (i : Nat) : RS K φ n H (env.set i (some d)) (σ.set i (some v)) := by
  refine ⟨by simpa using r.len, fun j x h => ?_⟩
  by_cases c : i = j
  · subst c
    have hi := (List.getElem?_eq_some_iff.mp h).1
    rw [List.length_set] at hi
    rw [List.getElem?_set_self hi] at h
    cases h
    exact ⟨v, by rw [List.getElem?_set_self (by rw [← r.len]; exact hi)], q⟩
  · rw [List.getElem?_set_ne c] at h
    obtain ⟨w, e, q⟩ := r.at' j x h
    exact ⟨w, by rw [List.getElem?_set_ne c]; exact e, q⟩
theorem RS.clear (r : RS K φ n H env σ) (i : Nat) : RS K φ n H (env.set i none) (σ.set i none) := by
  refine ⟨by simpa using r.len, fun j x h => ?_⟩
  by_cases c : i = j
  · subst c
    have hi := (List.getElem?_eq_some_iff.mp h).1
    rw [List.length_set] at hi
    rw [List.getElem?_set_self hi] at h
    cases h
  · rw [List.getElem?_set_ne c] at h
    obtain ⟨w, e, q⟩ := r.at' j x h
    exact ⟨w, by rw [List.getElem?_set_ne c]; exact e, q⟩
end

/-! ### readings from mirrors -/
/-- an exception as it flies -/
def ER (K : PySem.W.Frag) (mg : Str → Option Value) (φ : Nat → Addr) (n : Nat) (H : Hp) (e : XO) (cls : Value) (dd : Option Addr) : Prop :=
  ∃ C, mg (Str.ofString e.cls) = some (.ref C) ∧ cls = .ref C ∧ (e.flds ≠ [] → ∃ a vs, dd = some a ∧ H a = some (.xd vs) ∧ RF K φ n H e.flds vs)
section
variable (K : PySem.W.Frag) (mg : Str → Option Value) (W : WX) (σ : L2.St)
def wp {α β : Type} (R : (Nat → Addr) → Nat → Hp → α → β → Prop) (x : Res α) (φ : Nat → Addr) (lh : LH) (H : Hp) (Q : β → Hp → Prop) : Prop :=
  match x with
  | .ok d lh' => ∀ φ' v H', Po K mg φ lh H φ' lh' H' → R φ' lh'.length H' d v → Q v H'
  | .exc e lh' => ∀ φ' cls dd H', Po K mg φ lh H φ' lh' H' → ER K mg φ' lh'.length H' e cls dd → W cls dd σ H'
  | .bad => False
end
abbrev REq {α : Type} : (Nat → Addr) → Nat → Hp → α → α → Prop := fun _ _ _ a b => a = b
section
variable (K : PySem.W.Frag) (mg : Str → Option Value) (W : WX)
def rd {α β : Type} (R : (Nat → Addr) → Nat → Hp → α → β → Prop) (m : M α) : L2.St → Hp → (β → Hp → Prop) → Prop := fun σ H Q =>
  ∃ φ env lh, HR K mg φ lh H ∧ RS K φ lh.length H env σ ∧ wp K mg W σ R (m env lh) φ lh H Q
abbrev rdE (m : M D) : TE := rd K mg W (RD K) m
abbrev rdT (m : M Bool) : TT := rd K mg W REq m
abbrev rdA (m : M (List D)) : TA := rd K mg W (RDs K) m
def rdS (m : MS) : TS := fun D σ H => ∃ φ env lh, HR K mg φ lh H ∧ RS K φ lh.length H env σ ∧ match m env lh with
  | .next env' lh' => ∀ φ' σ' H', Po K mg φ lh H φ' lh' H' → RS K φ' lh'.length H' env' σ' → D.nx σ' H'
  | .ret d lh' => ∀ φ' v H', Po K mg φ lh H φ' lh' H' → RD K φ' lh'.length H' d v → D.rt v H'
  | .brk env' lh' => ∀ φ' σ' H', Po K mg φ lh H φ' lh' H' → RS K φ' lh'.length H' env' σ' → D.bk σ' H'
  | .cnt env' lh' => ∀ φ' σ' H', Po K mg φ lh H φ' lh' H' → RS K φ' lh'.length H' env' σ' → D.ct σ' H'
  | .exc e env' lh' => ∀ φ' cls dd σ' H', Po K mg φ lh H φ' lh' H' → ER K mg φ' lh'.length H' e cls dd → RS K φ' lh'.length H' env' σ' → W cls dd σ' H'
  | .bad => False
end
section
variable {K : PySem.W.Frag} {mg : Str → Option Value} {W : WX} {σ : L2.St} {φ φ' : Nat → Addr} {lh lh' : LH} {H H' : Hp}
theorem wp_ok {α β : Type} {R : (Nat → Addr) → Nat → Hp → α → β → Prop} {d : α} {v : β} {Q : β → Hp → Prop} (h : wp K mg W σ R (.ok d lh') φ lh H Q) (p : Po K mg φ lh H φ' lh' H') (r : R φ' lh'.length H' d v) : Q v H' := h φ' v H' p r
/-- one step, then the rest -/
theorem wp_step {α β γ δ : Type} {R : (Nat → Addr) → Nat → Hp → α → β → Prop} {R' : (Nat → Addr) → Nat → Hp → γ → δ → Prop} {x : Res α} {f : α → LH → Res γ} {Q : δ → Hp → Prop} {G : β → Hp → Prop}
    (h : wp K mg W σ R' (x.bind f) φ lh H Q) (hg : ∀ d lh1 φ1 v H1, Po K mg φ lh H φ1 lh1 H1 → R φ1 lh1.length H1 d v → wp K mg W σ R' (f d lh1) φ1 lh1 H1 Q → G v H1) : wp K mg W σ R x φ lh H G := by
  cases x with
  | ok d lh1 =>
    intro φ1 v H1 p r
    refine hg d lh1 φ1 v H1 p r ?_
    have h' : wp K mg W σ R' (f d lh1) φ lh H Q := h
    revert h'
    cases f d lh1 with
    | ok e lh2 => exact fun h' φ2 w H2 p2 r2 => h' φ2 w H2 (p.trans p2) r2
    | exc e lh2 => exact fun h' φ2 c dd H2 p2 r2 => h' φ2 c dd H2 (p.trans p2) r2
    | bad => exact fun h' => h'
  | exc e lh1 => exact h
  | bad => exact h
theorem rd_of {α β : Type} {R : (Nat → Addr) → Nat → Hp → α → β → Prop} {m : M α} {Q : β → Hp → Prop} {env : EN} (h1 : HR K mg φ lh H) (h2 : RS K φ lh.length H env σ) (h : wp K mg W σ R (m env lh) φ lh H Q) : rd K mg W R m σ H Q := ⟨φ, env, lh, h1, h2, h⟩
end
theorem peI {X : Cx} {e : Expr} {t t' : TE} (h : PE X e t) (i : ∀ σ H Q, t' σ H Q → t σ H Q) : PE X e t' := ⟨fun pins s σ H Q I q => h.run pins s σ H Q I (i σ H Q q)⟩
theorem ptI {X : Cx} {e : Expr} {t t' : TT} (h : PT X e t) (i : ∀ σ H Q, t' σ H Q → t σ H Q) : PT X e t' := ⟨fun pins s σ H Q I q => h.run pins s σ H Q I (i σ H Q q)⟩
theorem pwI {X : Cx} {e : Expr} {t t' : TT} (h : PW X e t) (i : ∀ σ H Q, t' σ H Q → t σ H Q) : PW X e t' := ⟨fun wh pins s σ H Q I q => h.run wh pins s σ H Q I (i σ H Q q)⟩
theorem paI {X : Cx} {e : List Expr} {t t' : TA} (h : PA X e t) (i : ∀ σ H Q, t' σ H Q → t σ H Q) : PA X e t' := ⟨fun pos pins s σ H Q I q => h.run pos pins s σ H Q I (i σ H Q q)⟩
theorem psI {X : Cx} {e : Stmt} {t t' : TS} (h : PS X e t) (i : ∀ D σ H, t' D σ H → t D σ H) : PS X e t' := ⟨fun pins s σ H D I q => h.run pins s σ H D I (i D σ H q)⟩
theorem pssI {X : Cx} {e : List Stmt} {t t' : TS} (h : PSs X e t) (i : ∀ D σ H, t' D σ H → t D σ H) : PSs X e t' := ⟨fun pins s σ H D I q => h.run pins s σ H D I (i D σ H q)⟩
/-! ### the judgements of this layer -/
abbrev QE (X : Cx) (W : WX) (e : Expr) (m : M D) : Prop := PE X e (rdE X.K X.mg W m)
abbrev QT (X : Cx) (W : WX) (e : Expr) (m : M Bool) : Prop := PT X e (rdT X.K X.mg W m)
abbrev QW (X : Cx) (W : WX) (e : Expr) (m : M Bool) : Prop := PW X e (rdT X.K X.mg W m)
abbrev QA (X : Cx) (W : WX) (e : List Expr) (m : M (List D)) : Prop := PA X e (rdA X.K X.mg W m)
abbrev QS (X : Cx) (W : WX) (e : Stmt) (m : MS) : Prop := PS X e (rdS X.K X.mg W m)
abbrev QSs (X : Cx) (W : WX) (e : List Stmt) (m : MS) : Prop := PSs X e (rdS X.K X.mg W m)
end HM
set_option Elab.async false
set_option linter.all false
set_option maxRecDepth 100000
set_option maxHeartbeats 4000000
namespace HM
open PySem L2
section
variable {K : PySem.W.Frag} {mg : Str → Option Value} {W : WX} {σ : L2.St} {φ φ' : Nat → Addr} {lh lh' : LH} {H H' : Hp} {n : Nat}
/-! ### what values are -/
theorem RD.int_inv {i : Int} {v : V} (r : RD K φ n H (.int i) v) : v = .int i := by cases r; rfl
theorem RD.str_inv {s : List Nat} {v : V} (r : RD K φ n H (.str s) v) : v = .str ⟨s.toArray⟩ := by cases r; rfl
theorem RD.bl_inv {b : Bool} {v : V} (r : RD K φ n H (.bl b) v) : v = .bl b := by cases r; rfl
theorem RD.non_inv {v : V} (r : RD K φ n H .non v) : v = .non := by cases r; rfl
theorem RD.tup_inv {xs : List D} {v : V} (r : RD K φ n H (.tup xs) v) : ∃ a vs, v = .ref a ∧ SqT K H a vs ∧ RDs K φ n H xs vs := by
  cases r with
  | tup h q => exact ⟨_, _, rfl, h, q⟩
theorem RD.ref_inv {i : Nat} {v : V} (r : RD K φ n H (.ref i) v) : v = .ref (φ i) ∧ i < n := by
  cases r with
  | ref h => exact ⟨rfl, h⟩
theorem RD.scr_inv {ns : List Int} {v : V} (r : RD K φ n H (.scr ns) v) : ∃ a, v = .ref a ∧ SqL K H a (ns.map V.int) := by
  cases r with
  | scr h =>
    rcases h with ⟨o, h⟩ | h
    · exact ⟨_, rfl, .inl (.inr ⟨o, h⟩)⟩
    · exact ⟨_, rfl, .inr h⟩
theorem HR.lst (h : HR K mg φ lh H) {i : Nat} {xs : List D} (e : lh[i]? = some (.lst xs)) : ∃ vs, H (φ i) = some (.lst vs) ∧ RDs K φ lh.length H xs vs := h.obj i _ e
theorem lt_of_get {α : Type} {l : List α} {i : Nat} {x : α} (h : l[i]? = some x) : i < l.length := (List.getElem?_eq_some_iff.mp h).1
/-! ### mirrors -/
end
def mVar (i : Nat) : M D := fun e h => match e[i]? with
  | some (some d) => .ok d h
  | _ => .bad
def mC (d : D) : M D := fun _ h => .ok d h
def mOp (f : D → D → LH → Res D) (a b : M D) : M D := fun e h => (a e h).bind fun x h1 => (b e h1).bind fun y h2 => f x y h2
def mUn (f : D → LH → Res D) (a : M D) : M D := fun e h => (a e h).bind fun x h1 => f x h1
def mNil : M (List D) := fun _ h => .ok [] h
def mCons (a : M D) (r : M (List D)) : M (List D) := fun e h => (a e h).bind fun x h1 => (r e h1).bind fun xs h2 => .ok (x :: xs) h2
def mApp (f : MF) (a : M (List D)) : M D := fun e h => (a e h).bind fun xs h1 => f xs h1
/-- as a test -/
def mTst (a : M D) : M Bool := fun e h => (a e h).bind fun x h1 => match x with
  | .bl b => .ok b h1
  | _ => .bad
def mTAnd (a b : M Bool) : M Bool := fun e h => (a e h).bind fun x h1 => if x then b e h1 else .ok false h1
def mTOr (a b : M Bool) : M Bool := fun e h => (a e h).bind fun x h1 => if x then .ok true h1 else b e h1
def mTNot (a : M Bool) : M Bool := fun e h => (a e h).bind fun x h1 => .ok (!x) h1
/-- and, or, not as values: of bools (the last of any kind) -/
def mAnd (a b : M D) : M D := fun e h => (a e h).bind fun x h1 => match x with
  | .bl true => b e h1
  | .bl false => .ok (.bl false) h1
  | _ => .bad
def mOr (a b : M D) : M D := fun e h => (a e h).bind fun x h1 => match x with
  | .bl true => .ok (.bl true) h1
  | .bl false => b e h1
  | _ => .bad
def mNot (a : M D) : M D := fun e h => (a e h).bind fun x h1 => match x with
  | .bl b => .ok (.bl (!b)) h1
  | _ => .bad
def mIfE (c : M Bool) (a b : M D) : M D := fun e h => (c e h).bind fun x h1 => if x then a e h1 else b e h1
/-! statements -/
def sNil : MS := fun e h => .next e h
def sSeq (a b : MS) : MS := fun e h => match a e h with
  | .next e1 h1 => b e1 h1
  | .ret d h1 => .ret d h1
  | .brk e1 h1 => .brk e1 h1
  | .cnt e1 h1 => .cnt e1 h1
  | .exc x e1 h1 => .exc x e1 h1
  | .bad => .bad
def rsBind {α : Type} (r : Res α) (e : EN) (f : α → LH → RSt) : RSt := match r with
  | .ok a h => f a h
  | .exc x h => .exc x e h
  | .bad => .bad
def sIf (c : M Bool) (a b : MS) : MS := fun e h => rsBind (c e h) e fun x h1 => if x then a e h1 else b e h1
def sSet (i : Nat) (a : M D) : MS := fun e h => rsBind (a e h) e fun x h1 => .next (e.set i (some x)) h1
def sRet (a : M D) : MS := fun e h => rsBind (a e h) e fun x h1 => .ret x h1
def sRetN : MS := fun _ h => .ret .non h
def sExpr (a : M D) : MS := fun e h => rsBind (a e h) e fun _ h1 => .next e h1
def sBrk : MS := fun e h => .brk e h
def sCnt : MS := fun e h => .cnt e h

section
variable {X : Cx} {W : WX} {e a b c : Expr} {es : List Expr} {pos : Pos} {ma mb : M D} {mc ta tb : M Bool} {mas : M (List D)}
theorem rd_ok {K : PySem.W.Frag} {mg : Str → Option Value} {α β : Type} {R : (Nat → Addr) → Nat → Hp → α → β → Prop} {m : M α} {σ : L2.St} {H : Hp} {Q : β → Hp → Prop} (h : rd K mg W R m σ H Q) :
    ∃ φ env lh, HR K mg φ lh H ∧ RS K φ lh.length H env σ ∧ wp K mg W σ R (m env lh) φ lh H Q := h
/-! ### expressions -/
theorem qe_var (i : Nat) {x : Str} {pos : Pos} (hN : X.N[i]? = some x := by rfl) (hv : Vis X.env.scope x := by first | exact Or.inl rfl | exact Or.inr (Or.inl rfl) | exact Or.inr (Or.inr rfl)) (hd : (x == ("__debug__" : Str)) = false := by decide)
    (hcd : (x == ("__classdict__" : Str)) = false := by decide) : QE X W (.Name x pos) (mVar i) := by
  refine peI (pe_var hN hv hd hcd) fun σ H Q ⟨φ, env, lh, h1, h2, h⟩ => ?_
  unfold mVar at h
  split at h
  · rename_i d e
    obtain ⟨v, ev, r⟩ := h2.at' i d e
    exact ⟨v, ev, wp_ok h (.refl h1) r⟩
  · exact h.elim
theorem qe_of {t : TE} {m : M D} (h : PE X e t) (i : ∀ σ φ env lh H Q, HR X.K X.mg φ lh H → RS X.K φ lh.length H env σ → wp X.K X.mg W σ (RD X.K) (m env lh) φ lh H Q → t σ H Q) : QE X W e m :=
  peI h fun σ H Q ⟨φ, env, lh, h1, h2, q⟩ => i σ φ env lh H Q h1 h2 q
theorem qe_int {i : Int} {j pos} : QE X W (.Constant (.int i) j pos) (mC (.int i)) := qe_of pe_int fun σ φ env lh H Q h1 h2 q => wp_ok q (.refl h1) (.int i)
theorem qe_bl {b : Bool} {j pos} : QE X W (.Constant (.bool b) j pos) (mC (.bl b)) := qe_of pe_bl fun σ φ env lh H Q h1 h2 q => wp_ok q (.refl h1) (.bl b)
theorem qe_non {j pos} : QE X W (.Constant .none j pos) (mC .non) := qe_of pe_non fun σ φ env lh H Q h1 h2 q => wp_ok q (.refl h1) .non
theorem str_eta (x : Str) : (⟨x.cps.toList.toArray⟩ : Str) = x := by cases x; simp
/-- a text, written -/
def S (s : String) : D := .str (Str.ofString s).cps.toList
theorem qe_str {x : String} {j pos} : QE X W (.Constant (.str (Str.ofString x)) j pos) (mC (S x)) := qe_of pe_str fun σ φ env lh H Q h1 h2 q => by
  have r : RD X.K φ lh.length H (S x) (.str (Str.ofString x)) := by
    have := RD.str (K := X.K) (φ := φ) (n := lh.length) (H := H) (Str.ofString x).cps.toList
    rw [str_eta] at this
    exact this
  exact wp_ok q (.refl h1) r
theorem qe_glob {x : Str} {d : D} {v : V} {u : Value} {pos : Pos} (hg : Gl X x) (hm : X.mg x = some u) (r : RelV v u) (hd : ∀ φ n H, RD X.K φ n H d v) (hdb : (x == ("__debug__" : Str)) = false := by decide) : QE X W (.Name x pos) (mC d) :=
  qe_of (pe_glob hg hm r hdb) fun σ φ env lh H Q h1 h2 q => wp_ok q (.refl h1) (hd _ _ _)
/-- an operator by its values -/
def OpM (X : Cx) (g : Value → Value → Sem Value) (f : D → D → LH → Res D) : Prop :=
  ∃ r : R2, OpR X g r ∧ ∀ W σ φ lh H x y v w Q, HR X.K X.mg φ lh H → RD X.K φ lh.length H x v → RD X.K φ lh.length H y w → wp X.K X.mg W σ (RD X.K) (f x y lh) φ lh H Q → r v w H Q
theorem qe_bin {op : Operator} {f : D → D → LH → Res D} (ho : OpM X (binaryOp op) f) (ha : QE X W a ma) (hb : QE X W b mb) : QE X W (.BinOp a op b pos) (mOp f ma mb) := by
  obtain ⟨r, h, k⟩ := ho
  refine qe_of (pe_op h ha hb) fun σ φ env lh H Q h1 h2 q => ?_
  refine rd_of h1 h2 (wp_step q fun x lh1 φ1 v H1 p1 r1 q1 => ?_)
  refine rd_of p1.hr (h2.up p1) (wp_step q1 fun y lh2 φ2 w H2 p2 r2 q2 => ?_)
  exact k W σ φ2 lh2 H2 x y v w Q p2.hr (r1.up p2) r2 q2
theorem qe_cmp {op : CmpOp} {f : D → D → LH → Res D} (ho : OpM X (compareOp op) f) (ha : QE X W a ma) (hb : QE X W b mb) (hm : behindInMarks op b = false) : QE X W (.Compare a [op] [b] pos) (mOp f ma mb) := by
  obtain ⟨r, h, k⟩ := ho
  refine qe_of (pe_cmpR h ha hb hm) fun σ φ env lh H Q h1 h2 q => ?_
  refine rd_of h1 h2 (wp_step q fun x lh1 φ1 v H1 p1 r1 q1 => ?_)
  refine rd_of p1.hr (h2.up p1) (wp_step q1 fun y lh2 φ2 w H2 p2 r2 q2 => ?_)
  exact k W σ φ2 lh2 H2 x y v w Q p2.hr (r1.up p2) r2 q2
/-- a < b < c -/
def mChain (f g : D → D → LH → Res D) (a b c : M D) : M D := fun e h => (a e h).bind fun x h1 => (b e h1).bind fun y h2 => (f x y h2).bind fun z h3 => match z with
  | .bl true => (c e h3).bind fun w h4 => g y w h4
  | .bl false => .ok (.bl false) h3
  | _ => .bad
def UnM (X : Cx) (g : Value → Sem Value) (f : D → LH → Res D) : Prop :=
  ∃ r : V → Hp → VK → Prop, UnR X g r ∧ ∀ W σ φ lh H x v Q, HR X.K X.mg φ lh H → RD X.K φ lh.length H x v → wp X.K X.mg W σ (RD X.K) (f x lh) φ lh H Q → r v H Q
theorem qe_un {op : UnaryOp} {f : D → LH → Res D} (ho : UnM X (unaryOp op) f) (ha : QE X W a ma) : QE X W (.UnaryOp op a pos) (mUn f ma) := by
  obtain ⟨r, h, k⟩ := ho
  refine qe_of (pe_un h ha) fun σ φ env lh H Q h1 h2 q => ?_
  refine rd_of h1 h2 (wp_step q fun x lh1 φ1 v H1 p1 r1 q1 => ?_)
  exact k W σ φ1 lh1 H1 x v Q p1.hr r1 q1
theorem qa_nil : QA X W [] mNil := paI pa_nil fun σ H Q ⟨φ, env, lh, h1, h2, q⟩ => wp_ok q (.refl h1) .nil
theorem qa_cons (ha : QE X W e ma) (hr : QA X W es mas) (hs : starEach (e :: es) X.env = (false, eval e X.env) :: starEach es X.env := by rfl) : QA X W (e :: es) (mCons ma mas) := by
  refine paI (pa_cons ha hr hs) fun σ H Q ⟨φ, env, lh, h1, h2, q⟩ => ?_
  refine rd_of h1 h2 (wp_step q fun x lh1 φ1 v H1 p1 r1 q1 => ?_)
  refine rd_of p1.hr (h2.up p1) (wp_step q1 fun xs lh2 φ2 vs H2 p2 r2 q2 => ?_)
  exact wp_ok q2 (.refl p2.hr) (.cons (r1.up p2) r2)
/-- a builtin's call by its values -/
def CallM (X : Cx) (g : Value) (f : MF) : Prop :=
  ∃ r : List V → Hp → VK → Prop, CallR X g r ∧ ∀ W σ φ lh H xs vs Q, HR X.K X.mg φ lh H → RDs X.K φ lh.length H xs vs → wp X.K X.mg W σ (RD X.K) (f xs lh) φ lh H Q → r vs H Q
theorem qe_callB {x : Str} {id : String} {f : MF} {p : Pos} (ho : CallM X (.builtin id) f) (hg : Gl X x) (hm : X.mg x = none) (hv : bootBuiltins x = some (.builtin id)) (ha : QA X W (e :: es) mas) (hn : x ≠ "__name__" := by decide) (hdb : (x == ("__debug__" : Str)) = false := by decide)
    (he : starEach (e :: es) X.env = (false, eval e X.env) :: starEach es X.env := by rfl) (hpl : (backTo pos (starEach es X.env)).any (·.1) = false := by rfl) : QE X W (.Call (.Name x p) (e :: es) [] pos) (mApp f mas) := by
  obtain ⟨r, h, k⟩ := ho
  refine qe_of (pe_callB h hg hm hv ha hn hdb he hpl) fun σ φ env lh H Q h1 h2 q => ?_
  refine rd_of h1 h2 (wp_step q fun xs lh1 φ1 vs H1 p1 r1 q1 => ?_)
  exact k W σ φ1 lh1 H1 xs vs Q p1.hr r1 q1
theorem qe_callTy {x : Str} {T : String} {f : MF} {p : Pos} (ho : CallM X (.type T) f) (hg : Gl X x) (hm : X.mg x = none) (hv : bootBuiltins x = some (.type T)) (ha : QA X W (e :: es) mas) (hn : x ≠ "__name__" := by decide) (hdb : (x == ("__debug__" : Str)) = false := by decide)
    (he : starEach (e :: es) X.env = (false, eval e X.env) :: starEach es X.env := by rfl) (hpl : (backTo pos (starEach es X.env)).any (·.1) = false := by rfl) : QE X W (.Call (.Name x p) (e :: es) [] pos) (mApp f mas) := by
  obtain ⟨r, h, k⟩ := ho
  refine qe_of (pe_callTy h hg hm hv ha hn hdb he hpl) fun σ φ env lh H Q h1 h2 q => ?_
  refine rd_of h1 h2 (wp_step q fun xs lh1 φ1 vs H1 p1 r1 q1 => ?_)
  exact k W σ φ1 lh1 H1 xs vs Q p1.hr r1 q1
/-! ### tests -/
theorem qt_of {t : TT} {m : M Bool} (h : PT X e t) (i : ∀ σ φ env lh H Q, HR X.K X.mg φ lh H → RS X.K φ lh.length H env σ → wp X.K X.mg W σ REq (m env lh) φ lh H Q → t σ H Q) : QT X W e m :=
  ptI h fun σ H Q ⟨φ, env, lh, h1, h2, q⟩ => i σ φ env lh H Q h1 h2 q
theorem tst_ok {σ : L2.St} {φ : Nat → Addr} {env : EN} {lh : LH} {H : Hp} {Q : Bool → Hp → Prop} (h1 : HR X.K X.mg φ lh H) (h2 : RS X.K φ lh.length H env σ) (q : wp X.K X.mg W σ REq (mTst ma env lh) φ lh H Q) :
    rdE X.K X.mg W ma σ H fun x H1 => ∃ k, x = .bl k ∧ Q k H1 := by
  refine rd_of h1 h2 (wp_step q fun x lh1 φ1 v H1 p1 r1 q1 => ?_)
  cases x with
  | bl b =>
    cases r1
    exact ⟨b, rfl, wp_ok q1 (.refl p1.hr) rfl⟩
  | _ => exact q1.elim
/-- an expression whose value is a bool -/
theorem qt_val (h : QE X W e ma) (he : ∀ whole, isTrue e X.env whole = (do let v ← whole; standAt e.pos; holding [v] (truthy v)) := by intro _; rfl) : QT X W e (mTst ma) :=
  qt_of (pt_val h he) fun σ φ env lh H Q h1 h2 q => tst_ok h1 h2 q
theorem qt_cmp {op : CmpOp} {f : D → D → LH → Res D} (ho : OpM X (compareOp op) f) (ha : QE X W a ma) (hb : QE X W b mb) (hm : behindInMarks op b = false) : QT X W (.Compare a [op] [b] pos) (mTst (mOp f ma mb)) := by
  obtain ⟨r, h, k⟩ := ho
  refine qt_of (pt_cmpR h ha hb hm) fun σ φ env lh H Q h1 h2 q => ?_
  have q' := tst_ok (ma := mOp f ma mb) h1 h2 q
  obtain ⟨φ0, env0, lh0, h10, h20, q0⟩ := q'
  refine rd_of h10 h20 (wp_step q0 fun x lh1 φ1 v H1 p1 r1 q1 => ?_)
  refine rd_of p1.hr (h20.up p1) (wp_step q1 fun y lh2 φ2 w H2 p2 r2 q2 => ?_)
  exact k W σ φ2 lh2 H2 x y v w _ p2.hr (r1.up p2) r2 q2
theorem qe_chain {op op' : CmpOp} {f g : D → D → LH → Res D} {md : M D} (ho : OpM X (compareOp op) f) (ho' : OpM X (compareOp op') g) (ha : QE X W a ma) (hb : QE X W b mb) (hc : QE X W c md) (hm : lastMarks [op, op'] [b, c] = false) :
    QE X W (.Compare a [op, op'] [b, c] pos) (mChain f g ma mb md) := by
  obtain ⟨r, h, k⟩ := ho
  obtain ⟨r', h', k'⟩ := ho'
  refine qe_of (pe_chain h h' ha hb hc hm) fun σ φ env lh H Q h1 h2 q => ?_
  refine rd_of h1 h2 (wp_step q fun x lh1 φ1 v H1 p1 r1 q1 => ?_)
  refine rd_of p1.hr (h2.up p1) (wp_step q1 fun y lh2 φ2 w H2 p2 r2 q2 => ?_)
  refine k W σ φ2 lh2 H2 x y v w _ p2.hr (r1.up p2) r2 (wp_step q2 fun z lh3 φ3 vz H3 p3 r3 q3 => ?_)
  cases z with
  | bl t =>
    cases r3
    cases t with
    | true =>
      refine ⟨true, rfl, ?_⟩
      simp only [if_true]
      refine rd_of p3.hr ((h2.up p1).up (p2.trans p3)) (wp_step q3 fun w' lh4 φ4 vw H4 p4 r4 q4 => ?_)
      exact k' W σ φ4 lh4 H4 y w' _ _ _ p4.hr (r2.up (p3.trans p4)) r4 q4
    | false =>
      refine ⟨false, rfl, ?_⟩
      exact wp_ok q3 (.refl p3.hr) (.bl false)
  | _ => exact q3.elim
theorem qt_chain {op op' : CmpOp} {f g : D → D → LH → Res D} {md : M D} (ho : OpM X (compareOp op) f) (ho' : OpM X (compareOp op') g) (ha : QE X W a ma) (hb : QE X W b mb) (hc : QE X W c md) (hm : lastMarks [op, op'] [b, c] = false) :
    QT X W (.Compare a [op, op'] [b, c] pos) (mTst (mChain f g ma mb md)) := by
  obtain ⟨r, h, k⟩ := ho
  obtain ⟨r', h', k'⟩ := ho'
  refine qt_of (pt_chain h h' ha hb hc hm) fun σ φ env lh H Q h1 h2 q => ?_
  have q' := tst_ok (ma := mChain f g ma mb md) h1 h2 q
  obtain ⟨φ0, env0, lh0, h10, h20, q0⟩ := q'
  refine rd_of h10 h20 (wp_step q0 fun x lh1 φ1 v H1 p1 r1 q1 => ?_)
  refine rd_of p1.hr (h20.up p1) (wp_step q1 fun y lh2 φ2 w H2 p2 r2 q2 => ?_)
  refine k W σ φ2 lh2 H2 x y v w _ p2.hr (r1.up p2) r2 (wp_step q2 fun z lh3 φ3 vz H3 p3 r3 q3 => ?_)
  cases z with
  | bl t =>
    cases r3
    cases t with
    | true =>
      refine ⟨true, rfl, ?_⟩
      simp only [if_true]
      refine rd_of p3.hr ((h20.up p1).up (p2.trans p3)) (wp_step q3 fun w' lh4 φ4 vw H4 p4 r4 q4 => ?_)
      exact k' W σ φ4 lh4 H4 y w' _ _ _ p4.hr (r2.up (p3.trans p4)) r4 q4
    | false =>
      refine ⟨false, rfl, ?_⟩
      exact wp_ok q3 (.refl p3.hr) (.bl false)
  | _ => exact q3.elim
theorem qt_not (h : QT X W e ta) : QT X W (.UnaryOp .Not e pos) (mTNot ta) := by
  refine qt_of (pt_not h) fun σ φ env lh H Q h1 h2 q => ?_
  refine rd_of h1 h2 (wp_step q fun x lh1 φ1 v H1 p1 r1 q1 => ?_)
  cases r1
  exact wp_ok q1 (.refl p1.hr) rfl
theorem qw_of {t : TT} {m : M Bool} (h : PW X e t) (i : ∀ σ φ env lh H Q, HR X.K X.mg φ lh H → RS X.K φ lh.length H env σ → wp X.K X.mg W σ REq (m env lh) φ lh H Q → t σ H Q) : QW X W e m :=
  pwI h fun σ H Q ⟨φ, env, lh, h1, h2, q⟩ => i σ φ env lh H Q h1 h2 q
variable {rest : List Expr}
theorem qw_and1 (ha : QT X W a ta) : QW X W (.BoolOp .And [a] pos) ta := pw_and1 ha
theorem qw_or1 (ha : QT X W a ta) : QW X W (.BoolOp .Or [a] pos) ta := pw_or1 ha
theorem qw_and (ha : QT X W a ta) (hb : QW X W (.BoolOp .And (b :: rest) pos) tb) : QW X W (.BoolOp .And (a :: b :: rest) pos) (mTAnd ta tb) := by
  refine qw_of (pw_and ha hb) fun σ φ env lh H Q h1 h2 q => ?_
  refine rd_of h1 h2 (wp_step q fun x lh1 φ1 v H1 p1 r1 q1 => ?_)
  cases r1
  cases x with
  | true => exact rd_of p1.hr (h2.up p1) q1
  | false => exact wp_ok q1 (.refl p1.hr) rfl
theorem qw_or (ha : QT X W a ta) (hb : QW X W (.BoolOp .Or (b :: rest) pos) tb) : QW X W (.BoolOp .Or (a :: b :: rest) pos) (mTOr ta tb) := by
  refine qw_of (pw_or ha hb) fun σ φ env lh H Q h1 h2 q => ?_
  refine rd_of h1 h2 (wp_step q fun x lh1 φ1 v H1 p1 r1 q1 => ?_)
  cases r1
  cases x with
  | true => exact wp_ok q1 (.refl p1.hr) rfl
  | false => exact rd_of p1.hr (h2.up p1) q1
theorem qt_w (h : QW X W e ta) : QT X W e ta := PW.pt h
/-! ### and, or, not as values -/
theorem qe_one {op} (h : QE X W a ma) : QE X W (.BoolOp op [a] pos) ma := pe_one h
theorem qe_and (ha : QE X W a ma) (hb : QE X W (.BoolOp .And (b :: rest) pos) mb) : QE X W (.BoolOp .And (a :: b :: rest) pos) (mAnd ma mb) := by
  refine qe_of (pe_and ha hb) fun σ φ env lh H Q h1 h2 q => ?_
  refine rd_of h1 h2 (wp_step q fun x lh1 φ1 v H1 p1 r1 q1 => ?_)
  cases x with
  | bl t =>
    cases r1
    cases t with
    | true => exact ⟨true, rfl, rd_of p1.hr (h2.up p1) q1⟩
    | false => exact ⟨false, rfl, wp_ok q1 (.refl p1.hr) (.bl false)⟩
  | _ => exact q1.elim
theorem qe_or (ha : QE X W a ma) (hb : QE X W (.BoolOp .Or (b :: rest) pos) mb) : QE X W (.BoolOp .Or (a :: b :: rest) pos) (mOr ma mb) := by
  refine qe_of (pe_or ha hb) fun σ φ env lh H Q h1 h2 q => ?_
  refine rd_of h1 h2 (wp_step q fun x lh1 φ1 v H1 p1 r1 q1 => ?_)
  cases x with
  | bl t =>
    cases r1
    cases t with
    | true => exact ⟨true, rfl, wp_ok q1 (.refl p1.hr) (.bl true)⟩
    | false => exact ⟨false, rfl, rd_of p1.hr (h2.up p1) q1⟩
  | _ => exact q1.elim
theorem qe_not (ha : QE X W a ma) : QE X W (.UnaryOp .Not a pos) (mNot ma) := by
  refine qe_of (pe_not ha) fun σ φ env lh H Q h1 h2 q => ?_
  refine rd_of h1 h2 (wp_step q fun x lh1 φ1 v H1 p1 r1 q1 => ?_)
  cases x with
  | bl t =>
    cases r1
    exact ⟨t, rfl, wp_ok q1 (.refl p1.hr) (.bl _)⟩
  | _ => exact q1.elim
theorem qe_ifE (hc : QT X W c mc) (ha : QE X W a ma) (hb : QE X W b mb) : QE X W (.IfExp c a b pos) (mIfE mc ma mb) := by
  refine qe_of (pe_ifExp hc ha hb) fun σ φ env lh H Q h1 h2 q => ?_
  refine rd_of h1 h2 (wp_step q fun x lh1 φ1 v H1 p1 r1 q1 => ?_)
  cases r1
  cases x with
  | true => exact rd_of p1.hr (h2.up p1) q1
  | false => exact rd_of p1.hr (h2.up p1) q1
/-! ### statements -/
variable {st : Stmt} {sts : List Stmt} {m m1 m2 : MS}
theorem qs_of {t : TS} (h : PS X st t) (i : ∀ D σ H, rdS X.K X.mg W m D σ H → t D σ H) : QS X W st m := psI h i
theorem rdS_of {D : Ends} {σ : L2.St} {φ : Nat → Addr} {env : EN} {lh : LH} {H : Hp} (h1 : HR X.K X.mg φ lh H) (h2 : RS X.K φ lh.length H env σ) (h : match m env lh with
  | .next env' lh' => ∀ φ' σ' H', Po X.K X.mg φ lh H φ' lh' H' → RS X.K φ' lh'.length H' env' σ' → D.nx σ' H'
  | .ret d lh' => ∀ φ' v H', Po X.K X.mg φ lh H φ' lh' H' → RD X.K φ' lh'.length H' d v → D.rt v H'
  | .brk env' lh' => ∀ φ' σ' H', Po X.K X.mg φ lh H φ' lh' H' → RS X.K φ' lh'.length H' env' σ' → D.bk σ' H'
  | .cnt env' lh' => ∀ φ' σ' H', Po X.K X.mg φ lh H φ' lh' H' → RS X.K φ' lh'.length H' env' σ' → D.ct σ' H'
  | .exc e env' lh' => ∀ φ' cls dd σ' H', Po X.K X.mg φ lh H φ' lh' H' → ER X.K X.mg φ' lh'.length H' e cls dd → RS X.K φ' lh'.length H' env' σ' → W cls dd σ' H'
  | .bad => False) : rdS X.K X.mg W m D σ H := ⟨φ, env, lh, h1, h2, h⟩
/-- what a statement's result wishes -/
def wps (K : PySem.W.Frag) (mg : Str → Option Value) (W : WX) (x : RSt) (φ : Nat → Addr) (lh : LH) (H : Hp) (D : Ends) : Prop := match x with
  | .next env' lh' => ∀ φ' σ' H', Po K mg φ lh H φ' lh' H' → RS K φ' lh'.length H' env' σ' → D.nx σ' H'
  | .ret d lh' => ∀ φ' v H', Po K mg φ lh H φ' lh' H' → RD K φ' lh'.length H' d v → D.rt v H'
  | .brk env' lh' => ∀ φ' σ' H', Po K mg φ lh H φ' lh' H' → RS K φ' lh'.length H' env' σ' → D.bk σ' H'
  | .cnt env' lh' => ∀ φ' σ' H', Po K mg φ lh H φ' lh' H' → RS K φ' lh'.length H' env' σ' → D.ct σ' H'
  | .exc e env' lh' => ∀ φ' cls dd σ' H', Po K mg φ lh H φ' lh' H' → ER K mg φ' lh'.length H' e cls dd → RS K φ' lh'.length H' env' σ' → W cls dd σ' H'
  | .bad => False
theorem wps_mono {K : PySem.W.Frag} {mg : Str → Option Value} {x : RSt} {φ φ1 : Nat → Addr} {lh lh1 : LH} {H H1 : Hp} {D : Ends} (p : Po K mg φ lh H φ1 lh1 H1) (h : wps K mg W x φ lh H D) : wps K mg W x φ1 lh1 H1 D := by
  cases x with
  | next env' lh' => exact fun φ' σ' H' p' r => h φ' σ' H' (p.trans p') r
  | ret d lh' => exact fun φ' σ' H' p' r => h φ' σ' H' (p.trans p') r
  | brk env' lh' => exact fun φ' σ' H' p' r => h φ' σ' H' (p.trans p') r
  | cnt env' lh' => exact fun φ' σ' H' p' r => h φ' σ' H' (p.trans p') r
  | exc e env' lh' => exact fun φ' cls dd σ' H' p' r => h φ' cls dd σ' H' (p.trans p') r
  | bad => exact h
theorem wps_step {α β : Type} {R : (Nat → Addr) → Nat → Hp → α → β → Prop} {x : Res α} {f : α → LH → RSt} {φ : Nat → Addr} {env : EN} {lh : LH} {H : Hp} {D : Ends} {σ : L2.St} {G : β → Hp → Prop} (h2 : RS X.K φ lh.length H env σ)
    (h : wps X.K X.mg W (rsBind x env f) φ lh H D) (hg : ∀ d lh1 φ1 v H1, Po X.K X.mg φ lh H φ1 lh1 H1 → R φ1 lh1.length H1 d v → wps X.K X.mg W (f d lh1) φ1 lh1 H1 D → G v H1) : wp X.K X.mg W σ R x φ lh H G := by
  cases x with
  | ok d lh1 => exact fun φ1 v H1 p r => hg d lh1 φ1 v H1 p r (wps_mono p h)
  | exc e lh1 => exact fun φ1 cls dd H1 p r => h φ1 cls dd σ H1 p r (h2.up p)
  | bad => exact h
theorem qss_nil : QSs X W [] sNil := pssI pss_nil fun D σ H ⟨φ, env, lh, h1, h2, q⟩ => q φ σ H (.refl h1) h2
theorem qss_cons (h : QS X W st m1) (k : QSs X W sts m2) : QSs X W (st :: sts) (sSeq m1 m2) := by
  refine pssI (pss_cons h k) fun D σ H ⟨φ, env, lh, h1, h2, q⟩ => ?_
  refine ⟨φ, env, lh, h1, h2, ?_⟩
  have q' : wps X.K X.mg W (sSeq m1 m2 env lh) φ lh H D := q
  unfold sSeq at q'
  cases e : m1 env lh with
  | next env' lh' =>
    rw [e] at q'
    exact fun φ' σ' H' p r => ⟨φ', env', lh', p.hr, r, wps_mono (x := m2 env' lh') p q'⟩
  | ret d lh' => rw [e] at q'; exact q'
  | brk d lh' => rw [e] at q'; exact q'
  | cnt d lh' => rw [e] at q'; exact q'
  | exc d _ lh' => rw [e] at q'; exact q'
  | bad => rw [e] at q'; exact q'
theorem qss_one (h : QS X W st m1) : QSs X W [st] m1 := pss_one h
theorem qs_if (hc : QT X W c mc) (ha : QSs X W sts m1) {sts2 : List Stmt} (hb : QSs X W sts2 m2) : QS X W (.If c sts sts2 pos) (sIf mc m1 m2) := by
  refine psI (ps_if hc ha hb) fun D σ H ⟨φ, env, lh, h1, h2, q⟩ => ?_
  have q' : wps X.K X.mg W (sIf mc m1 m2 env lh) φ lh H D := q
  refine rd_of h1 h2 (wps_step h2 q' fun x lh1 φ1 v H1 p1 r1 q1 => ?_)
  cases r1
  cases x with
  | true => exact ⟨φ1, env, lh1, p1.hr, h2.up p1, q1⟩
  | false => exact ⟨φ1, env, lh1, p1.hr, h2.up p1, q1⟩
theorem qs_set {i : Nat} {x : Str} {pos' : Pos} (he : QE X W e ma) (hN : X.N.Nodup) (hi : X.N[i]? = some x) (hx : Loc X.env.scope x) (hs : swapsWith e (some (.Name x pos')) pos.line X.env = pure false := by rfl) (hf : X.fn x = true ∨ X.env.scope.names.lookup x = some .local := by first | exact .inl rfl | exact .inr rfl | assumption) :
    QS X W (.Assign [.Name x pos'] e pos) (sSet i ma) := by
  refine psI (ps_set hN hi hx he hs hf) fun D σ H ⟨φ, env, lh, h1, h2, q⟩ => ?_
  have q' : wps X.K X.mg W (sSet i ma env lh) φ lh H D := q
  exact rd_of h1 h2 (wps_step h2 q' fun x lh1 φ1 v H1 p1 r1 q1 => q1 φ1 _ H1 (.refl p1.hr) ((h2.up p1).set r1 i))
theorem qs_ret (he : QE X W e ma) : QS X W (.Return (some e) pos) (sRet ma) := by
  refine psI (ps_ret he) fun D σ H ⟨φ, env, lh, h1, h2, q⟩ => ?_
  have q' : wps X.K X.mg W (sRet ma env lh) φ lh H D := q
  exact rd_of h1 h2 (wps_step h2 q' fun x lh1 φ1 v H1 p1 r1 q1 => q1 φ1 _ H1 (.refl p1.hr) r1)
theorem qs_retN : QS X W (.Return none pos) sRetN := psI ps_retN fun D σ H ⟨φ, env, lh, h1, h2, q⟩ => q φ _ H (.refl h1) .non
theorem qs_expr (he : QE X W e ma) (hs : swapsWith e none pos.line X.env = pure false := by rfl) : QS X W (.Expr e pos) (sExpr ma) := by
  refine psI (ps_expr he hs) fun D σ H ⟨φ, env, lh, h1, h2, q⟩ => ?_
  have q' : wps X.K X.mg W (sExpr ma env lh) φ lh H D := q
  exact rd_of h1 h2 (wps_step h2 q' fun x lh1 φ1 v H1 p1 r1 q1 => q1 φ1 _ H1 (.refl p1.hr) (h2.up p1))
theorem qs_pass : QS X W (.Pass pos) sNil := psI ps_pass fun D σ H ⟨φ, env, lh, h1, h2, q⟩ => q φ σ H (.refl h1) h2
theorem qs_brk : QS X W (.Break pos) sBrk := psI ps_break fun D σ H ⟨φ, env, lh, h1, h2, q⟩ => q φ σ H (.refl h1) h2
theorem qs_cnt : QS X W (.Continue pos) sCnt := psI ps_continue fun D σ H ⟨φ, env, lh, h1, h2, q⟩ => q φ σ H (.refl h1) h2
end
end HM
set_option Elab.async false
set_option linter.all false
set_option maxRecDepth 100000
set_option maxHeartbeats 4000000
namespace HM
open PySem L2 PySem.Spec PyProof.Rows
/-! ### defs and their calls -/
/-- the promise of a def whose mirror is f -/
def spM (K : PySem.W.Frag) (mg : Str → Option Value) (f : MF) : Sp := fun vs H Q E => ∃ φ lh ds, HR K mg φ lh H ∧ RDs K φ lh.length H ds vs ∧ wp K mg (fun c d _ H => E c d H) [] (RD K) (f ds lh) φ lh H Q
/-- a def's mirror from its body's -/
def mkF (np nn : Nat) (m : MS) : MF := fun ds lh => if ds.length = np then (match m (ds.map some ++ List.replicate (nn - np) none) lh with
  | .next _ h => .ok .non h
  | .ret d h => .ok d h
  | .exc x _ h => .exc x h
  | .brk _ _ => .bad
  | .cnt _ _ => .bad
  | .bad => .bad) else .bad
structure CalM (P : Program) (w : World) (K : PySem.W.Frag) (mg : Str → Option Value) (base : Heap) (k : Nat) (x : String) (f : MF) : Prop where
  ex : ∃ fa fd ps, mg (Str.ofString x) = some (.ref fa) ∧ PySem.W.keepIn K (.ref fa) = true ∧ Binds K fd ps [] ∧ FnOk P w K mg base (L2.CX P w) k fa fd ps (spM K mg f)
theorem CalM.mono {P : Program} {w : World} {K : PySem.W.Frag} {mg : Str → Option Value} {base : Heap} {k k' : Nat} {x : String} {f : MF} (c : CalM P w K mg base k x f) (h : k ≤ k') : CalM P w K mg base k' x f := by
  obtain ⟨fa, fd, ps, h1, h2, h3, h4⟩ := c.ex
  exact ⟨fa, fd, ps, h1, h2, h3, h4.mono h⟩
section
variable {X : Cx} {W : WX} {e a b c : Expr} {es : List Expr} {pos : Pos} {ma mb : M D} {mc ta tb : M Bool} {mas : M (List D)}
theorem qe_call {k : Nat} {x : String} {f : MF} {p : Pos} (C : CalM X.prog X.w X.K X.mg X.base k x f) (hr : Room k X.A) (tk : Takes X W) (hg : Gl X (Str.ofString x)) (ha : QA X W (e :: es) mas)
    (hdb : (Str.ofString x == ("__debug__" : Str)) = false := by decide) (he : starEach (e :: es) X.env = (false, eval e X.env) :: starEach es X.env := by rfl) (hpl : (backTo pos (starEach es X.env)).any (·.1) = false := by rfl) :
    QE X W (.Call (.Name (Str.ofString x) p) (e :: es) [] pos) (mApp f mas) := by
  obtain ⟨fa, fd, ps, h1, h2, h3, h4⟩ := C.ex
  refine qe_of (pe_callS h4 hr hg h1 h2 h3 (fun σ => passAt tk σ) ha hdb he hpl) fun σ φ env lh H Q g1 g2 q => ?_
  refine rd_of g1 g2 (wp_step q fun xs lh1 φ1 vs H1 p1 r1 q1 => ?_)
  exact ⟨φ1, lh1, xs, p1.hr, r1, q1⟩
/-- without arguments: such a def raises nothing -/
def mApp0 (f : MF) : M D := fun _ h => match f [] h with
  | .ok d h1 => .ok d h1
  | .exc _ _ => .bad
  | .bad => .bad
theorem qe_call0 {k : Nat} {x : String} {f : MF} {p : Pos} (C : CalM X.prog X.w X.K X.mg X.base k x f) (hr : Room k X.A) (hg : Gl X (Str.ofString x))
    (hdb : (Str.ofString x == ("__debug__" : Str)) = false := by decide) : QE X W (.Call (.Name (Str.ofString x) p) [] [] pos) (mApp0 f) := by
  obtain ⟨fa, fd, ps, h1, h2, h3, h4⟩ := C.ex
  refine qe_of (pe_call0 (E := fun _ _ _ => False) h4 hr hg h1 h2 h3 .nil passL hdb) fun σ φ env lh H Q g1 g2 q => ?_
  refine ⟨φ, lh, [], g1, .nil, ?_⟩
  unfold mApp0 at q
  cases e : f [] lh with
  | ok d h1 => rw [e] at q; exact q
  | exc d h1 => rw [e] at q; exact q.elim
  | bad => rw [e] at q; exact q.elim
end
/-- THE RULE for a def -/
theorem okM {P : Program} {w : World} {K : PySem.W.Frag} {mg : Str → Option Value} {base : Heap} {x qual : Str} {st : Stmt} {f : Addr} {fd : FuncData} {N ps : List Str} {k : Nat} {m : MS} (F : Fun K x qual st f fd) (S : FnScope N ps (defScope st))
    (hb : ∀ (cdv : Value) (A : Around) (outer : List Env) (s : Shared) (H : Hp) (E : XK), Room k (A.deeper (envOfC qual (defScope st) s.heap.objs.size f cdv)) →
      QSs (cxOf (L2.CX P w) P w K mg base N qual (defScope st) f cdv A outer s H E) (fun c d _ H => E c d H) (defBody st) m) :
    FnOk P w K mg base (L2.CX P w) (k + 1) f fd ps (spM K mg (mkF ps.length N.length m)) := by
  have key : ∀ vs H Q E, spM K mg (mkF ps.length N.length m) vs H Q E → vs.length = ps.length := by
    rintro vs H Q E ⟨φ, lh, ds, h1, h2, q⟩
    unfold mkF at q
    by_cases c : ds.length = ps.length
    · rw [← h2.len]; exact c
    · rw [if_neg c] at q
      exact q.elim
  refine F.okX S key fun cdv A outer s H vs Q E hr hsp => ⟨_, hb cdv A outer s H E hr, ?_⟩
  have hl := key _ _ _ _ hsp
  obtain ⟨φ, lh, ds, h1, h2, q⟩ := hsp
  have hd : ds.length = ps.length := by rw [h2.len]; exact hl
  have rs : RS K φ lh.length H (ds.map some ++ List.replicate (N.length - ps.length) none) (L2.start N vs) := by
    have e1 : vs.length = ds.length := h2.len.symm
    refine ⟨by unfold L2.start; simp [h2.len, hl], fun i d hi => ?_⟩
    have hlt : i < ds.length := by
      rcases Nat.lt_or_ge i ds.length with c | c
      · exact c
      · rw [List.getElem?_append_right (by simpa using c)] at hi
        rw [List.getElem?_replicate] at hi
        split at hi <;> simp at hi
    rw [List.getElem?_append_left (by simpa using hlt)] at hi
    have hi' : ds[i]? = some d := by
      rw [List.getElem?_map] at hi
      cases z : ds[i]? with
      | none => rw [z] at hi; simp at hi
      | some y => rw [z] at hi; simp at hi; rw [hi]
    obtain ⟨v, ev, r⟩ := h2.get hi'
    refine ⟨v, ?_, r⟩
    show (vs.map some ++ _)[i]? = _
    rw [List.getElem?_append_left (by simp; omega), List.getElem?_map, ev]
    rfl
  refine ⟨φ, _, lh, h1, rs, ?_⟩
  unfold mkF at q
  rw [if_pos hd] at q
  show wps K mg _ (m (ds.map some ++ List.replicate (N.length - ps.length) none) lh) φ lh H _
  revert q
  cases m (ds.map some ++ List.replicate (N.length - ps.length) none) lh with
  | next e h => exact fun q φ' σ' H' p _ => q φ' _ H' p .non
  | ret d h => exact fun q φ' v H' p r => q φ' v H' p r
  | exc x e h => exact fun q φ' cls dd σ' H' p r _ => q φ' cls dd H' p r
  | brk e h => exact fun q => q.elim
  | cnt e h => exact fun q => q.elim
  | bad => exact fun q => q.elim

/-! ### what is walked -/
abbrev IT := LH → Nat → Option (Option D)
structure ItOk (K : PySem.W.Frag) (mg : Str → Option Value) (φ : Nat → Addr) (n : Nat) (H : Hp) (g : IT × Nat) (J : It) : Prop where
  stop : ∀ φ' lh' H', n ≤ lh'.length → (∀ i, i < n → φ' i = φ i) → Ext H H' → HR K mg φ' lh' H' → ∀ j, g.1 lh' j = some none → J.stop j H'
  go : ∀ φ' lh' H', n ≤ lh'.length → (∀ i, i < n → φ' i = φ i) → Ext H H' → HR K mg φ' lh' H' → ∀ j d, g.1 lh' j = some (some d) → J.go j H' ∧ ∀ x H'', J.yld j H' x H'' → H'' = H' ∧ RD K φ' lh'.length H' d x
abbrev QI (X : Cx) (W : WX) (tg e : Expr) (m : M (IT × Nat)) : Prop := PI X tg e (rd X.K X.mg W (ItOk X.K X.mg) m)
def itL (xs : List D) : IT := fun _ j => some xs[j]?
def itO (i : Nat) : IT := fun h j => match h[i]? with
  | some (.lst xs) => some xs[j]?
  | _ => none
/-- any sequence or text -/
def iSeq (a : M D) : M (IT × Nat) := fun e h => (a e h).bind fun d h1 => match d with
  | .tup xs => .ok (itL xs, xs.length) h1
  | .scr ns => .ok (itL (ns.map D.int), ns.length) h1
  | .ref i => match h1[i]? with
    | some (.lst xs) => .ok (itO i, xs.length) h1
    | _ => .bad
  | _ => .bad
def iTupM (a : M D) : M (IT × Nat) := fun e h => (a e h).bind fun d h1 => match d with
  | .tup xs => .ok (itL xs, xs.length) h1
  | _ => .bad
def iStrM (a : M D) : M (IT × Nat) := fun e h => (a e h).bind fun d h1 => match d with
  | .str s => .ok (itL (s.map fun c => D.str [c]), s.length) h1
  | _ => .bad
def iRng1M (a : M (List D)) : M (IT × Nat) := fun e h => (a e h).bind fun d h1 => match d with
  | [.int n] => if -(2 ^ 62) ≤ n ∧ n < 2 ^ 62 then .ok (fun _ j => some (if j < n.toNat then some (.int j) else none), n.toNat) h1 else .bad
  | _ => .bad
def iRng2M (a : M (List D)) : M (IT × Nat) := fun e h => (a e h).bind fun d h1 => match d with
  | [.int m, .int n] => if -(2 ^ 62) ≤ m ∧ m < 2 ^ 62 ∧ -(2 ^ 62) ≤ n ∧ n < 2 ^ 62 then .ok (fun _ j => some (if j < (n - m).toNat then some (.int (m + j)) else none), (n - m).toNat) h1 else .bad
  | _ => .bad
section
variable {X : Cx} {W : WX} {tg e : Expr} {es : List Expr} {ma : M D} {mas : M (List D)}
theorem itok_tup {K : PySem.W.Frag} {mg : Str → Option Value} {φ : Nat → Addr} {n : Nat} {H : Hp} {a : Addr} {xs : List D} {vs : List V} (h : SqT K H a vs) (r : RDs K φ n H xs vs) : ItOk K mg φ n H (itL xs, xs.length) (Itt K a) := by
  refine ⟨fun φ' lh' H' hn ag ex hr j hj => ?_, fun φ' lh' H' hn ag ex hr j d hj => ?_⟩
  · refine ⟨vs, sqT_ext ex h, ?_⟩
    have := List.getElem?_eq_none_iff.mp (Option.some.inj hj)
    rw [← r.len]; exact this
  · have hj' : xs[j]? = some d := Option.some.inj hj
    obtain ⟨v, ev, rv⟩ := r.get hj'
    refine ⟨⟨vs, v, sqT_ext ex h, ev⟩, fun x H'' ⟨e1, y⟩ => ⟨e1, ?_⟩⟩
    have := y vs (sqT_ext ex h)
    rw [ev] at this
    cases this
    exact rv.mono hn ag ex
theorem scrL_ext {K : PySem.W.Frag} {H H' : Hp} {a : Addr} {ns : List Int} (ex : Ext H H') (h : (∃ o, H a = some (.frz o (.lst (ns.map V.int)))) ∨ (∃ (o : Obj) (its : Array Value) (m : Nat), K.lookup a = some o ∧ o.cls = .type "list" ∧ o.dict = none ∧ o.data = .seq its m ∧ its.size ≤ sizeLine ∧ Vals (ns.map V.int) its.toList)) :
    SqL K H' a (ns.map V.int) := by
  rcases h with ⟨o, h⟩ | h
  · exact .inl (.inr ⟨o, ex.frz _ _ _ h⟩)
  · exact .inr h
theorem RDs.ints {K : PySem.W.Frag} {φ : Nat → Addr} {n : Nat} {H : Hp} : ∀ ns : List Int, RDs K φ n H (ns.map D.int) (ns.map V.int)
  | [] => .nil
  | i :: ns => .cons (.int i) (RDs.ints ns)
theorem itok_scr {K : PySem.W.Frag} {mg : Str → Option Value} {φ : Nat → Addr} {n : Nat} {H : Hp} {a : Addr} {ns : List Int} (h : (∃ o, H a = some (.frz o (.lst (ns.map V.int)))) ∨ (∃ (o : Obj) (its : Array Value) (m : Nat), K.lookup a = some o ∧ o.cls = .type "list" ∧ o.dict = none ∧ o.data = .seq its m ∧ its.size ≤ sizeLine ∧ Vals (ns.map V.int) its.toList)) : ItOk K mg φ n H (itL (ns.map D.int), ns.length) (Itl K a) := by
  refine ⟨fun φ' lh' H' hn ag ex hr j hj => ?_, fun φ' lh' H' hn ag ex hr j d hj => ?_⟩
  · refine ⟨_, scrL_ext ex h, ?_⟩
    have := List.getElem?_eq_none_iff.mp (Option.some.inj hj)
    simpa using this
  · have hj' : (ns.map D.int)[j]? = some d := Option.some.inj hj
    obtain ⟨v, ev, rv⟩ := (RDs.ints (K := K) (φ := φ') (n := lh'.length) (H := H') ns).get hj'
    refine ⟨⟨_, v, scrL_ext ex h, ev⟩, fun x H'' ⟨e1, y⟩ => ⟨e1, ?_⟩⟩
    have := y _ (scrL_ext ex h)
    rw [ev] at this
    cases this
    exact rv
theorem itok_obj {K : PySem.W.Frag} {mg : Str → Option Value} {φ : Nat → Addr} {n m : Nat} {H : Hp} {i : Nat} (hi : i < n) : ItOk K mg φ n H (itO i, m) (Itl K (φ i)) := by
  refine ⟨fun φ' lh' H' hn ag ex hr j hj => ?_, fun φ' lh' H' hn ag ex hr j d hj => ?_⟩
  · unfold itO at hj
    simp only at hj
    cases el : lh'[i]? with
    | none => rw [el] at hj; cases hj
    | some o =>
      cases o with
      | lst xs =>
        rw [el] at hj
        obtain ⟨vs, hv, r⟩ := hr.lst el
        rw [ag i hi] at hv
        refine ⟨vs, SqL.of hv, ?_⟩
        have := List.getElem?_eq_none_iff.mp (Option.some.inj hj)
        rw [← r.len]; exact this
      | _ => rw [el] at hj; cases hj
  · unfold itO at hj
    simp only at hj
    cases el : lh'[i]? with
    | none => rw [el] at hj; cases hj
    | some o =>
      cases o with
      | lst xs =>
        rw [el] at hj
        obtain ⟨vs, hv, r⟩ := hr.lst el
        rw [ag i hi] at hv
        have hj' : xs[j]? = some d := Option.some.inj hj
        obtain ⟨v, ev, rv⟩ := r.get hj'
        refine ⟨⟨vs, v, SqL.of hv, ev⟩, fun x H'' ⟨e1, y⟩ => ⟨e1, ?_⟩⟩
        have := y vs (SqL.of hv)
        rw [ev] at this
        cases this
        exact rv
      | _ => rw [el] at hj; cases hj
theorem ItOk.J {K : PySem.W.Frag} {mg : Str → Option Value} {φ : Nat → Addr} {n : Nat} {H : Hp} {g : IT × Nat} {J J' : It} (h : ItOk K mg φ n H g J) (e : J = J') : ItOk K mg φ n H g J' := e ▸ h
/-- a walk over a list, the script or (by another rule) a tuple -/
theorem qi_list {l : Expr} (hl : QE X W l ma) : QI X W tg l (fun e h => (ma e h).bind fun d h1 => match d with
  | .scr ns => .ok (itL (ns.map D.int), ns.length) h1
  | .ref i => match h1[i]? with
    | some (.lst xs) => .ok (itO i, xs.length) h1
    | _ => .bad
  | _ => .bad) := by
  refine ⟨fun pins s σ H R I ⟨φ, env, lh, h1, h2, q⟩ => (pi_list hl).run pins s σ H R I ?_⟩
  refine rd_of h1 h2 (wp_step q fun d lh1 φ1 v H1 p1 r1 q1 => ?_)
  cases d with
  | scr ns =>
    cases r1 with
    | scr hs => exact ⟨_, rfl, ⟨_, scrL_ext (Ext.refl _) hs⟩, wp_ok q1 (.refl p1.hr) (itok_scr hs)⟩
  | ref i =>
    obtain ⟨e1, hi⟩ := r1.ref_inv
    cases el : lh1[i]? with
    | none => simp only [el] at q1; exact q1.elim
    | some o =>
      cases o with
      | lst xs =>
        simp only [el] at q1
        obtain ⟨vs, hv, r⟩ := p1.hr.lst el
        exact ⟨_, e1, ⟨_, SqL.of hv⟩, wp_ok q1 (.refl p1.hr) (itok_obj hi)⟩
      | _ => simp only [el] at q1; exact q1.elim
  | _ => exact q1.elim
theorem qi_tup {l : Expr} (hl : QE X W l ma) : QI X W tg l (iTupM ma) := by
  refine ⟨fun pins s σ H R I ⟨φ, env, lh, h1, h2, q⟩ => (pi_tup hl).run pins s σ H R I ?_⟩
  refine rd_of h1 h2 (wp_step q fun d lh1 φ1 v H1 p1 r1 q1 => ?_)
  cases d with
  | tup xs =>
    obtain ⟨a, vs, e1, hq, r⟩ := r1.tup_inv
    exact ⟨_, e1, ⟨_, hq⟩, wp_ok q1 (.refl p1.hr) (itok_tup hq r)⟩
  | _ => exact q1.elim
theorem RDs.chars {K : PySem.W.Frag} {φ : Nat → Addr} {n : Nat} {H : Hp} {s : List Nat} {j : Nat} {d : D} (h : (s.map fun c => D.str [c])[j]? = some d) : ∃ c, s[j]? = some c ∧ d = .str [c] := by
  rw [List.getElem?_map] at h
  cases e : s[j]? with
  | none => rw [e] at h; cases h
  | some c => rw [e] at h; exact ⟨c, rfl, (Option.some.inj h).symm⟩
theorem qi_str {l : Expr} (hl : QE X W l ma) : QI X W tg l (iStrM ma) := by
  refine ⟨fun pins s σ H R I ⟨φ, env, lh, h1, h2, q⟩ => (pi_str hl).run pins s σ H R I ?_⟩
  refine rd_of h1 h2 (wp_step q fun d lh1 φ1 v H1 p1 r1 q1 => ?_)
  cases d with
  | str s =>
    refine ⟨_, r1.str_inv, wp_ok q1 (.refl p1.hr) ?_⟩
    refine ⟨fun φ' lh' H' hn ag ex hr j hj => ?_, fun φ' lh' H' hn ag ex hr j d hj => ?_⟩
    · have := List.getElem?_eq_none_iff.mp (Option.some.inj hj)
      show s.toArray.size ≤ j
      simpa using this
    · obtain ⟨c, ec, rfl⟩ := RDs.chars (K := X.K) (φ := φ) (n := 0) (H := H) (Option.some.inj hj)
      have hlt : j < s.toArray.size := by
        have := lt_of_get ec
        simpa using this
      refine ⟨hlt, fun x H'' ⟨e1, c', e2, e3⟩ => ⟨e1, ?_⟩⟩
      have : s[j]? = some c' := by simpa using e2
      rw [ec] at this
      cases this
      subst e3
      exact .str [c]
  | _ => exact q1.elim
theorem qi_range1 {p pos : Pos} (hg : Gl X "range") (hm : X.mg "range" = none) (ha : QA X W [e] mas) (hs : starEach [e] X.env = [(false, eval e X.env)] := by rfl) : QI X W tg (.Call (.Name "range" p) [e] [] pos) (iRng1M mas) := by
  refine ⟨fun pins s σ H R I ⟨φ, env, lh, h1, h2, q⟩ => (pi_range1 hg hm ha hs).run pins s σ H R I ?_⟩
  refine rd_of h1 h2 (wp_step q fun ds lh1 φ1 vs H1 p1 r1 q1 => ?_)
  split at q1
  · rename_i n
    cases r1 with
    | cons r1 rn =>
      cases rn
      cases r1
      by_cases c : -(2 ^ 62) ≤ n ∧ n < 2 ^ 62
      · rw [if_pos c] at q1
        refine ⟨n, rfl, c.1, c.2, wp_ok q1 (.refl p1.hr) ?_⟩
        refine ⟨fun φ' lh' H' hn ag ex hr j hj => ?_, fun φ' lh' H' hn ag ex hr j d hj => ?_⟩
        · simp only [Option.some.injEq] at hj
          split at hj
          · cases hj
          · rename_i c2; exact Nat.le_of_not_lt c2
        · simp only [Option.some.injEq] at hj
          split at hj
          · rename_i c2
            cases hj
            refine ⟨c2, fun x H'' ⟨e1, e2⟩ => ⟨e1, ?_⟩⟩
            subst e2
            rw [Int.zero_add]
            exact .int _
          · cases hj
      · rw [if_neg c] at q1; exact q1.elim
  · exact q1.elim
theorem qi_range2 {e2 : Expr} {p pos : Pos} (hg : Gl X "range") (hm : X.mg "range" = none) (ha : QA X W [e, e2] mas) (hs : starEach [e, e2] X.env = [(false, eval e X.env), (false, eval e2 X.env)] := by rfl) (hs2 : starEach [e2] X.env = [(false, eval e2 X.env)] := by rfl) : QI X W tg (.Call (.Name "range" p) [e, e2] [] pos) (iRng2M mas) := by
  refine ⟨fun pins s σ H R I ⟨φ, env, lh, h1, h2, q⟩ => (pi_range2 hg hm ha hs hs2).run pins s σ H R I ?_⟩
  refine rd_of h1 h2 (wp_step q fun ds lh1 φ1 vs H1 p1 r1 q1 => ?_)
  split at q1
  · rename_i m n
    cases r1 with
    | cons r1 rn =>
      cases rn with
      | cons r2 rn =>
        cases rn
        cases r1
        cases r2
        by_cases c : -(2 ^ 62) ≤ m ∧ m < 2 ^ 62 ∧ -(2 ^ 62) ≤ n ∧ n < 2 ^ 62
        · rw [if_pos c] at q1
          refine ⟨m, n, rfl, c, wp_ok q1 (.refl p1.hr) ?_⟩
          refine ⟨fun φ' lh' H' hn ag ex hr j hj => ?_, fun φ' lh' H' hn ag ex hr j d hj => ?_⟩
          · simp only [Option.some.injEq] at hj
            split at hj
            · cases hj
            · rename_i c2; exact Nat.le_of_not_lt c2
          · simp only [Option.some.injEq] at hj
            split at hj
            · rename_i c2
              cases hj
              refine ⟨c2, fun x H'' ⟨e1, e2⟩ => ⟨e1, ?_⟩⟩
              subst e2
              exact .int _
            · cases hj
        · rw [if_neg c] at q1; exact q1.elim
  · exact q1.elim
end
/-! ### targets of names -/
inductive TN where
  | nm (i : Nat)
  | tp (is : List Nat)
def setAll : List Nat → List D → EN → Option EN
  | [], [], e => some e
  | i :: is, d :: ds, e => setAll is ds (e.set i (some d))
  | _, _, _ => none
def tnSet : TN → D → EN → Option EN
  | .nm i, d, e => some (e.set i (some d))
  | .tp is, .tup ds, e => setAll is ds e
  | _, _, _ => none
def gsN : List Nat → TGs
  | [] => gNil
  | i :: is => gCons (gName i) (gsN is)
def gN (K : PySem.W.Frag) : TN → TG
  | .nm i => gName i
  | .tp is => gTup K is.length (gsN is)
def tnIx : TN → List Nat
  | .nm i => [i]
  | .tp is => is
def setV : List Nat → List V → L2.St → L2.St
  | i :: is, v :: vs, σ => setV is vs (σ.set i (some v))
  | _, _, σ => σ
section
variable {K : PySem.W.Frag} {mg : Str → Option Value} {φ : Nat → Addr} {n : Nat} {H : Hp}
theorem gsN_ok : ∀ {is : List Nat} {ds : List D} {vs : List V} {e e' : EN} {σ : L2.St} {Q : L2.St → Hp → Prop}, setAll is ds e = some e' → RS K φ n H e σ → RDs K φ n H ds vs → (∀ σ', σ' = setV is vs σ → RS K φ n H e' σ' → Q σ' H) → gsN is vs σ H Q
  | [], [], _, e, e', σ, Q, h, r, rd, q => by
    cases rd
    cases h
    exact ⟨rfl, q _ rfl r⟩
  | i :: is, d :: ds, _, e, e', σ, Q, h, r, rd, q => by
    cases rd with
    | cons r1 rn => exact ⟨_, _, rfl, gsN_ok (is := is) h (r.set r1 i) rn q⟩
  | [], _ :: _, _, _, _, _, _, h, _, _, _ => by cases h
  | _ :: _, [], _, _, _, _, _, h, _, _, _ => by cases h
theorem setAll_len : ∀ {is : List Nat} {ds : List D} {e e' : EN}, setAll is ds e = some e' → ds.length = is.length
  | [], [], _, _, _ => rfl
  | i :: is, d :: ds, e, e', h => by rw [List.length_cons, List.length_cons, setAll_len (is := is) h]
  | [], _ :: _, _, _, h => by cases h
  | _ :: _, [], _, _, h => by cases h
theorem wipe_setV {vs : List Nat} : ∀ {is : List Nat} {ws : List V} {σ : L2.St}, (∀ i ∈ is, i ∈ vs) → wipe (setV is ws σ) vs = wipe σ vs
  | [], _, σ, _ => by cases ‹List V› <;> rfl
  | i :: is, [], σ, _ => rfl
  | i :: is, w :: ws, σ, h => by
    show wipe (setV is ws (σ.set i (some w))) vs = _
    rw [wipe_setV (is := is) fun j hj => h j (List.mem_cons_of_mem _ hj)]
    have hi := h i (List.mem_cons_self ..)
    clear h
    induction vs with
    | nil => cases hi
    | cons v vs ih =>
      show (wipe (σ.set i (some w)) vs).set v none = (wipe σ vs).set v none
      by_cases c : i ∈ vs
      · rw [ih c]
      · have e : i = v := by
          rcases List.mem_cons.mp hi with e | e
          · exact e
          · exact absurd e c
        subst e
        clear ih hi
        have out : ∀ (vs : List Nat) (σ : L2.St), i ∉ vs → wipe (σ.set i (some w)) vs = (wipe σ vs).set i (some w) := by
          intro vs
          induction vs with
          | nil => intro σ _; rfl
          | cons u us ih =>
            intro σ hu
            show (wipe (σ.set i (some w)) us).set u none = ((wipe σ us).set u none).set i (some w)
            rw [ih σ fun z => hu (List.mem_cons_of_mem _ z), List.set_comm]
            intro z
            exact hu (by rw [z]; exact List.mem_cons_self ..)
        rw [out vs σ c, List.set_set]
theorem gN_ok {t : TN} {d : D} {v : V} {e e' : EN} {σ : L2.St} {Q : L2.St → Hp → Prop} (h : tnSet t d e = some e') (r : RS K φ n H e σ) (rd : RD K φ n H d v)
    (q : ∀ σ', (∀ vs : List Nat, (∀ i ∈ tnIx t, i ∈ vs) → wipe σ' vs = wipe σ vs) → RS K φ n H e' σ' → Q σ' H) : gN K t v σ H Q := by
  cases t with
  | nm i =>
    cases h
    exact q _ (fun vs hv => wipe_setV (is := [i]) (ws := [v]) hv) (r.set rd i)
  | tp is =>
    cases d with
    | tup ds =>
      obtain ⟨a, vs, rfl, hq, rs⟩ := rd.tup_inv
      refine ⟨a, vs, rfl, hq, ?_, gsN_ok h r rs fun σ' e1 r' => q σ' (fun ws hw => by rw [e1]; exact wipe_setV hw) r'⟩
      rw [← rs.len]; exact setAll_len h
    | _ => cases h
end
/-! ### for -/
def loopF (g : IT) (t : TN) (body : MS) : Nat → Nat → EN → LH → RSt
  | n, j, e, h => match g h j with
    | none => .bad
    | some none => .next e h
    | some (some d) => match n with
      | 0 => .bad
      | n + 1 => match tnSet t d e with
        | none => .bad
        | some e1 => match body e1 h with
          | .next e2 h2 => loopF g t body n (j + 1) e2 h2
          | .cnt e2 h2 => loopF g t body n (j + 1) e2 h2
          | .brk e2 h2 => .next e2 h2
          | .ret x h2 => .ret x h2
          | .exc x e2 h2 => .exc x e2 h2
          | .bad => .bad
def sFor (it : M (IT × Nat)) (t : TN) (body : MS) : MS := fun e h => rsBind (it e h) e fun g h1 => loopF g.1 t body g.2 0 e h1
section
variable {X : Cx} {W : WX} {tg iter : Expr} {body : List Stmt} {pos : Pos} {mi : M (IT × Nat)} {t : TN} {mb : MS}
theorem qs_for (hp : PassesOwn (model X.prog X.w) X.A X.env X.xe) (hc : X.calm = true) (hi : QI X W tg iter mi) (hg : PG X tg (gN X.K t)) (hb : QSs X W body mb)
    (hs : ∀ x, foldedSetIterable iter X.env x = pure x := by intro _; rfl) : QS X W (.For tg iter body [] pos) (sFor mi t mb) := by
  refine psI (ps_for hp hc hi hg hb hs) fun D σ H ⟨φ, env, lh, h1, h2, q⟩ => ?_
  have q' : wps X.K X.mg W (sFor mi t mb env lh) φ lh H D := q
  refine rd_of h1 h2 (wps_step h2 q' fun g lh1 φ1 J H1 p1 r1 q1 => ?_)
  refine ⟨fun i m σ H => ∃ φ2 env2 lh2, Po X.K X.mg φ1 lh1 H1 φ2 lh2 H ∧ RS X.K φ2 lh2.length H env2 σ ∧ wps X.K X.mg W (loopF g.1 t mb m i env2 lh2) φ2 lh2 H D, ⟨g.2, φ1, env, lh1, .refl p1.hr, h2.up p1, q1⟩, ?_⟩
  rintro i m σ2 H2 ⟨φ2, env2, lh2, p2, r2, q2⟩
  unfold loopF at q2
  cases eg : g.1 lh2 i with
  | none => simp only [eg] at q2; exact q2.elim
  | some od =>
    cases od with
    | none =>
      simp only [eg] at q2
      exact .inl ⟨r1.stop φ2 lh2 H2 p2.le p2.ag p2.ext p2.hr i eg, q2 φ2 σ2 H2 (.refl p2.hr) r2⟩
    | some d =>
      simp only [eg] at q2
      cases m with
      | zero => exact q2.elim
      | succ m =>
        simp only at q2
        cases et : tnSet t d env2 with
        | none => simp only [et] at q2; exact q2.elim
        | some e1 =>
          simp only [et] at q2
          obtain ⟨hgo, hy⟩ := r1.go φ2 lh2 H2 p2.le p2.ag p2.ext p2.hr i d eg
          refine .inr ⟨hgo, fun σ' H' => ∃ m', m' < m + 1 ∧ ∃ φ2 env2 lh2, Po X.K X.mg φ1 lh1 H1 φ2 lh2 H' ∧ RS X.K φ2 lh2.length H' env2 σ' ∧ wps X.K X.mg W (loopF g.1 t mb m' (i + 1) env2 lh2) φ2 lh2 H' D, fun σ' H' n => n, fun x H' y => ?_⟩
          obtain ⟨e0, rx⟩ := hy x H' y
          subst e0
          refine gN_ok et r2 rx fun σ3 _ r3 => ?_
          refine ⟨φ2, e1, lh2, p2.hr, r3, ?_⟩
          cases em : mb e1 lh2 with
          | next e2 h2' =>
            simp only [em] at q2
            exact fun φ' σ' H' p r => ⟨m, Nat.lt_succ_self _, φ', e2, h2', p2.trans p, r, wps_mono p q2⟩
          | cnt e2 h2' =>
            simp only [em] at q2
            exact fun φ' σ' H' p r => ⟨m, Nat.lt_succ_self _, φ', e2, h2', p2.trans p, r, wps_mono p q2⟩
          | brk e2 h2' => simp only [em] at q2; exact q2
          | ret e2 h2' => simp only [em] at q2; exact q2
          | exc x e2 h2' => simp only [em] at q2; exact q2
          | bad => simp only [em] at q2; exact q2.elim
/-! ### while -/
def loopW (c : M Bool) (body : MS) : Nat → EN → LH → RSt
  | n, e, h => rsBind (c e h) e fun b h1 => if b then (match n with
    | 0 => .bad
    | n + 1 => match body e h1 with
      | .next e2 h2 => loopW c body n e2 h2
      | .cnt e2 h2 => loopW c body n e2 h2
      | .brk e2 h2 => .next e2 h2
      | .ret x h2 => .ret x h2
      | .exc x e2 h2 => .exc x e2 h2
      | .bad => .bad) else .next e h1
def sWhile (fuel : Nat) (c : M Bool) (body : MS) : MS := fun e h => loopW c body fuel e h
theorem qs_while {c : Expr} {mc : M Bool} (fuel : Nat) (hp : PassesOwn (model X.prog X.w) X.A X.env X.xe) (hc : QT X W c mc) (hb : QSs X W body mb) : QS X W (.While c body [] pos) (sWhile fuel mc mb) := by
  refine psI (ps_while hp hc hb) fun D σ H ⟨φ, env, lh, h1, h2, q⟩ => ?_
  have q' : wps X.K X.mg W (loopW mc mb fuel env lh) φ lh H D := q
  refine ⟨fun m σ H => ∃ φ2 env2 lh2, HR X.K X.mg φ2 lh2 H ∧ RS X.K φ2 lh2.length H env2 σ ∧ wps X.K X.mg W (loopW mc mb m env2 lh2) φ2 lh2 H D, ⟨fuel, φ, env, lh, h1, h2, q'⟩, ?_⟩
  rintro m σ2 H2 ⟨φ2, env2, lh2, p2, r2, q2⟩
  unfold loopW at q2
  refine rd_of p2 r2 (wps_step r2 q2 fun b lh3 φ3 v H3 p3 r3 q3 => ?_)
  cases r3
  cases b with
  | false => exact q3 φ3 σ2 H3 (.refl p3.hr) (r2.up p3)
  | true =>
    simp only [if_true] at q3 ⊢
    cases m with
    | zero => exact q3.elim
    | succ m =>
      simp only at q3
      refine ⟨fun σ' H' => ∃ m', m' < m + 1 ∧ ∃ φ2 env2 lh2, HR X.K X.mg φ2 lh2 H' ∧ RS X.K φ2 lh2.length H' env2 σ' ∧ wps X.K X.mg W (loopW mc mb m' env2 lh2) φ2 lh2 H' D, fun σ' H' n => n, ?_⟩
      refine ⟨φ3, env2, lh3, p3.hr, r2.up p3, ?_⟩
      cases em : mb env2 lh3 with
      | next e2 h2' =>
        simp only [em] at q3
        exact fun φ' σ' H' p r => ⟨m, Nat.lt_succ_self _, φ', e2, h2', p.hr, r, wps_mono p q3⟩
      | cnt e2 h2' =>
        simp only [em] at q3
        exact fun φ' σ' H' p r => ⟨m, Nat.lt_succ_self _, φ', e2, h2', p.hr, r, wps_mono p q3⟩
      | brk e2 h2' => simp only [em] at q3; exact q3
      | ret e2 h2' => simp only [em] at q3; exact q3
      | exc x e2 h2' => simp only [em] at q3; exact q3
      | bad => simp only [em] at q3; exact q3.elim
end
/-! ### displays -/
def mTup (a : M (List D)) : M D := fun e h => (a e h).bind fun xs h1 => if xs.length ≤ 16777216 then .ok (.tup xs) h1 else .bad
def mLst (a : M (List D)) : M D := fun e h => (a e h).bind fun xs h1 => if xs.length ≤ 16777216 then .ok (.ref h1.length) (h1 ++ [.lst xs]) else .bad
section
variable {X : Cx} {W : WX} {es : List Expr} {pos : Pos} {mas : M (List D)}
theorem sz_le {n : Nat} (h : n ≤ 16777216) : n ≤ sizeLine := by rw [sizeLine_eq]; exact h
theorem wp_new {K : PySem.W.Frag} {mg : Str → Option Value} {W : WX} {σ : L2.St} {φ : Nat → Addr} {lh : LH} {H : Hp} {Q : VK} {u : LO} {o : HO} {p : Addr} (q : wp K mg W σ (RD K) (.ok (.ref lh.length) (lh ++ [u])) φ lh H Q) (h : HR K mg φ lh H) (hp : H p = none)
    (ho : OA K mg (ext1 φ lh.length p) (lh.length + 1) (upd H p o) p u) : Q (.ref p) (upd H p o) := by
  have P := Po.new h hp ho
  have r : RD K (ext1 φ lh.length p) (lh ++ [u]).length (upd H p o) (.ref lh.length) (.ref (ext1 φ lh.length p lh.length)) := .ref (by simp)
  rw [ext1_at] at r
  exact wp_ok q P r
theorem wp_newL {K : PySem.W.Frag} {mg : Str → Option Value} {W : WX} {σ : L2.St} {φ : Nat → Addr} {lh : LH} {H : Hp} {Q : VK} {xs : List D} {vs : List V} {p : Addr} (q : wp K mg W σ (RD K) (.ok (.ref lh.length) (lh ++ [.lst xs])) φ lh H Q) (h : HR K mg φ lh H) (hp : H p = none)
    (r : RDs K φ lh.length H xs vs) : Q (.ref p) (upd H p (.lst vs)) :=
  wp_new q h hp ⟨vs, upd_same, r.mono (Nat.le_succ _) (fun i hi => ext1_lt hi) (Ext.new hp)⟩
theorem wp_newT {K : PySem.W.Frag} {mg : Str → Option Value} {W : WX} {σ : L2.St} {φ : Nat → Addr} {lh : LH} {H : Hp} {Q : VK} {xs : List D} {vs : List V} {p : Addr} (q : wp K mg W σ (RD K) (.ok (.tup xs) lh) φ lh H Q) (h : HR K mg φ lh H) (hp : H p = none)
    (r : RDs K φ lh.length H xs vs) : Q (.ref p) (upd H p (.tup vs)) := by
  have P : Po K mg φ lh H φ lh (upd H p (.tup vs)) := Po.side h hp
  exact wp_ok q P (.tup (SqT.of upd_same) (r.up P))
theorem qe_tup {x1} (h : QA X W es mas) : QE X W (.Tuple es x1 pos) (mTup mas) := by
  refine qe_of (pe_tup h) fun σ φ env lh H Q h1 h2 q => ?_
  refine rd_of h1 h2 (wp_step q fun xs lh1 φ1 vs H1 p1 r1 q1 => ?_)
  by_cases c : xs.length ≤ 16777216
  · rw [if_pos c] at q1
    exact ⟨by rw [← r1.len]; exact sz_le c, fun p hp => wp_newT q1 p1.hr hp r1⟩
  · rw [if_neg c] at q1; exact q1.elim
theorem qe_lst (h : QA X W es mas) : QE X W (.List es pos) (mLst mas) := by
  refine qe_of (pe_lst h) fun σ φ env lh H Q h1 h2 q => ?_
  refine rd_of h1 h2 (wp_step q fun xs lh1 φ1 vs H1 p1 r1 q1 => ?_)
  by_cases c : xs.length ≤ 16777216
  · rw [if_pos c] at q1
    exact ⟨by rw [← r1.len]; exact sz_le c, fun p hp => wp_newL q1 p1.hr hp r1⟩
  · rw [if_neg c] at q1; exact q1.elim
end
/-! ### comprehensions -/
def wipeM (e : EN) : List Nat → EN
  | [] => e
  | v :: vs => (wipeM e vs).set v none
def mYes : M Bool := fun _ h => .ok true h
def loopC (g : IT) (t : TN) (c : M Bool) (y : M D) (e : EN) (k : Nat) : Nat → Nat → LH → Res D
  | n, j, h => match g h j with
    | none => .bad
    | some none => .ok (.ref k) h
    | some (some d) => match n with
      | 0 => .bad
      | n + 1 => match tnSet t d e with
        | none => .bad
        | some e1 => match c e1 h with
          | .ok true h2 => (match y e1 h2 with
            | .ok x h3 => (match h3[k]? with
              | some (.lst acc) => if acc.length < 16777216 then loopC g t c y e k n (j + 1) (h3.set k (.lst (acc ++ [x]))) else .bad
              | _ => .bad)
            | _ => .bad)
          | .ok false h2 => loopC g t c y e k n (j + 1) h2
          | _ => .bad
def mLc (it : M (IT × Nat)) (t : TN) (c : M Bool) (y : M D) (vs : List Nat) : M D := fun e h => (it e h).bind fun g h1 => loopC g.1 t c y (wipeM e vs) h1.length g.2 0 (h1 ++ [.lst []])
abbrev WN : WX := fun _ _ _ _ => False
abbrev QTs (X : Cx) (W : WX) (es : List Expr) (m : M Bool) : Prop := PTs X es (rdT X.K X.mg W m)
theorem qts_nil {X : Cx} {W : WX} : QTs X W [] mYes := ⟨fun pins s σ H Q I ⟨φ, env, lh, h1, h2, q⟩ => pts_nil.run pins s σ H Q I (wp_ok q (.refl h1) rfl)⟩
theorem qts_one {X : Cx} {W : WX} {c : Expr} {m : M Bool} (h : QT X W c m) : QTs X W [c] m := pts_one h
section
variable {K : PySem.W.Frag} {φ : Nat → Addr} {n : Nat} {H : Hp}
theorem RS.wipe {e : EN} {σ : L2.St} (r : RS K φ n H e σ) : ∀ vs : List Nat, RS K φ n H (wipeM e vs) (L2.wipe σ vs)
  | [] => r
  | v :: vs => (r.wipe vs).clear v
end
theorem wp_mono {K : PySem.W.Frag} {mg : Str → Option Value} {W : WX} {σ : L2.St} {α β : Type} {R : (Nat → Addr) → Nat → Hp → α → β → Prop} {x : Res α} {φ φ1 : Nat → Addr} {lh lh1 : LH} {H H1 : Hp} {Q : β → Hp → Prop} (p : Po K mg φ lh H φ1 lh1 H1) (h : wp K mg W σ R x φ lh H Q) : wp K mg W σ R x φ1 lh1 H1 Q := by
  cases x with
  | ok d lh' => exact fun φ' v H' p' r => h φ' v H' (p.trans p') r
  | exc e lh' => exact fun φ' cls dd H' p' r => h φ' cls dd H' (p.trans p') r
  | bad => exact h
theorem wipe_set0 (σ : L2.St) (i : Nat) : ∀ vs : List Nat, wipe (σ.set i none) vs = (wipe σ vs).set i none
  | [] => rfl
  | v :: vs => by
    show (wipe (σ.set i none) vs).set v none = ((wipe σ vs).set v none).set i none
    rw [wipe_set0 σ i vs]
    by_cases c : i = v
    · subst c; rfl
    · rw [List.set_comm _ _ c]
theorem wipe_wipe (σ : L2.St) : ∀ vs : List Nat, wipe (wipe σ vs) vs = wipe σ vs
  | [] => rfl
  | v :: vs => by
    show (wipe ((wipe σ vs).set v none) vs).set v none = (wipe σ vs).set v none
    rw [wipe_set0, wipe_wipe σ vs, List.set_set]
section
variable {X : Cx} {W : WX} {elt tg iter : Expr} {ifs : List Expr} {scope : Scope} {own : List (Str × Nat)} {pos : Pos} {mi : M (IT × Nat)} {t : TN} {mc : M Bool} {my : M D}
theorem lc_ok {vs : List Nat} (ho : ∀ i ∈ tnIx t, i ∈ vs) {K : PySem.W.Frag} {mg : Str → Option Value} {σ : L2.St} {H : Hp} {Q : VK} {φ : Nat → Addr} {env : EN} {lh : LH} (h1 : HR K mg φ lh H) (h2 : RS K φ lh.length H env σ)
    (q : wp K mg W σ (RD K) (mLc mi t mc my vs env lh) φ lh H Q) : tLc (rd K mg W (ItOk K mg) mi) (gN K t) (rdT K mg WN mc) (rdE K mg WN my) vs σ H Q := by
  refine rd_of h1 h2 (wp_step q fun g lh1 φ1 J H1 p1 r1 q1 => ?_)
  intro D hD
  have P0 : Po K mg φ1 lh1 H1 (ext1 φ1 lh1.length D) (lh1 ++ [.lst []]) (upd H1 D (.lst [])) := Po.new p1.hr hD ⟨[], upd_same, .nil⟩
  have hw : RS K φ1 lh1.length H1 (wipeM env vs) (wipe σ vs) := (h2.up p1).wipe _
  have hk : lh1.length < (lh1 ++ [LO.lst []]).length := by simp
  refine ⟨fun i m H => ∃ φ2 lh2, Po K mg (ext1 φ1 lh1.length D) (lh1 ++ [.lst []]) (upd H1 D (.lst [])) φ2 lh2 H ∧ wp K mg W σ (RD K) (loopC g.1 t mc my (wipeM env vs) lh1.length m i lh2) φ2 lh2 H Q, ⟨g.2, _, _, .refl P0.hr, wp_mono P0 q1⟩, ?_⟩
  rintro i m H2 ⟨φ2, lh2, p2, q2⟩
  have pp := P0.trans p2
  have eD : φ2 lh1.length = D := (p2.ag _ hk).trans ext1_at
  have hk2 : lh1.length < lh2.length := Nat.lt_of_lt_of_le hk p2.le
  unfold loopC at q2
  cases eg : g.1 lh2 i with
  | none => simp only [eg] at q2; exact q2.elim
  | some od =>
    cases od with
    | none =>
      simp only [eg] at q2
      refine .inl ⟨r1.stop φ2 lh2 H2 pp.le pp.ag pp.ext pp.hr i eg, ?_⟩
      have := wp_ok q2 (.refl p2.hr) (.ref hk2)
      rw [eD] at this
      exact this
    | some d =>
      simp only [eg] at q2
      cases m with
      | zero => exact q2.elim
      | succ m =>
        simp only at q2
        cases et : tnSet t d (wipeM env vs) with
        | none => simp only [et] at q2; exact q2.elim
        | some e1 =>
          simp only [et] at q2
          obtain ⟨hgo, hy⟩ := r1.go φ2 lh2 H2 pp.le pp.ag pp.ext pp.hr i d eg
          refine .inr ⟨hgo, fun H' => ∃ m', m' < m + 1 ∧ ∃ φ2 lh2, Po K mg (ext1 φ1 lh1.length D) (lh1 ++ [.lst []]) (upd H1 D (.lst [])) φ2 lh2 H' ∧ wp K mg W σ (RD K) (loopC g.1 t mc my (wipeM env vs) lh1.length m' (i + 1) lh2) φ2 lh2 H' Q, fun H' n => n, fun x H' y => ?_⟩
          obtain ⟨e0, rx⟩ := hy x H' y
          subst e0
          refine gN_ok et (hw.up pp) rx fun σ3 ew r3 => ⟨(ew vs ho).trans (wipe_wipe σ vs), φ2, e1, lh2, p2.hr, r3, ?_⟩
          cases ec : mc e1 lh2 with
          | exc e h => simp only [ec] at q2; exact q2.elim
          | bad => simp only [ec] at q2; exact q2.elim
          | ok b h3 =>
            intro φ3 b' H3 p3 eb
            cases eb
            cases b with
            | false =>
              simp only [ec] at q2
              exact ⟨m, Nat.lt_succ_self _, φ3, h3, p2.trans p3, wp_mono p3 q2⟩
            | true =>
              simp only [ec] at q2
              simp only [if_true]
              refine ⟨φ3, e1, h3, p3.hr, r3.up p3, ?_⟩
              cases ey : my e1 h3 with
              | exc e h => simp only [ey] at q2; exact q2.elim
              | bad => simp only [ey] at q2; exact q2.elim
              | ok z h4 =>
                simp only [ey] at q2
                intro φ4 v H4 p4 rv
                have p24 := p2.trans (p3.trans p4)
                have eD4 : φ4 lh1.length = D := (p24.ag _ hk).trans ext1_at
                have hk4 : lh1.length < h4.length := Nat.lt_of_lt_of_le hk p24.le
                cases ek : h4[lh1.length]? with
                | none => simp only [ek] at q2; exact q2.elim
                | some o =>
                  cases o with
                  | lst acc =>
                    simp only [ek] at q2
                    by_cases ca : acc.length < 16777216
                    · rw [if_pos ca] at q2
                      obtain ⟨ws, hws, rws⟩ := p4.hr.lst ek
                      have PP : Po K mg φ4 h4 H4 φ4 (h4.set lh1.length (.lst (acc ++ [z]))) (upd H4 (φ4 lh1.length) (.lst (ws ++ [v]))) :=
                        Po.put p4.hr hk4 ⟨_, upd_same, (rws.app (.cons rv .nil)).mono (Nat.le_refl _) (fun _ _ => rfl) (by
                          obtain ⟨u, hu, u1, u2⟩ := p4.hr.lt_some hk4
                          exact Ext.put hu u1 u2)⟩
                      rw [eD4] at hws PP
                      refine ⟨ws, hws, by rw [← rws.len, sizeLine_eq]; exact ca, m, Nat.lt_succ_self _, φ4, _, p24.trans PP, ?_⟩
                      exact wp_mono ((p3.trans p4).trans PP) q2
                    · rw [if_neg ca] at q2; exact q2.elim
                  | _ => simp only [ek] at q2; exact q2.elim
theorem qe_lc (ho : ∀ i ∈ tnIx t, i ∈ own.map (·.2)) (hc : X.calm = true) (hN : X.N.Nodup) (hi : QI X W tg iter mi) (ok : BlkOk X.N X.env.scope scope own)
    (hg : ∀ (s : Shared) (H : Hp) (C : Addr) (cl : List (Str × Addr)) (fp : List Addr), PG (X.blk s H scope (compEnvC scope cl C X.env) fp) tg (gN X.K t)) (ht : ∀ (s : Shared) (H : Hp) (C : Addr) (cl : List (Str × Addr)) (fp : List Addr), QTs (X.blk s H scope (compEnvC scope cl C X.env) fp) WN ifs mc)
    (he : ∀ (s : Shared) (H : Hp) (C : Addr) (cl : List (Str × Addr)) (fp : List Addr), QE (X.blk s H scope (compEnvC scope cl C X.env) fp) WN elt my) (hs : ∀ x, foldedSetIterable iter X.env x = pure x := by intro _; rfl) :
    QE X W (.ListComp elt [⟨tg, iter, ifs, 0⟩] scope pos) (mLc mi t mc my (own.map (·.2))) :=
  qe_of (pe_lc hc hN hi ok hg ht he hs) fun σ φ env lh H Q h1 h2 q => lc_ok ho h1 h2 q
theorem qs_setLc {i : Nat} {y : Str} {py spos : Pos} (ho : ∀ i ∈ tnIx t, i ∈ own.map (·.2)) (hc : X.calm = true) (hN : X.N.Nodup) (hy : X.N[i]? = some y) (hyl : X.env.scope.names.lookup y = some .local)
    (hsw : swapsWith (.ListComp elt [⟨tg, iter, ifs, 0⟩] scope pos) (some (.Name y py)) spos.line X.env = pure true) (hi : QI X W tg iter mi) (ok : BlkOk X.N X.env.scope scope own)
    (hg : ∀ (s : Shared) (H : Hp) (C : Addr) (cl : List (Str × Addr)) (fp : List Addr), PG (X.blk s H scope (compEnvC scope cl C X.env) fp) tg (gN X.K t)) (ht : ∀ (s : Shared) (H : Hp) (C : Addr) (cl : List (Str × Addr)) (fp : List Addr), QTs (X.blk s H scope (compEnvC scope cl C X.env) fp) WN ifs mc)
    (he : ∀ (s : Shared) (H : Hp) (C : Addr) (cl : List (Str × Addr)) (fp : List Addr), QE (X.blk s H scope (compEnvC scope cl C X.env) fp) WN elt my) (hs : ∀ x, foldedSetIterable iter X.env x = pure x := by intro _; rfl) :
    QS X W (.Assign [.Name y py] (.ListComp elt [⟨tg, iter, ifs, 0⟩] scope pos) spos) (sSet i (mLc mi t mc my (own.map (·.2)))) := by
  refine psI (ps_setLc (tt := rdT X.K X.mg WN mc) (te := rdE X.K X.mg WN my) hc hN hy hyl hsw hi ok hg ht he hs) fun D σ H ⟨φ, env, lh, h1, h2, q⟩ => ?_
  have q' : wps X.K X.mg W (sSet i (mLc mi t mc my (own.map (·.2))) env lh) φ lh H D := q
  exact lc_ok (W := W) ho h1 h2 (wps_step h2 q' fun x lh1 φ1 v H1 p1 r1 q1 => q1 φ1 _ H1 (.refl p1.hr) ((h2.up p1).set r1 i))
end
end HM
set_option Elab.async false
set_option linter.all false
set_option maxRecDepth 100000
set_option maxHeartbeats 4000000
namespace HM
open PySem L2 PySem.Spec PyProof.Rows
/-! ### operators by values -/
def dAdd : D → D → LH → Res D
  | .int a, .int b, h => .ok (.int (a + b)) h
  | .str a, .str b, h => if a.length + b.length ≤ 16777216 then .ok (.str (a ++ b)) h else .bad
  | .tup a, .tup b, h => if a.length + b.length ≤ 16777216 then .ok (.tup (a ++ b)) h else .bad
  | .ref i, .ref j, h => match h[i]?, h[j]? with
    | some (.lst a), some (.lst b) => if a.length + b.length ≤ 16777216 then .ok (.ref h.length) (h ++ [.lst (a ++ b)]) else .bad
    | _, _ => .bad
  | _, _, _ => .bad
def dSub : D → D → LH → Res D
  | .int a, .int b, h => .ok (.int (a - b)) h
  | _, _, _ => .bad
/-- one factor small, or both together below a million bits -/
def mulOk (a b : Int) : Bool := decide (b.natAbs < 2 ^ 63) || decide (a.natAbs.log2 + b.natAbs.log2 < 1000000)
def dMul : D → D → LH → Res D
  | .int a, .int b, h => if mulOk a b then .ok (.int (a * b)) h else .bad
  | _, _, _ => .bad
def dDiv : D → D → LH → Res D
  | .int a, .int b, h => if 0 < b ∧ b.natAbs.log2 < 9000 then .ok (.int (a / b)) h else .bad
  | _, _, _ => .bad
def dMod : D → D → LH → Res D
  | .int a, .int b, h => if 0 < b then .ok (.int (a % b)) h else .bad
  | _, _, _ => .bad
def dPow : D → D → LH → Res D
  | .int a, .int b, h => if 0 ≤ b ∧ b ≤ 1000000 ∧ a.natAbs < 2 ^ 64 then .ok (.int (a ^ b.toNat)) h else .bad
  | _, _, _ => .bad
def dNeg : D → LH → Res D
  | .int a, h => .ok (.int (-a)) h
  | _, _ => .bad
def dLt : D → D → LH → Res D
  | .int a, .int b, h => .ok (.bl (decide (a < b))) h
  | .str a, .str b, h => .ok (.bl (decide (a < b))) h
  | _, _, _ => .bad
def dLe : D → D → LH → Res D
  | .int a, .int b, h => .ok (.bl (decide (a ≤ b))) h
  | .str a, .str b, h => .ok (.bl (!decide (b < a))) h
  | _, _, _ => .bad
def dGt : D → D → LH → Res D
  | .int a, .int b, h => .ok (.bl (decide (b < a))) h
  | .str a, .str b, h => .ok (.bl (decide (b < a))) h
  | _, _, _ => .bad
def dGe : D → D → LH → Res D
  | .int a, .int b, h => .ok (.bl (decide (b ≤ a))) h
  | .str a, .str b, h => .ok (.bl (!decide (a < b))) h
  | _, _, _ => .bad
def dIsN (d : D) : Bool := match d with
  | .non => true
  | _ => false
def dIs : D → D → LH → Res D
  | a, .non, h => .ok (.bl (dIsN a)) h
  | _, _, _ => .bad
def dIsNot : D → D → LH → Res D
  | a, .non, h => .ok (.bl (!dIsN a)) h
  | _, _, _ => .bad
/-- flat values and their == -/
def flD : D → Bool
  | .non => true
  | .bl _ => true
  | .int _ => true
  | .str _ => true
  | _ => false
def eqF : D → D → Bool
  | .non, .non => true
  | .bl a, .bl b => a == b
  | .bl a, .int b => (if a then 1 else 0) == b
  | .int a, .bl b => a == (if b then 1 else 0)
  | .int a, .int b => a == b
  | .str a, .str b => a == b
  | _, _ => false
/-- the items of a list or tuple -/
def seqD (d : D) (h : LH) : Option (List D) := match d with
  | .tup xs => some xs
  | .scr ns => some (ns.map D.int)
  | .ref i => match h[i]? with
    | some (.lst xs) => some xs
    | _ => none
  | _ => none
def dIn : D → D → LH → Res D
  | .str [c], .str z, h => .ok (.bl (decide (c ∈ z))) h
  | x, d, h => match seqD d h with
    | some xs => if flD x && xs.all flD then .ok (.bl (xs.any fun y => eqF y x)) h else .bad
    | none => .bad
def dNotIn : D → D → LH → Res D
  | .str [c], .str z, h => .ok (.bl (!decide (c ∈ z))) h
  | x, d, h => match seqD d h with
    | some xs => if flD x && xs.all flD then .ok (.bl (!(xs.any fun y => eqF y x))) h else .bad
    | none => .bad
/-! data for == -/
mutual
def toP : Nat → LH → D → Option PyData
  | 0, _, _ => none
  | n + 1, h, d => match d with
    | .non => some .none
    | .bl b => some (.bool b)
    | .int i => some (.int i)
    | .str s => some (.str ⟨s.toArray⟩)
    | .tup xs => (toPs n h xs).map PyData.tuple
    | .scr ns => (toPs n h (ns.map D.int)).map PyData.list
    | .ref i => match h[i]? with
      | some (.lst xs) => (toPs n h xs).map PyData.list
      | _ => none
def toPs : Nat → LH → List D → Option (List PyData)
  | 0, _, _ => none
  | n + 1, h, xs => match xs with
    | [] => some []
    | x :: xs => match toP n h x, toPs n h xs with
      | some p, some ps => some (p :: ps)
      | _, _ => none
end
def dEqB (fu : Nat) (a b : D) (h : LH) : Option Bool := match a, b with
  | .int a, .int b => some (decide (a = b))
  | .str a, .str b => some (decide (a = b))
  | .bl a, .bl b => some (decide (a = b))
  | .non, .non => some true
  | .non, .int _ => some false
  | .int _, .non => some false
  | .non, .bl _ => some false
  | .bl _, .non => some false
  | .non, .str _ => some false
  | .str _, .non => some false
  | .int _, .str _ => some false
  | .str _, .int _ => some false
  | .bl _, .str _ => some false
  | .str _, .bl _ => some false
  | a, b => match toP fu h a, toP fu h b with
    | some p, some q => if SeqAt.shaped p && SeqAt.shaped q then some (PyData.eqv p q) else none
    | _, _ => none
def dEq (a b : D) (h : LH) : Res D := match dEqB 100000 a b h with
  | some r => .ok (.bl r) h
  | none => .bad
def dNe (a b : D) (h : LH) : Res D := match dEqB 100000 a b h with
  | some r => .ok (.bl (!r)) h
  | none => .bad
section
variable {K : PySem.W.Frag} {mg : Str → Option Value} {φ : Nat → Addr} {lh : LH} {H : Hp} {n : Nat}
theorem seqD_ok (hr : HR K mg φ lh H) {d : D} {v : V} {xs : List D} (r : RD K φ lh.length H d v) (h : seqD d lh = some xs) : ∃ a vs, v = .ref a ∧ (SqL K H a vs ∨ SqT K H a vs) ∧ RDs K φ lh.length H xs vs := by
  cases d with
  | tup ys =>
    cases h
    obtain ⟨a, vs, e, hq, r⟩ := r.tup_inv
    exact ⟨a, vs, e, .inr hq, r⟩
  | scr ns =>
    cases h
    obtain ⟨a, e, hq⟩ := r.scr_inv
    exact ⟨a, _, e, .inl hq, RDs.ints ns⟩
  | ref i =>
    obtain ⟨e, hi⟩ := r.ref_inv
    unfold seqD at h
    simp only at h
    cases el : lh[i]? with
    | none => rw [el] at h; cases h
    | some o =>
      cases o with
      | lst ys =>
        rw [el] at h
        cases h
        obtain ⟨vs, hv, r⟩ := hr.lst el
        exact ⟨_, vs, e, .inl (SqL.of hv), r⟩
      | _ => rw [el] at h; cases h
  | _ => cases h
mutual
theorem toP_ok (hr : HR K mg φ lh H) : ∀ {k : Nat} {d : D} {v : V} {p : PyData}, RD K φ lh.length H d v → toP k lh d = some p → Dp K H v p
  | 0, _, _, _, _, h => by unfold toP at h; cases h
  | k + 1, d, v, p, r, h => by
    unfold toP at h
    cases d with
    | non => cases h; cases r; exact .non
    | bl b => cases h; cases r; exact .bl b
    | int b => cases h; cases r; exact .int b
    | str b => cases h; cases r; exact .str _
    | tup xs =>
      obtain ⟨a, vs, rfl, hq, rs⟩ := r.tup_inv
      cases e : toPs k lh xs with
      | none => simp only [e] at h; cases h
      | some ps =>
        simp only [e] at h
        cases h
        exact .tup hq (toPs_ok hr rs e)
    | scr ns =>
      obtain ⟨a, rfl, hq⟩ := r.scr_inv
      cases e : toPs k lh (ns.map D.int) with
      | none => simp only [e] at h; cases h
      | some ps =>
        simp only [e] at h
        cases h
        exact .lst hq (toPs_ok hr (RDs.ints ns) e)
    | ref i =>
      obtain ⟨rfl, hi⟩ := r.ref_inv
      simp only at h
      cases el : lh[i]? with
      | none => rw [el] at h; cases h
      | some o =>
        cases o with
        | lst ys =>
          rw [el] at h
          obtain ⟨vs, hv, rs⟩ := hr.lst el
          cases e : toPs k lh ys with
          | none => simp only [e] at h; cases h
          | some ps =>
            simp only [e] at h
            cases h
            exact .lst (SqL.of hv) (toPs_ok hr rs e)
        | _ => rw [el] at h; cases h
theorem toPs_ok (hr : HR K mg φ lh H) : ∀ {k : Nat} {ds : List D} {vs : List V} {ps : List PyData}, RDs K φ lh.length H ds vs → toPs k lh ds = some ps → DpAll K H vs ps
  | 0, _, _, _, _, h => by unfold toPs at h; cases h
  | k + 1, [], vs, ps, r, h => by
    unfold toPs at h
    cases h
    cases r
    exact .nil
  | k + 1, d :: ds, vs, ps, r, h => by
    unfold toPs at h
    cases r with
    | cons r1 r2 =>
      cases e1 : toP k lh d with
      | none => simp only [e1] at h; cases h
      | some p =>
        cases e2 : toPs k lh ds with
        | none => simp only [e1, e2] at h; cases h
        | some ps2 =>
          simp only [e1, e2] at h
          cases h
          exact .cons (toP_ok hr r1 e1) (toPs_ok hr r2 e2)
end
end
section
variable {X : Cx}
theorem str_app (a b : List Nat) : ((⟨a.toArray⟩ : Str) ++ (⟨b.toArray⟩ : Str)) = ⟨(a ++ b).toArray⟩ := by
  show (⟨a.toArray ++ b.toArray⟩ : Str) = _
  simp
theorem str_len (a : List Nat) : (⟨a.toArray⟩ : Str).length = a.length := by
  show a.toArray.size = _
  simp
theorem opm_add : OpM X (binaryOp .Add) dAdd := by
  refine ⟨_, op_add.or (op_add_str.or (op_catA.or op_cat)), fun W σ φ lh H x y v w Q hr rx ry q => ?_⟩
  unfold dAdd at q
  split at q
  · cases rx; cases ry
    exact .inl ⟨_, _, rfl, rfl, wp_ok q (.refl hr) (.int _)⟩
  · rename_i a b
    cases rx; cases ry
    split at q
    · rename_i c
      refine .inr (.inl ⟨_, _, rfl, rfl, by rw [str_len, str_len]; exact sz_le c, ?_⟩)
      rw [str_app]
      exact wp_ok q (.refl hr) (.str _)
    · exact q.elim
  · rename_i a b
    obtain ⟨p, vs, rfl, h1, r1⟩ := rx.tup_inv
    obtain ⟨p2, vs2, rfl, h2, r2⟩ := ry.tup_inv
    split at q
    · rename_i c
      have e1 := r1.len
      have e2 := r2.len
      refine .inr (.inr (.inl ⟨p, p2, vs, vs2, rfl, rfl, h1, h2, sz_le (by omega), fun e => ?_, fun e e' => ?_, fun e e' p hp => ?_⟩))
      · have : a = [] := List.eq_nil_of_length_eq_zero (by rw [e1, e]; rfl)
        subst this
        exact wp_ok q (.refl hr) ry
      · have : b = [] := List.eq_nil_of_length_eq_zero (by rw [e2, e']; rfl)
        subst this
        rw [List.append_nil] at q
        exact wp_ok q (.refl hr) rx
      · exact wp_newT q hr hp (r1.app r2)
    · exact q.elim
  · rename_i i j
    obtain ⟨rfl, _⟩ := rx.ref_inv
    obtain ⟨rfl, _⟩ := ry.ref_inv
    split at q
    · rename_i a b ea eb
      obtain ⟨vs, hv, r1⟩ := hr.lst ea
      obtain ⟨ws, hw, r2⟩ := hr.lst eb
      split at q
      · rename_i c
        have e1 := r1.len
        have e2 := r2.len
        exact .inr (.inr (.inr ⟨_, _, vs, ws, rfl, rfl, hv, hw, sz_le (by omega), fun p hp => wp_newL q hr hp (r1.app r2)⟩))
      · exact q.elim
    · exact q.elim
  · exact q.elim
theorem opm_sub : OpM X (binaryOp .Sub) dSub := by
  refine ⟨_, op_sub, fun W σ φ lh H x y v w Q hr rx ry q => ?_⟩
  unfold dSub at q
  split at q
  · cases rx; cases ry
    exact ⟨_, _, rfl, rfl, wp_ok q (.refl hr) (.int _)⟩
  · exact q.elim
theorem opm_mul : OpM X (binaryOp .Mult) dMul := by
  refine ⟨_, op_mul.or op_mulW, fun W σ φ lh H x y v w Q hr rx ry q => ?_⟩
  unfold dMul at q
  split at q
  · rename_i a b
    cases rx; cases ry
    split at q
    · rename_i c
      unfold mulOk at c
      rw [Bool.or_eq_true, decide_eq_true_eq, decide_eq_true_eq] at c
      rcases c with c | c
      · exact .inl ⟨_, _, rfl, rfl, .inr ⟨by omega, by omega⟩, wp_ok q (.refl hr) (.int _)⟩
      · exact .inr ⟨_, _, rfl, rfl, c, wp_ok q (.refl hr) (.int _)⟩
    · exact q.elim
  · exact q.elim
theorem opm_div : OpM X (binaryOp .FloorDiv) dDiv := by
  refine ⟨_, op_fdivW, fun W σ φ lh H x y v w Q hr rx ry q => ?_⟩
  unfold dDiv at q
  split at q
  · cases rx; cases ry
    split at q
    · rename_i c
      exact ⟨_, _, rfl, rfl, c, wp_ok q (.refl hr) (.int _)⟩
    · exact q.elim
  · exact q.elim
theorem opm_mod : OpM X (binaryOp .Mod) dMod := by
  refine ⟨_, op_mod, fun W σ φ lh H x y v w Q hr rx ry q => ?_⟩
  unfold dMod at q
  split at q
  · cases rx; cases ry
    split at q
    · rename_i c
      exact ⟨_, _, rfl, rfl, c, wp_ok q (.refl hr) (.int _)⟩
    · exact q.elim
  · exact q.elim
theorem opm_pow : OpM X (binaryOp .Pow) dPow := by
  refine ⟨_, op_pow, fun W σ φ lh H x y v w Q hr rx ry q => ?_⟩
  unfold dPow at q
  split at q
  · cases rx; cases ry
    split at q
    · rename_i c
      exact ⟨_, _, rfl, rfl, c, wp_ok q (.refl hr) (.int _)⟩
    · exact q.elim
  · exact q.elim
theorem unm_neg : UnM X (unaryOp .USub) dNeg := by
  refine ⟨_, un_neg, fun W σ φ lh H x v Q hr rx q => ?_⟩
  unfold dNeg at q
  split at q
  · cases rx
    exact ⟨_, rfl, wp_ok q (.refl hr) (.int _)⟩
  · exact q.elim
theorem opm_lt : OpM X (compareOp .Lt) dLt := by
  refine ⟨_, op_lt.or op_lt_str, fun W σ φ lh H x y v w Q hr rx ry q => ?_⟩
  unfold dLt at q
  split at q
  · cases rx; cases ry
    exact .inl ⟨_, _, rfl, rfl, wp_ok q (.refl hr) (.bl _)⟩
  · cases rx; cases ry
    exact .inr ⟨_, _, rfl, rfl, wp_ok q (.refl hr) (.bl _)⟩
  · exact q.elim
theorem opm_le : OpM X (compareOp .LtE) dLe := by
  refine ⟨_, op_le.or op_le_str, fun W σ φ lh H x y v w Q hr rx ry q => ?_⟩
  unfold dLe at q
  split at q
  · cases rx; cases ry
    exact .inl ⟨_, _, rfl, rfl, wp_ok q (.refl hr) (.bl _)⟩
  · cases rx; cases ry
    exact .inr ⟨_, _, rfl, rfl, wp_ok q (.refl hr) (.bl _)⟩
  · exact q.elim
theorem opm_gt : OpM X (compareOp .Gt) dGt := by
  refine ⟨_, op_gt.or op_gt_str, fun W σ φ lh H x y v w Q hr rx ry q => ?_⟩
  unfold dGt at q
  split at q
  · cases rx; cases ry
    exact .inl ⟨_, _, rfl, rfl, wp_ok q (.refl hr) (.bl _)⟩
  · cases rx; cases ry
    exact .inr ⟨_, _, rfl, rfl, wp_ok q (.refl hr) (.bl _)⟩
  · exact q.elim
theorem opm_ge : OpM X (compareOp .GtE) dGe := by
  refine ⟨_, op_ge.or op_ge_str, fun W σ φ lh H x y v w Q hr rx ry q => ?_⟩
  unfold dGe at q
  split at q
  · cases rx; cases ry
    exact .inl ⟨_, _, rfl, rfl, wp_ok q (.refl hr) (.bl _)⟩
  · cases rx; cases ry
    exact .inr ⟨_, _, rfl, rfl, wp_ok q (.refl hr) (.bl _)⟩
  · exact q.elim
theorem isN_ok {K : PySem.W.Frag} {φ : Nat → Addr} {n : Nat} {H : Hp} {d : D} {v : V} (r : RD K φ n H d v) : decide (v = V.non) = dIsN d := by
  cases r <;> first | rfl | exact decide_eq_false (fun z => nomatch z)
theorem opm_is : OpM X (compareOp .Is) dIs := by
  refine ⟨_, op_isN, fun W σ φ lh H x y v w Q hr rx ry q => ?_⟩
  unfold dIs at q
  split at q
  · cases ry
    refine ⟨rfl, ?_⟩
    rw [isN_ok rx]
    exact wp_ok q (.refl hr) (.bl _)
  · exact q.elim
theorem opm_isNot : OpM X (compareOp .IsNot) dIsNot := by
  refine ⟨_, op_notN, fun W σ φ lh H x y v w Q hr rx ry q => ?_⟩
  unfold dIsNot at q
  split at q
  · cases ry
    refine ⟨rfl, ?_⟩
    rw [isN_ok rx]
    exact wp_ok q (.refl hr) (.bl _)
  · exact q.elim
theorem flD_ok {K : PySem.W.Frag} {φ : Nat → Addr} {n : Nat} {H : Hp} {d : D} {v : V} (r : RD K φ n H d v) : flatV v = flD d := by
  cases r <;> rfl
theorem flDs_ok {K : PySem.W.Frag} {φ : Nat → Addr} {n : Nat} {H : Hp} : ∀ {ds : List D} {vs : List V}, RDs K φ n H ds vs → vs.all flatV = ds.all flD
  | _, _, .nil => rfl
  | _, _, .cons r rs => by rw [List.all_cons, List.all_cons, flD_ok r, flDs_ok rs]
theorem str_inj {a b : List Nat} : ((⟨a.toArray⟩ : Str) = ⟨b.toArray⟩) ↔ a = b := by
  constructor
  · intro h
    have : a.toArray = b.toArray := congrArg Str.cps h
    simpa using this
  · rintro rfl; rfl
theorem eqF_ok {K : PySem.W.Frag} {φ : Nat → Addr} {n : Nat} {H : Hp} {d e : D} {v w : V} (r : RD K φ n H d v) (s : RD K φ n H e w) : eqV v w = eqF d e := by
  cases r <;> cases s <;> first
    | rfl
    | (show ((⟨_⟩ : Str) == ⟨_⟩) = (_ == _)
       rw [Bool.eq_iff_iff, beq_iff_eq, beq_iff_eq]
       exact str_inj)
theorem inV_ok {K : PySem.W.Frag} {φ : Nat → Addr} {n : Nat} {H : Hp} {d : D} {v : V} (r : RD K φ n H d v) : ∀ {ds : List D} {vs : List V}, RDs K φ n H ds vs → inV v vs = ds.any fun y => eqF y d
  | _, _, .nil => rfl
  | _, _, .cons q qs => by
    have e1 := eqF_ok q r
    have e2 := inV_ok r qs
    unfold inV at e2 ⊢
    rw [List.any_cons, List.any_cons, e1, e2]
theorem opm_in : OpM X (compareOp .In) dIn := by
  refine ⟨_, op_in_sign.or op_in_seq, fun W σ φ lh H x y v w Q hr rx ry q => ?_⟩
  unfold dIn at q
  split at q
  · cases rx; cases ry
    refine .inl ⟨_, _, rfl, rfl, ?_⟩
    exact wp_ok q (.refl hr) (by simpa using .bl _)
  · split at q
    · rename_i xs e
      obtain ⟨a, vs, rfl, hq, rs⟩ := seqD_ok hr ry e
      split at q
      · rename_i c
        rw [Bool.and_eq_true] at c
        refine .inr ⟨a, vs, rfl, hq, (flD_ok rx).trans c.1, (flDs_ok rs).trans c.2, ?_⟩
        simp only [Bool.false_eq_true, if_false]
        rw [inV_ok rx rs]
        exact wp_ok q (.refl hr) (.bl _)
      · exact q.elim
    · exact q.elim
theorem opm_notIn : OpM X (compareOp .NotIn) dNotIn := by
  refine ⟨_, op_notIn_sign.or op_notIn_seq, fun W σ φ lh H x y v w Q hr rx ry q => ?_⟩
  unfold dNotIn at q
  split at q
  · cases rx; cases ry
    refine .inl ⟨_, _, rfl, rfl, ?_⟩
    exact wp_ok q (.refl hr) (by simpa using .bl _)
  · split at q
    · rename_i xs e
      obtain ⟨a, vs, rfl, hq, rs⟩ := seqD_ok hr ry e
      split at q
      · rename_i c
        rw [Bool.and_eq_true] at c
        refine .inr ⟨a, vs, rfl, hq, (flD_ok rx).trans c.1, (flDs_ok rs).trans c.2, ?_⟩
        simp only [if_true]
        rw [inV_ok rx rs]
        exact wp_ok q (.refl hr) (.bl _)
      · exact q.elim
    · exact q.elim
theorem dEqB_ok {K : PySem.W.Frag} {mg : Str → Option Value} {φ : Nat → Addr} {lh : LH} {H : Hp} {fu : Nat} {d e : D} {v w : V} {b : Bool} (hr : HR K mg φ lh H) (r : RD K φ lh.length H d v) (s : RD K φ lh.length H e w) (h : dEqB fu d e lh = some b) :
    (scal v w = true ∧ decide (v = w) = b) ∨ ∃ p q, Dp K H v p ∧ Dp K H w q ∧ SeqAt.shaped p = true ∧ SeqAt.shaped q = true ∧ PyData.eqv p q = b := by
  unfold dEqB at h
  split at h
  all_goals first
    | (cases r; cases s; cases h; exact .inl ⟨rfl, decide_eq_false (fun z => nomatch z)⟩)
    | (cases r; cases s; cases h; exact .inl ⟨rfl, decide_eq_true rfl⟩)
    | (cases r; cases s; cases h
       refine .inl ⟨rfl, ?_⟩
       rw [decide_eq_decide]
       constructor
       · intro z
         first
           | (exact V.int.inj z)
           | (exact V.bl.inj z)
           | (exact str_inj.mp (V.str.inj z))
       · rintro rfl; rfl)
    | skip
  rename_i a b' _ _ _ _ _ _ _ _ _ _ _ _ _ _
  split at h
  · rename_i p q ep eq
    split at h
    · rename_i c
      rw [Bool.and_eq_true] at c
      cases h
      exact .inr ⟨p, q, toP_ok hr r ep, toP_ok hr s eq, c.1, c.2, rfl⟩
    · cases h
  · cases h
theorem opm_eq (hu : X.A.units + 64 < cLine) : OpM X (compareOp .Eq) dEq := by
  refine ⟨_, op_eq.or (op_eqD hu), fun W σ φ lh H x y v w Q hr rx ry q => ?_⟩
  unfold dEq at q
  split at q
  · rename_i b e
    have q' := wp_ok q (.refl hr) (.bl b)
    rcases dEqB_ok hr rx ry e with ⟨h1, h2⟩ | ⟨p, p2, h1, h2, h3, h4, h5⟩
    · exact .inl ⟨h1, by rw [h2]; exact q'⟩
    · exact .inr ⟨p, p2, h1, h2, h3, h4, by rw [h5]; exact q'⟩
  · exact q.elim
theorem opm_ne (hu : X.A.units + 64 < cLine) : OpM X (compareOp .NotEq) dNe := by
  refine ⟨_, op_ne.or (op_neD hu), fun W σ φ lh H x y v w Q hr rx ry q => ?_⟩
  unfold dNe at q
  split at q
  · rename_i b e
    have q' := wp_ok q (.refl hr) (.bl (!b))
    rcases dEqB_ok hr rx ry e with ⟨h1, h2⟩ | ⟨p, p2, h1, h2, h3, h4, h5⟩
    · exact .inl ⟨h1, by rw [h2]; exact q'⟩
    · exact .inr ⟨p, p2, h1, h2, h3, h4, by rw [h5]; exact q'⟩
  · exact q.elim
end
end HM
set_option Elab.async false
set_option linter.all false
set_option maxRecDepth 100000
set_option maxHeartbeats 4000000
namespace HM
open PySem L2 PySem.Spec PyProof.Rows
/-! ### built-ins by values -/
def dLen : MF := fun xs h => match xs with
  | [.str s] => if s.length ≤ 16777216 then .ok (.int s.length) h else .bad
  | [.ref i] => match h[i]? with
    | some (.lst ys) => .ok (.int ys.length) h
    | _ => .bad
  | [.tup ys] => .ok (.int ys.length) h
  | [.scr ys] => .ok (.int ys.length) h
  | _ => .bad
def dOrd : MF := fun xs h => match xs with
  | [.str [c]] => .ok (.int c) h
  | _ => .bad
def dInt : MF := fun xs h => match xs with
  | [.int i] => .ok (.int i) h
  | [.bl b] => .ok (.int (if b then 1 else 0)) h
  | _ => .bad
def dAbs : MF := fun xs h => match xs with
  | [.int i] => .ok (.int (if i < 0 then -i else i)) h
  | _ => .bad
def dMax2 : MF := fun xs h => match xs with
  | [.int i, .int j] => .ok (.int (if j > i then j else i)) h
  | _ => .bad
def dMin2 : MF := fun xs h => match xs with
  | [.int i, .int j] => .ok (.int (if j < i then j else i)) h
  | _ => .bad
/-- the decimal digits of an int, as codes -/
def strI (i : Int) : List Nat := (Str.ofString (toString i)).cps.toList
def dStr : MF := fun xs h => match xs with
  | [.int i] => if i.natAbs.log2 < 1920 then .ok (.str (strI i)) h else .bad
  | _ => .bad
def dList : MF := fun xs h => match xs with
  | [d] => match seqD d h with
    | some ys => .ok (.ref h.length) (h ++ [.lst ys])
    | none => .bad
  | _ => .bad
def dTuple : MF := fun xs h => match xs with
  | [d] => match seqD d h with
    | some ys => .ok (.tup ys) h
    | none => .bad
  | _ => .bad
inductive BT where
  | str | int | bool | list | tuple | dict | none
  deriving DecidableEq
def tyD (d : D) (h : LH) : Option BT := match d with
  | .non => some .none
  | .bl _ => some .bool
  | .int _ => some .int
  | .str _ => some .str
  | .tup _ => some .tuple
  | .scr _ => some .list
  | .ref i => match h[i]? with
    | some (.lst _) => some .list
    | some (.dK _) => some .dict
    | some (.dT _) => some .dict
    | _ => Option.none
def isB (a b : BT) : Bool := match a, b with
  | .bool, .int => true
  | a, b => decide (a = b)
def mIsI (b : BT) (a : M D) : M D := fun e h => (a e h).bind fun d h1 => match tyD d h1 with
  | some t => .ok (.bl (isB t b)) h1
  | Option.none => .bad
def btName : BT → String
  | .str => "str" | .int => "int" | .bool => "bool" | .list => "list" | .tuple => "tuple" | .dict => "dict" | .none => "NoneType"
section
variable {X : Cx} {W : WX} {e : Expr} {ma : M D}
theorem callm_of {g : Value} {f : MF} {r : List V → Hp → VK → Prop} (h : CallR X g r) (k : ∀ W σ φ lh H xs vs Q, HR X.K X.mg φ lh H → RDs X.K φ lh.length H xs vs → wp X.K X.mg W σ (RD X.K) (f xs lh) φ lh H Q → r vs H Q) : CallM X g f := ⟨r, h, k⟩
theorem RDs.one {K : PySem.W.Frag} {φ : Nat → Addr} {n : Nat} {H : Hp} {d : D} {vs : List V} (r : RDs K φ n H [d] vs) : ∃ v, vs = [v] ∧ RD K φ n H d v := by
  cases r with
  | cons r rn => cases rn; exact ⟨_, rfl, r⟩
theorem RDs.two {K : PySem.W.Frag} {φ : Nat → Addr} {n : Nat} {H : Hp} {d d2 : D} {vs : List V} (r : RDs K φ n H [d, d2] vs) : ∃ v v2, vs = [v, v2] ∧ RD K φ n H d v ∧ RD K φ n H d2 v2 := by
  cases r with
  | cons r rn =>
    obtain ⟨v2, e, r2⟩ := rn.one
    subst e
    exact ⟨_, _, rfl, r, r2⟩
theorem cm_len : CallM X (.builtin "len") dLen := by
  refine callm_of call_len fun W σ φ lh H xs vs Q hr rs q => ?_
  unfold dLen at q
  split at q
  · obtain ⟨v, rfl, r⟩ := rs.one
    cases r
    split at q
    · rename_i s c
      exact ⟨_, _, rfl, ⟨by rw [str_len]; exact sz_le c, rfl⟩, by rw [str_len]; exact wp_ok q (.refl hr) (.int _)⟩
    · exact q.elim
  · obtain ⟨v, rfl, r⟩ := rs.one
    obtain ⟨rfl, hi⟩ := r.ref_inv
    split at q
    · rename_i ys ey
      obtain ⟨ws, hw, r2⟩ := hr.lst ey
      exact ⟨_, _, rfl, .inl ⟨_, SqL.of hw, rfl⟩, by rw [← r2.len]; exact wp_ok q (.refl hr) (.int _)⟩
    · exact q.elim
  · obtain ⟨v, rfl, r⟩ := rs.one
    obtain ⟨a, ws, rfl, hq, r2⟩ := r.tup_inv
    exact ⟨_, _, rfl, .inr ⟨_, hq, rfl⟩, by rw [← r2.len]; exact wp_ok q (.refl hr) (.int _)⟩
  · obtain ⟨v, rfl, r⟩ := rs.one
    obtain ⟨a, rfl, hq⟩ := r.scr_inv
    exact ⟨_, _, rfl, .inl ⟨_, hq, rfl⟩, by rw [List.length_map]; exact wp_ok q (.refl hr) (.int _)⟩
  · exact q.elim
theorem cm_ord : CallM X (.builtin "ord") dOrd := by
  refine callm_of call_ord fun W σ φ lh H xs vs Q hr rs q => ?_
  unfold dOrd at q
  split at q
  · obtain ⟨v, rfl, r⟩ := rs.one
    cases r
    exact ⟨_, rfl, rfl, wp_ok q (.refl hr) (.int _)⟩
  · exact q.elim
theorem cm_int : CallM X (.type "int") dInt := by
  refine callm_of call_int1 fun W σ φ lh H xs vs Q hr rs q => ?_
  unfold dInt at q
  split at q
  · obtain ⟨v, rfl, r⟩ := rs.one
    cases r
    exact .inl ⟨_, rfl, wp_ok q (.refl hr) (.int _)⟩
  · obtain ⟨v, rfl, r⟩ := rs.one
    cases r
    exact .inr ⟨_, rfl, wp_ok q (.refl hr) (.int _)⟩
  · exact q.elim
theorem cm_abs : CallM X (.builtin "abs") dAbs := by
  refine callm_of call_abs fun W σ φ lh H xs vs Q hr rs q => ?_
  unfold dAbs at q
  split at q
  · obtain ⟨v, rfl, r⟩ := rs.one
    cases r
    exact ⟨_, rfl, wp_ok q (.refl hr) (.int _)⟩
  · exact q.elim
theorem cm_max2 (hc : X.calm = true) : CallM X (.builtin "max") dMax2 := by
  refine callm_of (call_max2 hc) fun W σ φ lh H xs vs Q hr rs q => ?_
  unfold dMax2 at q
  split at q
  · obtain ⟨v, v2, rfl, r, r2⟩ := rs.two
    cases r
    cases r2
    exact ⟨_, _, rfl, wp_ok q (.refl hr) (.int _)⟩
  · exact q.elim
theorem cm_min2 (hc : X.calm = true) : CallM X (.builtin "min") dMin2 := by
  refine callm_of (call_min2 hc) fun W σ φ lh H xs vs Q hr rs q => ?_
  unfold dMin2 at q
  split at q
  · obtain ⟨v, v2, rfl, r, r2⟩ := rs.two
    cases r
    cases r2
    exact ⟨_, _, rfl, wp_ok q (.refl hr) (.int _)⟩
  · exact q.elim
theorem rd_str {K : PySem.W.Frag} {φ : Nat → Addr} {n : Nat} {H : Hp} (x : Str) : RD K φ n H (.str x.cps.toList) (.str x) := by
  have r := RD.str (K := K) (φ := φ) (n := n) (H := H) x.cps.toList
  rw [str_eta] at r
  exact r
theorem cm_str : CallM X (.type "str") dStr := by
  refine callm_of call_str_int fun W σ φ lh H xs vs Q hr rs q => ?_
  unfold dStr at q
  split at q
  · obtain ⟨v, rfl, r⟩ := rs.one
    cases r
    split at q
    · rename_i c
      exact ⟨_, rfl, c, wp_ok q (.refl hr) (rd_str _)⟩
    · exact q.elim
  · exact q.elim
theorem cm_list : CallM X (.type "list") dList := by
  refine callm_of call_list_of fun W σ φ lh H xs vs Q hr rs q => ?_
  unfold dList at q
  split at q
  · obtain ⟨v, rfl, r⟩ := rs.one
    split at q
    · rename_i ys e
      obtain ⟨a, ws, rfl, hq, r2⟩ := seqD_ok hr r e
      exact ⟨a, ws, rfl, hq, fun l hl => wp_newL q hr hl r2⟩
    · exact q.elim
  · exact q.elim
theorem cm_tuple : CallM X (.type "tuple") dTuple := by
  refine callm_of call_tuple_of fun W σ φ lh H xs vs Q hr rs q => ?_
  unfold dTuple at q
  split at q
  · obtain ⟨v, rfl, r⟩ := rs.one
    split at q
    · rename_i ys e
      obtain ⟨a, ws, rfl, hq, r2⟩ := seqD_ok hr r e
      refine ⟨a, ws, rfl, ?_⟩
      rcases hq with hq | hq
      · exact .inl ⟨hq, fun l hl => wp_newT q hr hl r2⟩
      · exact .inr ⟨hq, wp_ok q (.refl hr) (.tup hq r2)⟩
    · exact q.elim
  · exact q.elim
theorem tyD_ok {K : PySem.W.Frag} {mg : Str → Option Value} {φ : Nat → Addr} {lh : LH} {H : Hp} {d : D} {v : V} {t : BT} (hr : HR K mg φ lh H) (r : RD K φ lh.length H d v) (h : tyD d lh = some t) : TyX K H v (.type (btName t)) := by
  unfold tyD at h
  split at h
  · cases h; cases r; exact .base .non
  · cases h; cases r; exact .base (.bl _)
  · cases h; cases r; exact .base (.int _)
  · cases h; cases r; exact .base (.str _)
  · cases h
    obtain ⟨a, vs, rfl, hq, _⟩ := r.tup_inv
    rcases hq with (hq | ⟨o, hq⟩) | ⟨o, its, n, hk, hc, _⟩
    · exact .base (.tup hq)
    · exact .fTuple hq
    · exact .kTuple hk hc
  · cases h
    cases r with
    | scr hs =>
      rcases hs with ⟨o, hs⟩ | ⟨o, its, m, hk, hc, _⟩
      · exact .base (.frz hs)
      · exact .kList hk hc
  · rename_i i
    obtain ⟨rfl, _⟩ := r.ref_inv
    split at h
    · rename_i xs e
      cases h
      obtain ⟨vs, hv, _⟩ := hr.lst e
      exact .base (.lst hv)
    · rename_i xs e
      cases h
      obtain ⟨vs, hv, _⟩ := hr.obj _ _ e
      exact .base (.dK hv)
    · rename_i xs e
      cases h
      obtain ⟨vs, hv, _⟩ := hr.obj _ _ e
      exact .base (.dT hv)
    · cases h
theorem kit_all (a b : BT) (hb : b ≠ .none) : kitB (btName a) (btName b) = some (isB a b) := by
  cases b <;> first
    | exact absurd rfl hb
    | (cases a <;> decide +kernel)
theorem qe_isi (b : BT) {p p2 pos : Pos} (hb : b ≠ .none) (he : QE X W e ma) (hg : Gl X "isinstance") (hm : X.mg "isinstance" = none) (hg2 : Gl X (Str.ofString (btName b))) (hm2 : X.mg (Str.ofString (btName b)) = none)
    (hv2 : bootBuiltins (Str.ofString (btName b)) = some (.type (btName b))) (hn2 : Str.ofString (btName b) ≠ "__name__" := by decide) (hdb2 : (Str.ofString (btName b) == ("__debug__" : Str)) = false := by decide)
    (hs1 : starEach [e, .Name (Str.ofString (btName b)) p2] X.env = (false, eval e X.env) :: starEach [.Name (Str.ofString (btName b)) p2] X.env := by rfl)
    (hs2 : starEach [.Name (Str.ofString (btName b)) p2] X.env = (false, eval (.Name (Str.ofString (btName b)) p2) X.env) :: starEach [] X.env := by rfl)
    (hpl : (backTo pos (starEach [.Name (Str.ofString (btName b)) p2] X.env)).any (·.1) = false := by rfl) :
    QE X W (.Call (.Name "isinstance" p) [e, .Name (Str.ofString (btName b)) p2] [] pos) (mIsI b ma) := by
  have pb : PE X (.Name (Str.ofString (btName b)) p2) (tC (.ty (btName b))) := pe_bltn hg2 hm2 hv2 rfl hn2 hdb2
  refine qe_of (pe_callB call_isi hg hm (by decide +kernel) (pa_cons he (pa_cons pb pa_nil hs2) hs1) (he := hs1) (hpl := hpl)) fun σ φ env lh H Q h1 h2 q => ?_
  refine rd_of h1 h2 (wp_step q fun d lh1 φ1 v H1 p1 r1 q1 => ?_)
  split at q1
  · rename_i t et
    exact ⟨v, .ty (btName b), _, _, isB t b, rfl, .ty _, tyD_ok p1.hr r1 et, kit_ty (kit_all t b hb), wp_ok q1 (.refl p1.hr) (.bl _)⟩
  · exact q1.elim
end
/-! ### subscripts and slices -/
def ixD (d : D) (i : Int) (h : LH) : Option D := match d with
  | .str s => (atI s i).map fun c => .str [c]
  | d => match seqD d h with
    | some xs => atI xs i
    | none => none
def dIx : D → D → LH → Res D
  | .str s, .int i, h => if s.length ≤ 16777216 then (match atI s i with
    | some c => .ok (.str [c]) h
    | none => .bad) else .bad
  | d, .int i, h => match seqD d h with
    | some xs => (match atI xs i with
      | some x => .ok x h
      | none => .bad)
    | none => .bad
  | _, _, _ => .bad
/-- a slice's part -/
def mNoP : M (Option Int) := fun _ h => .ok none h
def mPart (a : M D) : M (Option Int) := fun e h => (a e h).bind fun d h1 => match d with
  | .int i => .ok (some i) h1
  | _ => .bad
def cutD {α : Type} (xs : List α) (lo hi : Option Int) : List α := (xs.drop (HT.sIx xs.length 0 lo)).take (HT.sIx xs.length xs.length hi - HT.sIx xs.length 0 lo)
def dSl (d : D) (lo hi : Option Int) (h : LH) : Res D := match d with
  | .str s => if s.length ≤ 16777216 then .ok (.str (cutD s lo hi)) h else .bad
  | .tup xs => .ok (.tup (cutD xs lo hi)) h
  | d => match seqD d h with
    | some xs => .ok (.ref h.length) (h ++ [.lst (cutD xs lo hi)])
    | none => .bad
def mSl (a : M D) (lo hi : M (Option Int)) : M D := fun e h => (a e h).bind fun d h1 => (lo e h1).bind fun l h2 => (hi e h2).bind fun u h3 => dSl d l u h3
abbrev QO (X : Cx) (W : WX) (e : Option Expr) (m : M (Option Int)) : Prop := PO X e (rd X.K X.mg W REq m)
section
variable {X : Cx} {W : WX} {a b : Expr} {pos p2 : Pos} {ma mb : M D} {lo hi : Option Expr} {ml mh : M (Option Int)}
theorem RDs.atI {K : PySem.W.Frag} {φ : Nat → Addr} {n : Nat} {H : Hp} {ds : List D} {vs : List V} {i : Int} {d : D} (r : RDs K φ n H ds vs) (h : L2.atI ds i = some d) : ∃ v, L2.atI vs i = some v ∧ RD K φ n H d v := by
  unfold L2.atI at h ⊢
  rw [r.len] at h
  cases e : ixN vs.length i with
  | none => rw [e] at h; cases h
  | some j =>
    rw [e] at h
    exact r.get h
theorem qe_ix (ha : QE X W a ma) (hb : QE X W b mb) (hs : PlainIx b) : QE X W (.Subscript a b pos) (mOp dIx ma mb) := by
  refine qe_of (pe_ix ix_seq ha hb hs) fun σ φ env lh H Q h1 h2 q => ?_
  refine rd_of h1 h2 (wp_step q fun x lh1 φ1 v H1 p1 r1 q1 => ?_)
  refine rd_of p1.hr (h2.up p1) (wp_step q1 fun y lh2 φ2 w H2 p2 r2 q2 => ?_)
  have r1' := r1.up p2
  unfold dIx at q2
  split at q2
  · cases r1'
    cases r2
    split at q2
    · rename_i s i c
      split at q2
      · rename_i ch e
        exact .inr (.inr ⟨_, i, ch, rfl, rfl, by rw [str_len]; exact sz_le c, by simpa using e, wp_ok q2 (.refl p2.hr) (.str [ch])⟩)
      · exact q2.elim
    · exact q2.elim
  · cases r2
    split at q2
    · rename_i xs e
      obtain ⟨ad, vs, rfl, hq, rs⟩ := seqD_ok p2.hr r1' e
      split at q2
      · rename_i x e2
        obtain ⟨u, eu, ru⟩ := rs.atI e2
        rcases hq with hq | hq
        · exact .inl ⟨ad, vs, _, u, rfl, rfl, hq, eu, wp_ok q2 (.refl p2.hr) ru⟩
        · exact .inr (.inl ⟨ad, vs, _, u, rfl, rfl, hq, eu, wp_ok q2 (.refl p2.hr) ru⟩)
      · exact q2.elim
    · exact q2.elim
  · exact q2.elim
theorem qo_none : QO X W none mNoP := ⟨fun pins s σ H Q I ⟨φ, env, lh, h1, h2, q⟩ => po_none.run pins s σ H Q I (wp_ok q (.refl h1) rfl)⟩
theorem qo_some (h : QE X W a ma) : QO X W (some a) (mPart ma) := by
  refine ⟨fun pins s σ H Q I ⟨φ, env, lh, h1, h2, q⟩ => (po_some h).run pins s σ H Q I ?_⟩
  refine rd_of h1 h2 (wp_step q fun d lh1 φ1 v H1 p1 r1 q1 => ?_)
  cases d with
  | int i => cases r1; exact ⟨i, rfl, wp_ok q1 (.refl p1.hr) rfl⟩
  | _ => exact q1.elim
theorem RDs.cut {K : PySem.W.Frag} {φ : Nat → Addr} {n : Nat} {H : Hp} {ds : List D} {vs : List V} (r : RDs K φ n H ds vs) (lo hi : Option Int) : RDs K φ n H (cutD ds lo hi) (cutV vs lo hi) := by
  unfold cutD cutV
  rw [r.len]
  exact (r.drop _).take _
theorem qe_sl (ha : QE X W a ma) (hl : QO X W lo ml) (hh : QO X W hi mh) : QE X W (.Subscript a (.Slice lo hi none p2) pos) (mSl ma ml mh) := by
  refine qe_of (pe_slice (sl_list.or (sl_tupA.or sl_str)) ha hl hh) fun σ φ env lh H Q h1 h2 q => ?_
  refine rd_of h1 h2 (wp_step q fun x lh1 φ1 v H1 p1 r1 q1 => ?_)
  refine rd_of p1.hr (h2.up p1) (wp_step q1 fun l lh2 φ2 l' H2 p2 r2 q2 => ?_)
  cases r2
  refine rd_of p2.hr ((h2.up p1).up p2) (wp_step q2 fun u lh3 φ3 u' H3 p3 r3 q3 => ?_)
  cases r3
  have r := (r1.up p2).up p3
  unfold dSl at q3
  split at q3
  · cases r
    split at q3
    · rename_i s c
      refine .inr (.inr ⟨_, rfl, by rw [str_len]; exact sz_le c, ?_⟩)
      refine wp_ok q3 (.refl p3.hr) ?_
      have e : cutS ⟨s.toArray⟩ l u = ⟨(cutD s l u).toArray⟩ := by
        unfold cutS cutD
        simp [str_len]
      rw [e]
      exact .str _
    · exact q3.elim
  · rename_i xs
    obtain ⟨ad, vs, rfl, hq, rs⟩ := r.tup_inv
    refine .inr (.inl ⟨ad, vs, rfl, hq, fun c => ?_, fun c p hp => wp_newT q3 p3.hr hp (rs.cut l u)⟩)
    have e : cutD xs l u = xs := by
      unfold cutD
      rw [rs.len, c.1, c.2, List.drop_zero, Nat.sub_zero, ← rs.len, List.take_length]
    rw [e] at q3
    exact wp_ok q3 (.refl p3.hr) (.tup hq rs)
  · rename_i d _ hx
    split at q3
    · rename_i xs e
      obtain ⟨ad, vs, rfl, hq, rs⟩ := seqD_ok p3.hr r e
      rcases hq with hq | hq
      · exact .inl ⟨ad, vs, rfl, hq, fun p hp => wp_newL q3 p3.hr hp (rs.cut l u)⟩
      · cases r with
        | tup => exact absurd rfl (hx _)
        | ref hi =>
          unfold seqD at e
          simp only at e
          split at e
          · rename_i ys el
            cases e
            obtain ⟨ws, hw, rw'⟩ := p3.hr.lst el
            exact .inl ⟨_, ws, rfl, SqL.of hw, fun p hp => wp_newL q3 p3.hr hp (rw'.cut l u)⟩
          · cases e
        | scr hs =>
          cases e
          exact .inl ⟨ad, _, rfl, scrL_ext (Ext.refl _) hs, fun p hp => wp_newL q3 p3.hr hp ((RDs.ints _).cut l u)⟩
    · exact q3.elim
end
end HM
set_option Elab.async false
set_option linter.all false
set_option maxRecDepth 100000
set_option maxHeartbeats 4000000
namespace HM
open PySem L2 PySem.Spec PyProof.Rows
/-! ### methods of built-ins -/
abbrev MM := D → List D → LH → Res D
def isLst (d : D) (h : LH) : Bool := match seqD d h, d with
  | some _, .tup _ => false
  | some _, _ => true
  | none, _ => false
def mMet (ck : D → LH → Bool) (f : MM) (o : M D) (a : M (List D)) : M D := fun e h => (o e h).bind fun x h1 => if ck x h1 then (a e h1).bind fun xs h2 => f x xs h2 else .bad
def isStr (d : D) (_ : LH) : Bool := match d with
  | .str _ => true
  | _ => false
def dAppend : MM := fun x xs h => match x, xs with
  | .ref i, [y] => match h[i]? with
    | some (.lst ys) => if ys.length < 16777216 then .ok .non (h.set i (.lst (ys ++ [y]))) else .bad
    | _ => .bad
  | _, _ => .bad
/-- the codes of texts -/
def strsD : List D → Option (List (List Nat))
  | [] => some []
  | .str s :: r => (strsD r).map fun l => s :: l
  | _ :: _ => none
def dJoin : MM := fun x xs h => match x, xs with
  | .str a, [d] => match seqD d h with
    | some ys => match strsD ys with
      | some ss => if (ss.map (·.length)).sum + ss.length * a.length ≤ 16777216 then .ok (.str (TL.joinL a ss)) h else .bad
      | none => .bad
    | none => .bad
  | _, _ => .bad
def dSplit : MM := fun x xs h => match x, xs with
  | .str a, [.str b] => if b ≠ [] ∧ b.all (· < 256) = true ∧ a.length + 2 ≤ 16777216 then .ok (.ref h.length) (h ++ [.lst ((TL.spl b 0 [] a).map D.str)]) else .bad
  | _, _ => .bad
section
variable {X : Cx} {W : WX} {o e : Expr} {es : List Expr} {ma mo : M D} {mas : M (List D)} {apos cpos : Pos}
theorem isLst_ok {K : PySem.W.Frag} {mg : Str → Option Value} {φ : Nat → Addr} {lh : LH} {H : Hp} {d : D} {v : V} (hr : HR K mg φ lh H) (r : RD K φ lh.length H d v) (h : isLst d lh = true) : tyV K "list" v H := by
  unfold isLst at h
  cases d with
  | tup xs => simp only [seqD] at h; cases h
  | scr ns =>
    obtain ⟨a, rfl, hq⟩ := r.scr_inv
    exact .inl ⟨rfl, _, hq⟩
  | ref i =>
    obtain ⟨rfl, _⟩ := r.ref_inv
    cases e : seqD (.ref i) lh with
    | none => rw [e] at h; cases h
    | some xs =>
      unfold seqD at e
      simp only at e
      split at e
      · rename_i ys el
        obtain ⟨vs, hv, _⟩ := hr.lst el
        exact .inl ⟨rfl, _, SqL.of hv⟩
      · cases e
  | _ => simp only [seqD] at h; cases h
theorem isStr_ok {K : PySem.W.Frag} {mg : Str → Option Value} {φ : Nat → Addr} {lh : LH} {H : Hp} {d : D} {v : V} (hr : HR K mg φ lh H) (r : RD K φ lh.length H d v) (h : isStr d lh = true) : tyV K "str" v H := by
  cases d with
  | str s => cases r; rfl
  | _ => cases h
/-- a built-in's method by its values -/
def MetM (X : Cx) (id : String) (f : MM) : Prop :=
  ∃ r : V → List V → Hp → VK → Prop, MtR X id r ∧ ∀ W σ φ lh H x xs v vs Q, HR X.K X.mg φ lh H → RD X.K φ lh.length H x v → RDs X.K φ lh.length H xs vs → wp X.K X.mg W σ (RD X.K) (f x xs lh) φ lh H Q → r v vs H Q
theorem qe_bm {T id : String} {name : Str} {f : MM} {ck : D → LH → Bool} (pa : PlainAttrs T) (slot : Slot T name id) (hty : typeOf (.builtin id) = pure (.type "method_descriptor")) (hm : MetM X id f)
    (hck : ∀ φ lh H d v, HR X.K X.mg φ lh H → RD X.K φ lh.length H d v → ck d lh = true → tyV X.K T v H) (ho : QE X W o mo) (ha : QA X W (e :: es) mas)
    (hbase : attributeBase o name X.env (eval o X.env) = eval o X.env := by rfl)
    (hfew : ((backTo cpos (starEach (e :: es) X.env)).all (fun x => !x.1) && (backToKw cpos (keywordEach [] X.env)).all (fun x => x.1.isSome)
      && decide ((e :: es).length + ([] : List Keyword).length + (if ([] : List Keyword).isEmpty then 0 else 1) < 30)) = true := by rfl)
    (hline : (apos.endLine == cpos.line) = true := by rfl) (hs : starEach (e :: es) X.env = (false, eval e X.env) :: starEach es X.env := by rfl) (hplain : (backTo cpos (starEach es X.env)).any (·.1) = false := by rfl) :
    QE X W (.Call (.Attribute o name apos) (e :: es) [] cpos) (mMet ck f mo mas) := by
  obtain ⟨r, h, k⟩ := hm
  refine qe_of (pe_bm pa slot hty h ho ha hbase hfew hline hs hplain) fun σ φ env lh H Q h1 h2 q => ?_
  refine rd_of h1 h2 (wp_step q fun x lh1 φ1 v H1 p1 r1 q1 => ?_)
  split at q1
  · rename_i c
    refine ⟨hck _ _ _ _ _ p1.hr r1 c, ?_⟩
    refine rd_of p1.hr (h2.up p1) (wp_step q1 fun xs lh2 φ2 vs H2 p2 r2 q2 => ?_)
    exact k W σ φ2 lh2 H2 x xs v vs Q p2.hr (r1.up p2) r2 q2
  · exact q1.elim
theorem mm_append : MetM X "list.append" dAppend := by
  refine ⟨_, mt_append, fun W σ φ lh H x xs v vs Q hr rx rs q => ?_⟩
  unfold dAppend at q
  split at q
  · rename_i i y
    obtain ⟨rfl, hi⟩ := rx.ref_inv
    obtain ⟨u, rfl, ru⟩ := rs.one
    split at q
    · rename_i ys e
      obtain ⟨ws, hw, rw'⟩ := hr.lst e
      split at q
      · rename_i c
        refine ⟨_, ws, u, rfl, rfl, hw, by rw [← rw'.len, sizeLine_eq]; exact c, ?_⟩
        have P : Po X.K X.mg φ lh H φ (lh.set i (.lst (ys ++ [y]))) (upd H (φ i) (.lst (ws ++ [u]))) := Po.put hr hi ⟨_, upd_same, (rw'.app (.cons ru .nil)).mono (Nat.le_refl _) (fun _ _ => rfl) (by
          obtain ⟨w, hw, w1, w2⟩ := hr.lt_some hi
          exact Ext.put hw w1 w2)⟩
        exact wp_ok q P .non
      · exact q.elim
    · exact q.elim
  · exact q.elim
theorem qe_append (ho : QE X W o mo) (ha : QE X W e ma) (hbase : attributeBase o "append" X.env (eval o X.env) = eval o X.env := by rfl)
    (hfew : ((backTo cpos (starEach (e :: []) X.env)).all (fun x => !x.1) && (backToKw cpos (keywordEach [] X.env)).all (fun x => x.1.isSome)
      && decide ((e :: []).length + ([] : List Keyword).length + (if ([] : List Keyword).isEmpty then 0 else 1) < 30)) = true := by rfl)
    (hline : (apos.endLine == cpos.line) = true := by rfl) (hs : starEach (e :: []) X.env = (false, eval e X.env) :: starEach [] X.env := by rfl) (hplain : (backTo cpos (starEach [] X.env)).any (·.1) = false := by rfl) :
    QE X W (.Call (.Attribute o "append" apos) [e] [] cpos) (mMet isLst dAppend mo (mCons ma mNil)) :=
  qe_bm PySem.F.plainAttrs_list PySem.F.slot_list_append PySem.F.type_list_append mm_append (fun _ _ _ _ _ => isLst_ok) ho (qa_cons ha qa_nil hs) hbase hfew hline hs hplain
theorem strsD_ok {K : PySem.W.Frag} {φ : Nat → Addr} {n : Nat} {H : Hp} : ∀ {ds : List D} {vs : List V} {ss : List (List Nat)}, RDs K φ n H ds vs → strsD ds = some ss → vs = (ss.map fun s => (⟨s.toArray⟩ : Str)).map V.str
  | [], _, ss, r, h => by
    cases r
    cases h
    rfl
  | d :: ds, vs, ss, r, h => by
    cases r with
    | cons r1 r2 =>
      cases d with
      | str s =>
        unfold strsD at h
        cases e : strsD ds with
        | none => rw [e] at h; cases h
        | some l =>
          rw [e] at h
          cases h
          cases r1
          rw [strsD_ok r2 e]
          rfl
      | _ => cases h
theorem tl_mk (s : List Nat) : TL.tl ⟨s.toArray⟩ = s := by
  show s.toArray.toList = s
  simp
theorem sum_len (ss : List (List Nat)) : ((ss.map fun s => (⟨s.toArray⟩ : Str)).map (·.length)).sum = (ss.map (·.length)).sum := by
  rw [List.map_map]
  congr 1
theorem mm_join : MetM X "str.join" dJoin := by
  refine ⟨_, mt_join, fun W σ φ lh H x xs v vs Q hr rx rs q => ?_⟩
  unfold dJoin at q
  split at q
  · rename_i a d
    cases rx
    obtain ⟨u, rfl, ru⟩ := rs.one
    split at q
    · rename_i ys e
      obtain ⟨p, ws, rfl, hq, r2⟩ := seqD_ok hr ru e
      split at q
      · rename_i ss es
        split at q
        · rename_i c
          have ew := strsD_ok r2 es
          subst ew
          refine ⟨_, p, ss.map fun s => (⟨s.toArray⟩ : Str), rfl, rfl, hq, ?_, ?_⟩
          · rw [sum_len, List.length_map, str_len]; exact c
          · have ej : Txt.join ⟨a.toArray⟩ (ss.map fun s => (⟨s.toArray⟩ : Str)) = ⟨(TL.joinL a ss).toArray⟩ := by
              refine TL.ext_tl ?_
              rw [TL.join_eq, TL.tl_join, tl_mk, tl_mk, List.map_map]
              congr 1
              conv => rhs; rw [← List.map_id ss]
              exact List.map_congr_left fun s _ => tl_mk s
            rw [ej]
            exact wp_ok q (.refl hr) (.str _)
        · exact q.elim
      · exact q.elim
    · exact q.elim
  · exact q.elim
theorem qe_join (ho : QE X W o mo) (he : QE X W e ma) (hs : starEach [e] X.env = [(false, eval e X.env)] := by rfl) (hbase : attributeBase o "join" X.env (eval o X.env) = eval o X.env := by rfl) (hline : (apos.endLine == cpos.line) = true := by rfl) :
    QE X W (.Call (.Attribute o "join" apos) [e] [] cpos) (mMet isStr dJoin mo (mCons ma mNil)) := by
  obtain ⟨r, h, k⟩ := mm_join (X := X)
  refine qe_of (pe_m1 PySem.F.slot_str_join PySem.F.type_str_join h ho he hs hbase hline) fun σ φ env lh H Q h1 h2 q => ?_
  refine rd_of h1 h2 (wp_step q fun x lh1 φ1 v H1 p1 r1 q1 => ?_)
  split at q1
  · rename_i c
    have hst : ∃ a, v = .str a := by
      cases x with
      | str s => cases r1; exact ⟨_, rfl⟩
      | _ => cases c
    refine ⟨hst, ?_⟩
    have q1' : wp X.K X.mg W σ (RD X.K) ((ma env lh1).bind fun y h2 => dJoin x [y] h2) φ1 lh1 H1 Q := by
      revert q1
      unfold mCons
      cases ma env lh1 with
      | ok y h2 => exact fun z => z
      | exc y h2 => exact fun z => z
      | bad => exact fun z => z
    refine rd_of p1.hr (h2.up p1) (wp_step q1' fun y lh2 φ2 w H2 p2 r2 q2 => ?_)
    exact k W σ φ2 lh2 H2 x [y] v [w] Q p2.hr (r1.up p2) (.cons r2 .nil) q2
  · exact q1.elim
theorem mm_split : MetM X "str.split" dSplit := by
  refine ⟨_, L2.mt_split, fun W σ φ lh H x xs v vs Q hr rx rs q => ?_⟩
  unfold dSplit at q
  split at q
  · rename_i a b
    cases rx
    obtain ⟨u, rfl, ru⟩ := rs.one
    cases ru
    split at q
    · rename_i c
      refine ⟨_, _, rfl, rfl, ?_, by rw [str_len]; exact sz_le c.2.2, fun p hp => ?_⟩
      · rw [str_len]
        cases b with
        | nil => exact absurd rfl c.1
        | cons y ys => rfl
      · have e : (Txt.split ⟨a.toArray⟩ ⟨b.toArray⟩).map V.str = ((TL.spl b 0 [] a).map fun s => V.str ⟨s.toArray⟩) := by
          have := TL.split_spl ⟨a.toArray⟩ ⟨b.toArray⟩ (by rw [tl_mk]; exact c.1) (TL.kind_ok (by
            show b.toArray.all _ = true
            simpa using c.2.1))
          rw [tl_mk, tl_mk] at this
          rw [← this, List.map_map]
          exact List.map_congr_left fun s _ => by
            show V.str s = V.str ⟨(TL.tl s).toArray⟩
            rw [TL.mk_tl]
        rw [e]
        refine wp_newL q hr hp ?_
        generalize TL.spl b 0 [] a = l
        induction l with
        | nil => exact .nil
        | cons y ys ih => exact .cons (.str y) ih
    · exact q.elim
  · exact q.elim
theorem qe_split (ho : QE X W o mo) (he : QE X W e ma) (hs : starEach [e] X.env = [(false, eval e X.env)] := by rfl) (hbase : attributeBase o "split" X.env (eval o X.env) = eval o X.env := by rfl) (hline : (apos.endLine == cpos.line) = true := by rfl) :
    QE X W (.Call (.Attribute o "split" apos) [e] [] cpos) (mMet isStr dSplit mo (mCons ma mNil)) := by
  obtain ⟨r, h, k⟩ := mm_split (X := X)
  refine qe_of (pe_m1 PySem.F.slot_str_split PySem.F.type_str_split h ho he hs hbase hline) fun σ φ env lh H Q h1 h2 q => ?_
  refine rd_of h1 h2 (wp_step q fun x lh1 φ1 v H1 p1 r1 q1 => ?_)
  split at q1
  · rename_i c
    have hst : ∃ a, v = .str a := by
      cases x with
      | str s => cases r1; exact ⟨_, rfl⟩
      | _ => cases c
    refine ⟨hst, ?_⟩
    have q1' : wp X.K X.mg W σ (RD X.K) ((ma env lh1).bind fun y h2 => dSplit x [y] h2) φ1 lh1 H1 Q := by
      revert q1
      unfold mCons
      cases ma env lh1 with
      | ok y h2 => exact fun z => z
      | exc y h2 => exact fun z => z
      | bad => exact fun z => z
    refine rd_of p1.hr (h2.up p1) (wp_step q1' fun y lh2 φ2 w H2 p2 r2 q2 => ?_)
    exact k W σ φ2 lh2 H2 x [y] v [w] Q p2.hr (r1.up p2) (.cons r2 .nil) q2
  · exact q1.elim
end
/-! ### xs[i] = e; a, b = e -/
def setL (o i v : D) (h : LH) : Option LH := match o, i with
  | .ref r, .int k => match h[r]? with
    | some (.lst xs) => match ixN xs.length k with
      | some j => some (h.set r (.lst (xs.set j v)))
      | none => none
    | _ => none
  | _, _ => none
def sSetL (o i : M D) (a : M D) : MS := fun e h => rsBind (a e h) e fun v h1 => rsBind (o e h1) e fun x h2 => rsBind (i e h2) e fun y h3 => match setL x y v h3 with
  | some h4 => .next e h4
  | none => .bad
def sTup (is : List Nat) (a : M D) : MS := fun e h => rsBind (a e h) e fun v h1 => match tnSet (.tp is) v e with
  | some e1 => .next e1 h1
  | none => .bad
section
variable {X : Cx} {W : WX} {o i e : Expr} {es : List Expr} {mo mi ma : M D} {pos pos2 : Pos}
theorem setL_ok {K : PySem.W.Frag} {mg : Str → Option Value} {φ : Nat → Addr} {lh lh' : LH} {H : Hp} {x y z : D} {a b c : V} {Q : Hp → Prop} (hr : HR K mg φ lh H) (rx : RD K φ lh.length H x a) (ry : RD K φ lh.length H y b) (rz : RD K φ lh.length H z c)
    (h : setL x y z lh = some lh') (q : ∀ H', Po K mg φ lh H φ lh' H' → Q H') : rSetL a b c H Q := by
  unfold setL at h
  split at h
  · rename_i r k
    obtain ⟨rfl, hi⟩ := rx.ref_inv
    cases ry
    split at h
    · rename_i xs ex
      obtain ⟨ws, hw, rw'⟩ := hr.lst ex
      split at h
      · rename_i j ej
        cases h
        refine ⟨_, ws, k, j, rfl, rfl, hw, by rw [← rw'.len]; exact ej, q _ ?_⟩
        exact Po.put hr hi ⟨_, upd_same, (rw'.set rz j).mono (Nat.le_refl _) (fun _ _ => rfl) (by
          obtain ⟨w, hw, w1, w2⟩ := hr.lt_some hi
          exact Ext.put hw w1 w2)⟩
      · cases h
    · cases h
  · cases h
theorem qs_setL (he : QE X W e ma) (ho : QE X W o mo) (hi : QE X W i mi)
    (ha : ∀ v, assign (.Subscript o i pos2) X.env v = (do
      let ov ← holding [v] (eval o X.env)
      let iv ← holding [v, ov] (eval i X.env)
      standAt pos2
      holding [v, ov, iv] (setItem ov iv v)
      release [v, ov, iv] []) := by intro _; rfl)
    (hs : swapsWithSole [.Subscript o i pos2] e pos.line X.env = pure false := by rfl) (hw : swappedStores [.Subscript o i pos2] e X.env = pure none := by rfl)
    (h1 : (assignEach [.Subscript o i pos2] X.env).map (·.2) = [assign (.Subscript o i pos2) X.env] := by rfl) : QS X W (.Assign [.Subscript o i pos2] e pos) (sSetL mo mi ma) := by
  refine psI (ps_asg he (pg_sub ho hi set_list ha) hs hw h1) fun D σ H ⟨φ, env, lh, g1, g2, q⟩ => ?_
  have q' : wps X.K X.mg W (sSetL mo mi ma env lh) φ lh H D := q
  refine rd_of g1 g2 (wps_step g2 q' fun v lh1 φ1 vv H1 p1 r1 q1 => ?_)
  refine rd_of p1.hr (g2.up p1) (wps_step (g2.up p1) q1 fun x lh2 φ2 vx H2 p2 r2 q2 => ?_)
  refine rd_of p2.hr ((g2.up p1).up p2) (wps_step ((g2.up p1).up p2) q2 fun y lh3 φ3 vy H3 p3 r3 q3 => ?_)
  split at q3
  · rename_i h4 e4
    exact setL_ok p3.hr (r2.up p3) r3 ((r1.up p2).up p3) e4 fun H' P => q3 φ3 σ H' P ((((g2.up p1).up p2).up p3).up P)
  · exact q3.elim
theorem qs_tup {k : Nat} {is : List Nat} (he : QE X W e ma) (hg : PG X (.Tuple es k pos2) (gN X.K (.tp is)))
    (hs : swapsWithSole [.Tuple es k pos2] e pos.line X.env = pure false := by rfl) (hw : swappedStores [.Tuple es k pos2] e X.env = pure none := by rfl)
    (h1 : (assignEach [.Tuple es k pos2] X.env).map (·.2) = [assign (.Tuple es k pos2) X.env] := by rfl) : QS X W (.Assign [.Tuple es k pos2] e pos) (sTup is ma) := by
  refine psI (ps_asg he hg hs hw h1) fun D σ H ⟨φ, env, lh, g1, g2, q⟩ => ?_
  have q' : wps X.K X.mg W (sTup is ma env lh) φ lh H D := q
  refine rd_of g1 g2 (wps_step g2 q' fun v lh1 φ1 vv H1 p1 r1 q1 => ?_)
  split at q1
  · rename_i e1 et
    exact gN_ok et (g2.up p1) r1 fun σ' _ r' => q1 φ1 σ' H1 (.refl p1.hr) r'
  · exact q1.elim
end
/-! ### truth of any value -/
def truD (d : D) (h : LH) : Option Bool := match d with
  | .non => some false
  | .bl b => some b
  | .int i => some (i != 0)
  | .str s => if s.length ≤ 16777216 then some ((s.length : Int) != 0) else none
  | .tup xs => some (!xs.isEmpty)
  | .scr xs => some (!xs.isEmpty)
  | .ref i => match h[i]? with
    | some (.lst xs) => some (!xs.isEmpty)
    | some (.dK xs) => some (!xs.isEmpty)
    | _ => none
def mTru (a : M D) : M Bool := fun e h => (a e h).bind fun d h1 => match truD d h1 with
  | some b => .ok b h1
  | none => .bad
section
variable {X : Cx} {W : WX} {e : Expr} {ma : M D}
theorem RDs.emp {K : PySem.W.Frag} {φ : Nat → Addr} {n : Nat} {H : Hp} {ds : List D} {vs : List V} (r : RDs K φ n H ds vs) : vs.isEmpty = ds.isEmpty := by
  cases r <;> rfl
theorem RKs.emp {K : PySem.W.Frag} {φ : Nat → Addr} {n : Nat} {H : Hp} {ds vs} (r : RKs K φ n H ds vs) : vs.isEmpty = ds.isEmpty := by
  cases r <;> rfl
theorem truD_ok {K : PySem.W.Frag} {mg : Str → Option Value} {φ : Nat → Addr} {lh : LH} {H : Hp} {d : D} {v : V} {b : Bool} (hr : HR K mg φ lh H) (r : RD K φ lh.length H d v) (h : truD d lh = some b) : TruV K v H b := by
  unfold truD at h
  split at h
  · cases h; cases r; rfl
  · cases h; cases r; rfl
  · cases h; cases r; rfl
  · cases r
    split at h
    · rename_i c
      cases h
      exact ⟨by rw [str_len]; exact sz_le c, by rw [str_len]⟩
    · cases h
  · cases h
    obtain ⟨a, vs, rfl, hq, rs⟩ := r.tup_inv
    exact .inr (.inl ⟨vs, hq, by rw [rs.emp]⟩)
  · cases h
    obtain ⟨a, rfl, hq⟩ := r.scr_inv
    exact .inl ⟨_, hq, by cases ‹List Int› <;> rfl⟩
  · obtain ⟨rfl, _⟩ := r.ref_inv
    split at h
    · rename_i xs e
      cases h
      obtain ⟨vs, hv, rs⟩ := hr.lst e
      exact .inl ⟨vs, SqL.of hv, by rw [rs.emp]⟩
    · rename_i xs e
      cases h
      obtain ⟨vs, hv, rs⟩ := hr.obj _ _ e
      exact .inr (.inr ⟨vs, hv, by rw [rs.emp]⟩)
    · cases h
theorem qt_tru (ha : QE X W e ma) (he : ∀ whole, isTrue e X.env whole = (do let v ← whole; standAt e.pos; holding [v] (truthy v)) := by intro _; rfl) : QT X W e (mTru ma) := by
  refine qt_of (pt_truth ha he) fun σ φ env lh H Q h1 h2 q => ?_
  refine rd_of h1 h2 (wp_step q fun x lh1 φ1 v H1 p1 r1 q1 => ?_)
  split at q1
  · rename_i b eb
    exact ⟨b, truD_ok p1.hr r1 eb, wp_ok q1 (.refl p1.hr) rfl⟩
  · exact q1.elim
end
end HM
set_option Elab.async false
set_option linter.all false
set_option maxRecDepth 100000
set_option maxHeartbeats 4000000
namespace HM
open PySem L2 PySem.Spec PyProof.Rows
/-- any sequence or text, walked -/
def iAny (a : M D) : M (IT × Nat) := fun e h => (a e h).bind fun d h1 => match d with
  | .tup xs => .ok (itL xs, xs.length) h1
  | .scr ns => .ok (itL (ns.map D.int), ns.length) h1
  | .str s => .ok (itL (s.map fun c => D.str [c]), s.length) h1
  | .ref i => match h1[i]? with
    | some (.lst xs) => .ok (itO i, xs.length) h1
    | _ => .bad
  | _ => .bad
section
variable {X : Cx} {W : WX} {tg l : Expr} {ma : M D}
theorem itok_str {K : PySem.W.Frag} {mg : Str → Option Value} {φ : Nat → Addr} {n : Nat} {H : Hp} (s : List Nat) : ItOk K mg φ n H (itL (s.map fun c => D.str [c]), s.length) (Its ⟨s.toArray⟩) := by
  refine ⟨fun φ' lh' H' hn ag ex hr j hj => ?_, fun φ' lh' H' hn ag ex hr j d hj => ?_⟩
  · have := List.getElem?_eq_none_iff.mp (Option.some.inj hj)
    show s.toArray.size ≤ j
    simpa using this
  · obtain ⟨c, ec, rfl⟩ := RDs.chars (K := K) (φ := φ) (n := 0) (H := H) (Option.some.inj hj)
    have hlt : j < s.toArray.size := by
      have := lt_of_get ec
      simpa using this
    refine ⟨hlt, fun x H'' ⟨e1, c', e2, e3⟩ => ⟨e1, ?_⟩⟩
    have : s[j]? = some c' := by simpa using e2
    rw [ec] at this
    cases this
    subst e3
    exact .str [c]
theorem qi_any (hl : QE X W l ma) : QI X W tg l (iAny ma) := by
  refine ⟨fun pins s σ H R I ⟨φ, env, lh, h1, h2, q⟩ => ?_⟩
  refine thn (hl.run pins s σ H (fun v H1 => (∃ a, v = .ref a ∧ (∃ xs, SqL X.K H1 a xs) ∧ R (Itl X.K a) H1) ∨ (∃ a, v = .ref a ∧ (∃ xs, SqT X.K H1 a xs) ∧ R (Itt X.K a) H1) ∨ (∃ x, v = .str x ∧ R (Its x) H1)) I
    (rd_of h1 h2 (wp_step q fun d lh1 φ1 v H1 p1 r1 q1 => ?_))) fun v s1 ⟨x, H1, I1, r1, q1⟩ => ?_
  · cases d with
    | scr ns =>
      cases r1 with
      | scr hs => exact .inl ⟨_, rfl, ⟨_, scrL_ext (Ext.refl _) hs⟩, wp_ok q1 (.refl p1.hr) (itok_scr hs)⟩
    | ref i =>
      obtain ⟨e1, hi⟩ := r1.ref_inv
      cases el : lh1[i]? with
      | none => simp only [el] at q1; exact q1.elim
      | some o =>
        cases o with
        | lst xs =>
          simp only [el] at q1
          obtain ⟨vs, hv, r⟩ := p1.hr.lst el
          exact .inl ⟨_, e1, ⟨_, SqL.of hv⟩, wp_ok q1 (.refl p1.hr) (itok_obj hi)⟩
        | _ => simp only [el] at q1; exact q1.elim
    | tup xs =>
      obtain ⟨a, vs, e1, hq, r⟩ := r1.tup_inv
      exact .inr (.inl ⟨_, e1, ⟨_, hq⟩, wp_ok q1 (.refl p1.hr) (itok_tup hq r)⟩)
    | str s =>
      exact .inr (.inr ⟨_, r1.str_inv, wp_ok q1 (.refl p1.hr) (itok_str s)⟩)
    | _ => exact q1.elim
  · rcases q1 with ⟨a, e, ⟨xs, hq⟩, q1⟩ | ⟨a, e, ⟨xs, hq⟩, q1⟩ | ⟨y, e, q1⟩
    · subst e
      cases r1
      obtain ⟨its, rv, p, hz⟩ := I1.list hq
      refine wpAny_pyIter_list p.isList ?_
      refine ⟨s1.heap.objs.size, [s1.heap.objs.size], _, _, H1, rfl, I1.kept (t' := s1.toks) fun b o e => Heap.get?_push_of_some _ e, turn_list a _, ⟨_, Heap.get?_push_size _ rfl, rfl, rfl⟩, fun b hb => ?_, q1⟩
      have e : b = s1.heap.objs.size := by simpa using hb
      subst e
      exact I1.fpOk (Nat.le_refl _) (I1.hok.fresh (Nat.le_refl _))
    · subst e
      cases r1
      obtain ⟨its, rv, p, hz⟩ := I1.tuple hq
      refine wpAny_pyIter_tuple (show s1.heap.IsTuple a its.toArray from p) ?_
      refine ⟨s1.heap.objs.size, [s1.heap.objs.size], _, _, H1, rfl, I1.kept (t' := s1.toks) fun b o e => Heap.get?_push_of_some _ e, turn_tuple a _, ⟨_, Heap.get?_push_size _ rfl, rfl, rfl⟩, fun b hb => ?_, q1⟩
      have e : b = s1.heap.objs.size := by simpa using hb
      subst e
      exact I1.fpOk (Nat.le_refl _) (I1.hok.fresh (Nat.le_refl _))
    · subst e
      obtain ⟨t, rfl⟩ := r1
      cases ha : y.cps.all (· < 128)
      · exact wpAny_pyIter_wide ha (pi_one (tk := s1.toks) I1 _ (turn_str _ y t "str_iterator" (.inr rfl)) ⟨_, Heap.get?_push_size _ rfl, rfl, rfl⟩ q1)
      · exact wpAny_pyIter_ascii ha (pi_one (tk := s1.toks) I1 _ (turn_str _ y t "str_ascii_iterator" (.inl rfl)) ⟨_, Heap.get?_push_size _ rfl, rfl, rfl⟩ q1)
end
/-! ### name op= e -/
def sAug (f : D → D → LH → Res D) (i : Nat) (a : M D) : MS := fun e h => match e[i]? with
  | some (some x) => rsBind (a e h) e fun y h1 => rsBind (f x y h1) e fun z h2 => .next (e.set i (some z)) h2
  | _ => .bad
section
variable {X : Cx} {W : WX} {e : Expr} {ma : M D} {pos pos' : Pos}
def IpM (X : Cx) (op : Operator) (f : D → D → LH → Res D) : Prop :=
  ∃ r : TIp, PIp X op r ∧ ∀ W σ φ lh H x y v w Q, HR X.K X.mg φ lh H → RD X.K φ lh.length H x v → RD X.K φ lh.length H y w → wp X.K X.mg W σ (RD X.K) (f x y lh) φ lh H Q → r v w H Q
def dIAdd (x y : D) (h : LH) : Res D := match x, y with
  | .int a, .int b => .ok (.int (a + b)) h
  | _, _ => .bad
theorem ipm_add : IpM X .Add dIAdd := by
  refine ⟨_, ip_add, fun W σ φ lh H x y v w Q hr rx ry q => ?_⟩
  unfold dIAdd at q
  split at q
  · cases rx; cases ry
    exact ⟨_, _, rfl, rfl, wp_ok q (.refl hr) (.int _)⟩
  · exact q.elim
theorem qs_aug {i : Nat} {x : Str} {op : Operator} {f : D → D → LH → Res D} (ho : IpM X op f) (he : QE X W e ma) (hN : X.N.Nodup) (hi : X.N[i]? = some x) (hx : Loc X.env.scope x) (hf : X.fn x = true ∨ X.env.scope.names.lookup x = some .local := by first | exact .inl rfl | exact .inr rfl | assumption) :
    QS X W (.AugAssign (.Name x pos') op e pos) (sAug f i ma) := by
  obtain ⟨r, h, k⟩ := ho
  refine psI (ps_aug hN hi hx he h hf) fun D σ H ⟨φ, env, lh, h1, h2, q⟩ => ?_
  have q' : wps X.K X.mg W (sAug f i ma env lh) φ lh H D := q
  unfold sAug at q'
  split at q'
  · rename_i d ed
    obtain ⟨v, ev, rv⟩ := h2.at' i d ed
    refine ⟨v, ev, rd_of h1 h2 (wps_step h2 q' fun y lh1 φ1 w H1 p1 r1 q1 => ?_)⟩
    refine k W σ φ1 lh1 H1 d y v w _ p1.hr (rv.up p1) r1 (wps_step (h2.up p1) q1 fun z lh2 φ2 u H2 p2 r2 q2 => ?_)
    exact q2 φ2 _ H2 (.refl p2.hr) (((h2.up p1).up p2).set r2 i)
  · exact q'.elim
end
/-! ### the end -/
/-- what a law's mirror must answer -/
def LawOk (f : MF) : Prop := ∀ ns : List Int, ns.length ≤ 63 → (∀ z ∈ ns, Builtin.Int.intBits z ≤ 1048576) → ∃ h, f [.scr ns] [] = .ok (.bl true) h
theorem law_end {K : PySem.W.Frag} {mg : Str → Option Value} {f : MF} (L : LawOk f) {H : Hp} {a : Addr} {ns : List Int} (hn : ns.length ≤ 63) (hb : ∀ z ∈ ns, Builtin.Int.intBits z ≤ 1048576) (hO : Only H) (hS : SqL K H a (ns.map V.int)) :
    spM K mg f [.ref a] H (fun v _ => v = .bl true) fun _ _ _ => False := by
  obtain ⟨h, e⟩ := L ns hn hb
  have hs : RD K (fun _ => 0) 0 H (.scr ns) (.ref a) := by
    rcases hS with (hS | ⟨o, hS⟩) | hS
    · rcases hO a with h | ⟨o, xs, h⟩
      · rw [h] at hS; cases hS
      · rw [h] at hS; cases hS
    · exact .scr (.inl ⟨o, hS⟩)
    · exact .scr (.inr hS)
  refine ⟨fun _ => 0, [], [.scr ns], ⟨fun i j hi => absurd hi (Nat.not_lt_zero _), fun i o hi => by simp at hi⟩, .cons hs .nil, ?_⟩
  rw [e]
  intro φ' v H' p r
  cases r
  rfl
end HM
set_option Elab.async false
set_option linter.all false
set_option maxRecDepth 100000
set_option maxHeartbeats 4000000
namespace HM
open PySem L2 PySem.Spec PyProof.Rows
theorem cx_false {P : Program} {w : World} {H : Hp} {s : Shared} {e : Value} {s' : Shared} (h : L2.CX P w [] H s (fun _ _ _ => False) e s') : False := by
  obtain ⟨_, _, _, _, _, _, _, _, _, _, _, _, z⟩ := h
  exact z
theorem walk_M {l : PySem.W.OpenLaw} {k : Nat} {q : Program} {loose : List Str} {XP : (Str → Option Value) → Heap → Prop} {YP : World → Heap → Prop} {d : DefRec} {K : Params → PySem.W.Frag} {f : MF} {x : Str} (L : LawOk f) (hn : l.most = some 63) (hdf : d.params.defaults = []) (hr : Room k callerA)
    (hY : ∀ (w : World) (h : Heap), YP w h → (K w.params).In h)
    (F : ∀ (w : World) (mg : Str → Option Value) (fa : Addr) (h : Heap), (K w.params).In h → h.Ns mainGlobals mg → mg d.name = some (.ref fa) →
      ∃ fd : FuncData, (∀ (s : Shared) (u : Value), BindsTo s fd ⟨[u], []⟩ [(x, u)]) ∧ ∀ base : Heap, (K w.params).In base → base.Ns mainGlobals mg → FnOk l.prog w (K w.params) mg base (L2.CX l.prog w) k fa fd [x] (spM (K w.params) mg f)) :
    PySem.W.WalkO q loose XP YP l.row.toRowW d [] (fun f vs => PySem.call f vs) := by
  refine Att.attach_callB hn hdf fun w s₀ s₁ mg mb fa o pm cd doc a vs ns G Y ho hd hcd hmg hobj hints hlen hbits hg => ?_
  have KX := hY w _ Y
  obtain ⟨fd, hb, hF⟩ := F w mg fa _ KX G.T.g hmg
  exact law_call KX G.T.g G.T.b G.T.builtins G.T.nolimit hg hobj hints (Nat.le_trans hlen (by decide)) hr hF hb (fun H hO hS => law_end L hlen hbits hO hS) fun H e s' h => cx_false h
end HM
set_option Elab.async false
set_option linter.all false
set_option maxRecDepth 100000
set_option maxHeartbeats 4000000
namespace HM
open PySem L2 PySem.Spec PyProof.Rows
open PySem.Builtin PySem.Builtin.Str PySem.Builtin.Int PySem.Builtin.Float
def fx : FormatSpec := { fill := 48, align := 61, sign := none, noNeg0 := false, alt := false, width := some 18, grouping := none, precision := none, type := some 120 }
theorem hp_x : parseFormatSpec (Str.ofString "018x").cps.toList "int" 62 = .ok fx := by rfl
/-- the text of a number by 018x -/
def hexText (a : Int) : Str := intField' fx (decide (a < 0)) [] ((Nat.toDigits 16 a.natAbs).map fun c => (if (120 : Nat) == 88 then c.toUpper else c).toNat) [] 4
theorem hexText_len {a : Int} (h : a.natAbs < 2 ^ 200) : (hexText a).length ≤ sizeLine := by
  have hd : (((Nat.toDigits 16 a.natAbs).map fun c => (if (120 : Nat) == 88 then c.toUpper else c).toNat).isEmpty) = false := by
    cases e : Nat.toDigits 16 a.natAbs with
    | nil =>
      have := tDigits_len_ge 16 a.natAbs
      rw [e] at this
      simp at this
    | cons x l => rfl
  have hl : (Nat.toDigits 16 a.natAbs).length ≤ 200 := by
    have := (Nat.length_toDigits_le_iff (n := a.natAbs) (b := 16) (k := 200) (by decide) (by decide)).mpr (Nat.lt_of_lt_of_le h (Nat.pow_le_pow_left (by decide) _))
    exact this
  unfold hexText
  rw [intField'_length_plain fx _ _ 4 rfl rfl hd, List.length_map, sizeLine_eq]
  show max 18 _ ≤ _
  split <;> omega
section
variable {prog : Program} {w : World} {A : Around} {E : Value → Shared → Prop} {s : Shared}
theorem formatField_hex {a : Int} {t : Tok} {Q : Value → Shared → Prop} (ha : a.natAbs < 2 ^ 200) (h : ∀ tk t', Q (.str (hexText a) t') { s with toks := tk }) :
    wpAny (model prog w) A (formatField (.int a t) (Str.ofString "018x")) Q E s := by
  have hlen := hexText_len ha
  have hne : ((Str.ofString "018x").length == 0) = false := by decide +kernel
  have hasc : (((Str.ofString "018x").cps.toList.drop 1).any (· ≥ 128) || ((Str.ofString "018x").cps.getD 0 0 ≥ 128 && !([60, 62, 61, 94] : List Nat).contains ((Str.ofString "018x").cps.getD 1 0))) = false := by decide +kernel
  show wpAny _ _ (holding [.int a t] (pyFormat (.int a t) (Str.ofString "018x"))) Q E s
  refine wpAny_holding ?_
  unfold pyFormat
  refine wpAny_bind (wpAny_mkStr ?_ (by decide +kernel))
  refine wpAny_bind (m := callSpecial? (.int a t) (Str.ofString "__format__") [.str (Str.ofString "018x") s.toks]) (wpAny_callSpecial?_slot (name := Str.ofString "__format__") (typeIs_int _ a t) PyProof.Rows.slot_int_format ?_)
  refine wpAny_call (codeAny_call_builtin PyProof.Rows.slot_int_format.plain PyProof.Rows.entry_int_format (PyProof.Rows.slot_int_format.check _ _ _ _ _ _ _ _ (typeIs_int _ a t) (args_int_format _ _) ?_))
  unfold Builtin.«int.__format__»
  simp only [selfAndOne, noKeywords, Int.intOfSelf, asInt?, asStr?, List.isEmpty_nil, if_true, pure_bind, bind_pure, bind_assoc, hne, hasc, Bool.false_eq_true, if_false,
    show (Value.str (Str.ofString "018x") s.toks == Value.none) = false from rfl]
  refine wpAny_bind (wpAny_typeNameOf (T := "str") (typeIs_str _ _ _) (by decide) fun _ => ?_)
  first | refine wpAny_bind (wpAny_typeNameOfCut_int ?_) | refine wpAny_bind (wpAny_typeNameOf_int ?_)
  have hty : fx.type.getD (if ((Str.ofString "018x").cps.back? == some 0) = true then 0 else 100) = 120 := rfl
  simp only [hp_x, hty]
  apply PySem.wpAny_ite
  refine PySem.W.KPc.ite_yes (by decide) ?_
  show wpAny _ _ (retStr (hexText a)) _ _ _
  unfold retStr
  refine wpAny_bind (wpAny_mkStr (wpAny_pure ?_) hlen)
  dsimp only
  exact wpAny_bind (wpAny_isInstance (typeIs_str _ _ _) isSubtype_str_str (wpAny_pure (h _ _)))
end
def dHex : D → LH → Res D := fun d h => match d with
  | .int i => if i.natAbs < 2 ^ 200 then .ok (.str (hexText i).cps.toList) h else .bad
  | _ => .bad
section
variable {X : Cx} {W : WX} {e : Expr} {ma : M D}
/-- f"{e:018x}" -/
theorem qe_hex {k : Nat} {p1 p2 p3 p4 : Pos} (he : QE X W e ma) : QE X W (.JoinedStr [.FormattedValue e (-1) (some (.JoinedStr [.Constant (.str (Str.ofString "018x")) k p1] p2)) p3] p4) (mUn dHex ma) := by
  have pf : PE X (.FormattedValue e (-1) (some (.JoinedStr [.Constant (.str (Str.ofString "018x")) k p1] p2)) p3) (fun σ H Q => rdE X.K X.mg W ma σ H fun x H1 => ∃ i : Int, x = .int i ∧ i.natAbs < 2 ^ 200 ∧ Q (.str (hexText i)) H1) := by
    refine ⟨fun pins s σ H Q I h => ?_⟩
    refine wpAny_FormattedValue_spec (thn (he.run pins s σ H _ I h) fun v s1 ⟨x, H1, I1, r1, i, hx, hi, q⟩ => ?_)
    subst hx
    obtain ⟨t, rfl⟩ := r1
    refine (pe_joined1 (pe_str (X := X))).run pins s1 σ H1 (fun x H2 => x = .str (Str.ofString "018x") ∧ H2 = H1) I1 ⟨rfl, rfl⟩ |> fun z => thn z fun r s2 ⟨y, H2, I2, r2, e1, e2⟩ => ?_
    subst e1
    subst e2
    obtain ⟨t2, rfl⟩ := r2
    exact ⟨_, t2, rfl, formatField_hex hi fun tk t' => ⟨.str (hexText i), H2, I2.tok _, ⟨_, rfl⟩, q⟩⟩
  refine qe_of (pe_joined1 pf) fun σ φ env lh H Q h1 h2 q => ?_
  refine rd_of h1 h2 (wp_step q fun x lh1 φ1 v H1 p1 r1 q1 => ?_)
  cases x with
  | int i =>
    cases r1
    unfold dHex at q1
    simp only at q1
    split at q1
    · rename_i c
      exact ⟨i, rfl, c, wp_ok q1 (.refl p1.hr) (rd_str _)⟩
    · exact q1.elim
  | _ => exact q1.elim
end
end HM
set_option Elab.async false
set_option linter.all false
set_option maxRecDepth 100000
set_option maxHeartbeats 4000000
namespace HM
open PySem L2 PySem.Spec PyProof.Rows
/-! ### s.index(c), list(range(..)), x[::-1] -/
def dSIndex : MM := fun x xs h => match x, xs with
  | .str z, [.str [c]] => if c ∈ z then .ok (.int (z.idxOf c)) h else .bad
  | _, _ => .bad
theorem RDs.append' {K : PySem.W.Frag} {φ : Nat → Addr} {n : Nat} {H : Hp} : ∀ {ds es : List D} {vs us : List V}, RDs K φ n H ds vs → RDs K φ n H es us → RDs K φ n H (ds ++ es) (vs ++ us)
  | [], _, _, _, r, r2 => by cases r; exact r2
  | _ :: _, _, _, _, r, r2 => by
    cases r with
    | cons a r => exact .cons a (r.append' r2)
theorem RDs.rev {K : PySem.W.Frag} {φ : Nat → Addr} {n : Nat} {H : Hp} : ∀ {ds : List D} {vs : List V}, RDs K φ n H ds vs → RDs K φ n H ds.reverse vs.reverse
  | [], _, r => by cases r; exact .nil
  | _ :: _, _, r => by
    cases r with
    | cons a r => rw [List.reverse_cons, List.reverse_cons]; exact r.rev.append' (.cons a .nil)
theorem idx_first {z : List Nat} {c i : Nat} (h : z[i]? = some c) (hn : ∀ k, k < i → z[k]? ≠ some c) : z.idxOf c = i := by
  induction z generalizing i with
  | nil => simp at h
  | cons a l ih =>
    cases i with
    | zero =>
      simp only [List.getElem?_cons_zero, Option.some.injEq] at h
      subst h
      simp
    | succ i =>
      have h0 : a ≠ c := by
        have := hn 0 (Nat.succ_pos _)
        simpa using this
      have e := ih (i := i) (by simpa using h) fun k hk => by
        have := hn (k + 1) (by omega)
        simpa using this
      simp [List.idxOf_cons, e, show (a == c) = false from by simpa using h0]
section
variable {X : Cx} {W : WX} {o e : Expr} {ma mo : M D} {apos cpos : Pos}
theorem mm_sindex : MetM X "str.index" dSIndex := by
  refine ⟨_, mt_sindex, fun W σ φ lh H x xs v vs Q hr rx rs q => ?_⟩
  unfold dSIndex at q
  split at q
  · rename_i z c
    cases rx
    obtain ⟨u, rfl, ru⟩ := rs.one
    cases ru
    split at q
    · rename_i hc
      have key := StrLaws.occ_head (⟨z.toArray⟩ : Str) ⟨#[c]⟩ 1 (Nat.le_refl _)
      have at1 : ∀ i, StrLaws.At (⟨z.toArray⟩ : Str) ⟨#[c]⟩ (⟨z.toArray⟩ : Str).length i ↔ z[i]? = some c := fun i => by
        have := StrLaws.subAt_one (⟨z.toArray⟩ : Str) c i
        rw [show (⟨z.toArray⟩ : Str).cps.toList = z from by simp] at this
        exact this
      rcases key with ⟨h0, hno⟩ | ⟨i, r, h0, ha, hno⟩
      · obtain ⟨i, hi⟩ := List.mem_iff_getElem?.mp hc
        exact absurd ((at1 i).mpr hi) (hno i)
      · refine ⟨_, _, i, r, rfl, rfl, h0, ?_⟩
        rw [idx_first ((at1 i).mp ha) fun k hk z => hno k hk ((at1 k).mpr z)] at q
        exact wp_ok q (.refl hr) (.int _)
    · exact q.elim
  · exact q.elim
theorem qe_m1 {id : String} {name : Str} {f : MM} (slot : Slot "str" name id) (ty : typeOf (.builtin id) = pure (.type "method_descriptor")) (hm : MetM X id f) (ho : QE X W o mo) (he : QE X W e ma) (hs : starEach [e] X.env = [(false, eval e X.env)] := by rfl)
    (hbase : attributeBase o name X.env (eval o X.env) = eval o X.env := by rfl) (hline : (apos.endLine == cpos.line) = true := by rfl) :
    QE X W (.Call (.Attribute o name apos) [e] [] cpos) (mMet isStr f mo (mCons ma mNil)) := by
  obtain ⟨r, h, k⟩ := hm
  refine qe_of (pe_m1 slot ty h ho he hs hbase hline) fun σ φ env lh H Q h1 h2 q => ?_
  refine rd_of h1 h2 (wp_step q fun x lh1 φ1 v H1 p1 r1 q1 => ?_)
  split at q1
  · rename_i c
    have hst : ∃ a, v = .str a := by
      cases x with
      | str s => cases r1; exact ⟨_, rfl⟩
      | _ => cases c
    refine ⟨hst, ?_⟩
    have q1' : wp X.K X.mg W σ (RD X.K) ((ma env lh1).bind fun y h2 => f x [y] h2) φ1 lh1 H1 Q := by
      revert q1
      unfold mCons
      cases ma env lh1 with
      | ok y h2 => exact fun z => z
      | exc y h2 => exact fun z => z
      | bad => exact fun z => z
    refine rd_of p1.hr (h2.up p1) (wp_step q1' fun y lh2 φ2 w H2 p2 r2 q2 => ?_)
    exact k W σ φ2 lh2 H2 x [y] v [w] Q p2.hr (r1.up p2) (.cons r2 .nil) q2
  · exact q1.elim
theorem qe_sindex (ho : QE X W o mo) (he : QE X W e ma) (hs : starEach [e] X.env = [(false, eval e X.env)] := by rfl) (hbase : attributeBase o "index" X.env (eval o X.env) = eval o X.env := by rfl) (hline : (apos.endLine == cpos.line) = true := by rfl) :
    QE X W (.Call (.Attribute o "index" apos) [e] [] cpos) (mMet isStr dSIndex mo (mCons ma mNil)) := qe_m1 PySem.F.slot_str_index PySem.F.type_str_index mm_sindex ho he hs hbase hline
/-- list(range(a, b)) -/
def rgD (a b : Int) : List D := (List.range (b - a).toNat).map fun i => D.int (a + (i : Nat))
def mLRg (a b : M D) : M D := fun e h => (a e h).bind fun x h1 => (b e h1).bind fun y h2 => match x, y with
  | .int i, .int j => if -(2 ^ 62) ≤ i ∧ i < 2 ^ 62 ∧ -(2 ^ 62) ≤ j ∧ j < 2 ^ 62 ∧ (j - i).toNat ≤ 2 ^ 24 then .ok (.ref h2.length) (h2 ++ [.lst (rgD i j)]) else .bad
  | _, _ => .bad
theorem rgD_rel {K : PySem.W.Frag} {φ : Nat → Addr} {n : Nat} {H : Hp} (a b : Int) : RDs K φ n H (rgD a b) (rgV a b) := by
  unfold rgD rgV
  generalize List.range (b - a).toNat = l
  induction l with
  | nil => exact .nil
  | cons x l ih => exact .cons (.int _) ih
theorem qe_listRg {a b : Expr} {mb : M D} {p p2 pos pos2 : Pos} (hc : X.calm = true) (hg : Gl X "list") (hm : X.mg "list" = none) (hg2 : Gl X "range") (hm2 : X.mg "range" = none) (ha : QE X W a ma) (hb : QE X W b mb)
    (na : starEach [.Call (.Name "range" p2) [a, b] [] pos2] X.env = (false, eval (.Call (.Name "range" p2) [a, b] [] pos2) X.env) :: starEach [] X.env := by rfl)
    (nb : starEach [a, b] X.env = (false, eval a X.env) :: starEach [b] X.env := by rfl) (nc : starEach [b] X.env = (false, eval b X.env) :: starEach [] X.env := by rfl) (hp : (backTo pos2 (starEach [b] X.env)).any (·.1) = false := by rfl) :
    QE X W (.Call (.Name "list" p) [.Call (.Name "range" p2) [a, b] [] pos2] [] pos) (mLRg ma mb) := by
  refine qe_of (pe_listRg hc hg hm (prg_2 hg2 hm2 ha hb nb nc hp) na) fun σ φ env lh H Q h1 h2 q => ?_
  refine rd_of h1 h2 (wp_step q fun x lh1 φ1 v H1 p1 r1 q1 => ?_)
  refine rd_of p1.hr (h2.up p1) (wp_step q1 fun y lh2 φ2 w H2 p2 r2 q2 => ?_)
  have r1' := r1.up p2
  split at q2
  · cases r1'
    cases r2
    split at q2
    · rename_i i j c
      exact ⟨i, j, rfl, rfl, c, fun z hz => wp_newL q2 p2.hr hz (rgD_rel i j)⟩
    · exact q2.elim
  · exact q2.elim
/-- x[::-1] of a text or a list -/
def dRev (d : D) (h : LH) : Res D := match d with
  | .str s => if s.length ≤ 16777216 then .ok (.str s.reverse) h else .bad
  | .tup _ => .bad
  | d => match seqD d h with
    | some xs => .ok (.ref h.length) (h ++ [.lst xs.reverse])
    | none => .bad
def tRev (K : PySem.W.Frag) (te : TE) : TE := fun σ H Q => te σ H fun x H1 => (∃ a xs, x = .ref a ∧ SqL K H1 a xs ∧ ∀ p, H1 p = none → Q (.ref p) (upd H1 p (.lst xs.reverse))) ∨ (∃ z : PySem.Str, x = .str z ∧ z.length ≤ sizeLine ∧ Q (.str ⟨z.cps.toList.reverse.toArray⟩) H1)
theorem rev_ids (n : Nat) : Builtin.Str.strSliceIndices none none (-1) n = (List.range n).reverse := by
  have : Builtin.Str.strSliceIndices none none (-1) n = sliceRange ((n : Int) - 1) (-1) (-1) := by
    first
    | rfl
    | simp [Builtin.Str.strSliceIndices]
  rw [this, PySem.W.krv_sliceRange, PySem.W.krv_range]
theorem rev_pick (z : PySem.Str) : ((Builtin.Str.strSliceIndices none none (-1) z.length).filterMap (z.cps[·]?)).toArray = z.cps.toList.reverse.toArray := by
  rw [rev_ids]
  show ((List.range z.cps.size).reverse.filterMap (z.cps[·]?)).toArray = _
  rw [List.filterMap_reverse, PySem.W.krv_all]
theorem pe_rev {e : Expr} {te : TE} {k : Nat} {p1 p2 p3 pos : Pos} (he : PE X e te) : PE X (.Subscript e (.Slice none none (some (.UnaryOp .USub (.Constant (.int 1) k p1) p2)) p3) pos) (tRev X.K te) := by
  refine ⟨fun pins s σ H Q I h => ?_⟩
  refine Subscript_ (thn (he.run pins s σ H _ I h) fun v s1 ⟨x, H1, I1, r1, q1⟩ => ?_)
  have hst : PO X (some (.UnaryOp .USub (.Constant (.int 1) k p1) p2)) (tPart (tUn (rU fun i => .int (-i)) (tC (.int 1)))) := po_some (pe_un un_neg pe_int)
  refine wpAny_Slice (thn (po_none.run pins s1 σ H1 (fun o H2 => o = none ∧ H2 = H1) I1 ⟨rfl, rfl⟩) fun vl s2 ⟨l, H2, I2, pl, el, e2⟩ => ?_)
  subst el e2
  refine thn (po_none.run pins s2 σ H2 (fun o H3 => o = none ∧ H3 = H2) I2 ⟨rfl, rfl⟩) fun vu s3 ⟨u, H3, I3, pu, eu, e3⟩ => ?_
  subst eu e3
  refine thn (hst.run pins s3 σ H3 (fun o H4 => o = some (-1) ∧ H4 = H3) I3 ⟨1, rfl, -1, rfl, rfl, rfl⟩) fun vs s4 ⟨o, H4, I4, ps, eo, e4⟩ => ?_
  subst eo e4
  have I5 : Inv X pins σ H4 { s4 with heap := s4.heap.push { cls := .type "slice", data := .fields #[vl, vu, vs] } } := I4.kept (t' := s4.toks) fun b ob q => Heap.get?_push_of_some _ q
  rcases q1 with ⟨a, xs, ex, hx, q⟩ | ⟨z, ex, hz, q⟩
  · subst ex
    cases r1
    obtain ⟨its, r, ht, hz⟩ := I5.list hx
    have hlen := r.length
    show wpAny (model X.prog X.w) X.A (subscriptTail e (.Slice none none (some (.UnaryOp .USub (.Constant (.int 1) k p1) p2)) p3) (.ref a) (.ref s4.heap.objs.size)) (EP X pins σ Q) X.xe { s4 with heap := s4.heap.push { cls := .type "slice", data := .fields #[vl, vu, vs] } }
    refine tail_any (ops := [.ref a, .ref s4.heap.objs.size]) ht.isList.typeIs (PySem.slot_list_getitem.lookup) ?_ (by with_unfolding_all rfl)
    refine wpAny_getItem_list_slice ht.isList (Heap.IsSliceOf.new _ vl vu vs) pl pu ps (by decide) ?_ (by rw [List.size_toArray]; omega)
    rw [PySem.W.krv_pick]
    refine ⟨.ref _, _, I5.laid (t' := s4.toks) (o := .lst xs.reverse) (fun b ob q => Heap.get?_push_of_some _ q) (Nat.le_refl _) ?_, rfl, q _ (I5.hok.fresh (Nat.le_refl _))⟩
    exact ⟨by rw [List.length_reverse]; exact hz, _, 0, r.reverse, Heap.get?_push_size _ rfl⟩
  · subst ex
    obtain ⟨t, rfl⟩ := r1
    obtain ⟨l, rfl, el⟩ := IsPart.raw pl
    obtain ⟨u, rfl, eu⟩ := IsPart.raw pu
    obtain ⟨w, rfl, ew⟩ := IsPart.raw ps
    cases l with
    | some p => cases el
    | none =>
    cases u with
    | some p => cases eu
    | none =>
    cases w with
    | none => cases ew
    | some p =>
    obtain ⟨k', uk⟩ := p
    have ek : k' = -1 := by injection ew
    subst ek
    show wpAny (model X.prog X.w) X.A (subscriptTail e (.Slice none none (some (.UnaryOp .USub (.Constant (.int 1) k p1) p2)) p3) (.str z t) (.ref s4.heap.objs.size)) (EP X pins σ Q) X.xe _
    refine tail_any (ops := [.str z t, .ref s4.heap.objs.size]) (typeIs_str _ _ _) (F.slot_str_getitem.lookup) ?_ (by with_unfolding_all rfl)
    refine wpAny_getItem_str_slice (l := none) (u := none) (st := some (-1, uk)) ⟨_, Heap.get?_push_size _ rfl, rfl, rfl⟩ rfl ?_
    have em : sliceMade z t none none (some (-1, uk)) = Made.str ⟨z.cps.toList.reverse.toArray⟩ := by
      show Made.str ⟨((Builtin.Str.strSliceIndices none none (-1) z.length).filterMap (z.cps[·]?)).toArray⟩ = _
      rw [rev_pick]
    rw [em]
    refine ⟨?_, .str _, H4, I5.tok _, ⟨_, rfl⟩, q⟩
    show (z.cps.toList.reverse.toArray).size ≤ sizeLine
    rw [List.size_toArray, List.length_reverse, Array.length_toList]
    exact hz
theorem qe_globI {x : PySem.Str} {i : Int} {pos : Pos} (hg : Gl X x) (hm : ∃ t, X.mg x = some (.int i t)) (hdb : (x == ("__debug__" : PySem.Str)) = false := by decide) : QE X W (.Name x pos) (mC (.int i)) := by
  obtain ⟨t, h⟩ := hm
  exact qe_glob hg h (v := .int i) ⟨t, rfl⟩ (fun _ _ _ => .int _) hdb
theorem qe_globS {x : PySem.Str} {z : String} {pos : Pos} (hg : Gl X x) (hm : ∃ t, X.mg x = some (.str (Str.ofString z) t)) (hdb : (x == ("__debug__" : PySem.Str)) = false := by decide) : QE X W (.Name x pos) (mC (S z)) := by
  obtain ⟨t, h⟩ := hm
  exact qe_glob hg h (v := .str (Str.ofString z)) ⟨t, rfl⟩ (fun _ _ _ => rd_str _) hdb
theorem qe_rev {k : Nat} {p1 p2 p3 pos : Pos} (he : QE X W e ma) : QE X W (.Subscript e (.Slice none none (some (.UnaryOp .USub (.Constant (.int 1) k p1) p2)) p3) pos) (mUn dRev ma) := by
  refine qe_of (pe_rev he) fun σ φ env lh H Q h1 h2 q => ?_
  refine rd_of h1 h2 (wp_step q fun x lh1 φ1 v H1 p1 r1 q1 => ?_)
  unfold dRev at q1
  split at q1
  · cases r1
    split at q1
    · rename_i s c
      refine .inr ⟨_, rfl, by rw [str_len]; exact sz_le c, wp_ok q1 (.refl p1.hr) (.str _)⟩
    · exact q1.elim
  · exact q1.elim
  · rename_i d _ hx
    split at q1
    · rename_i xs e
      obtain ⟨ad, vs, rfl, hq, rs⟩ := seqD_ok p1.hr r1 e
      rcases hq with hq | hq
      · exact .inl ⟨ad, vs, rfl, hq, fun p hp => wp_newL q1 p1.hr hp rs.rev⟩
      · cases r1 with
        | tup => exact absurd rfl (hx _)
        | ref hi =>
          unfold seqD at e
          simp only at e
          split at e
          · rename_i ys el
            cases e
            obtain ⟨ws, hw, rw'⟩ := p1.hr.lst el
            exact .inl ⟨_, ws, rfl, SqL.of hw, fun p hp => wp_newL q1 p1.hr hp rw'.rev⟩
          · cases e
        | scr hs =>
          cases e
          exact .inl ⟨ad, _, rfl, scrL_ext (Ext.refl _) hs, fun p hp => wp_newL q1 p1.hr hp (RDs.ints _).rev⟩
    · exact q1.elim
end
end HM
set_option Elab.async false
set_option linter.all false
set_option maxRecDepth 100000
set_option maxHeartbeats 4000000

namespace L
open PySem L2 HM
def fuel : Nat := 100000000
def b_is_printable : MS := (sSeq (sIf (mTNot (mTru (mIsI .str (mVar 0)))) (sRet (mC (.bl false))) sNil)
    (sSeq (sFor (iAny (mVar 0)) (.nm 1) (sSeq (sSet 2 (mApp dOrd (mCons (mVar 1) mNil)))
    (sIf (mTOr (mTst (mOp dLt (mVar 2) (mC (.int 32)))) (mTOr (mTst (mOp dGt (mVar 2) (mC (.int 126)))) (mTst (mOp dEq (mVar 2) (mC (.int 37)))))) (sRet (mC (.bl false))) sNil)))
    (sRet (mC (.bl true)))))
def f_is_printable : MF := mkF 1 3 b_is_printable
def b_is_integer : MS := (sSeq (sIf (mTOr (mTNot (mTru (mIsI .int (mVar 0)))) (mTru (mIsI .bool (mVar 0)))) (sRet (mC (.bl false))) sNil)
    (sRet (mChain dLe dLe (mVar 1) (mVar 0) (mVar 2))))
def f_is_integer : MF := mkF 3 3 b_is_integer
def b__law_cell : MS := (sSeq (sIf (mTst (mOp dLt (mVar 1) (mApp dLen (mCons (mVar 0) mNil)))) (sRet (mOp dIx (mVar 0) (mVar 1))) sNil)
    (sRet (mC (.int 0))))
def f__law_cell : MF := mkF 2 2 b__law_cell
def b__law_stream : MS := (sSeq (sIf (mTst (mOp dGe (mVar 0) (mOp dPow (mC (.int 10)) (mC (.int 18))))) (sRet (mLst (mCons (mVar 0) (mCons (mC (.int 1)) mNil)))) sNil)
    (sRet (mLst (mCons (mC (.int 0)) (mCons (mVar 0) mNil)))))
def f__law_stream : MF := mkF 1 1 b__law_stream
def b__law_take : MS := (sSeq (sIf (mTst (mOp dGt (mOp dIx (mVar 0) (mC (.int 0))) (mC (.int 0)))) (sSeq (sSet 2 (mOp dMod (mApp dInt (mCons (mOp dIx (mVar 0) (mC (.int 0))) mNil)) (mVar 1)))
    (sSeq (sSetL (mVar 0) (mC (.int 0)) (mOp dDiv (mOp dIx (mVar 0) (mC (.int 0))) (mVar 1)))
    (sRet (mVar 2)))) sNil)
    (sSeq (sSetL (mVar 0) (mC (.int 1)) (mOp dMod (mApp dInt (mCons (mOp dAdd (mOp dMul (mOp dIx (mVar 0) (mC (.int 1))) (mC (.int 48271))) (mC (.int 69621))) mNil)) (mC (.int 2147483647))))
    (sRet (mOp dMod (mApp dInt (mCons (mOp dAdd (mOp dDiv (mOp dMul (mOp dIx (mVar 0) (mC (.int 1))) (mOp dIx (mVar 0) (mC (.int 1)))) (mC (.int 1009))) (mOp dDiv (mOp dIx (mVar 0) (mC (.int 1))) (mC (.int 7)))) mNil)) (mVar 1)))))
def f__law_take : MF := mkF 2 3 b__law_take
def b__law_char : MS := (sSeq (sSet 1 (mC (S " !\"#$&'()*+,-./0123456789:;<=>?@ABCDEFGHIJKLMNOPQRSTUVWXYZ[\\]^_`")))
    (sSeq (sSet 1 (mOp dAdd (mVar 1) (mC (S "abcdefghijklmnopqrstuvwxyz{|}~"))))
    (sRet (mOp dIx (mVar 1) (mVar 0)))))
def f__law_char : MF := mkF 1 2 b__law_char
def b__law_string : MS := (sSeq (sSet 2 (mApp f__law_take (mCons (mVar 0) (mCons (mOp dAdd (mVar 1) (mC (.int 1))) mNil))))
    (sRet (mMet isStr dJoin (mC (S "")) (mCons (mLc (iRng1M (mCons (mVar 2) mNil)) (.nm 3) mYes (mApp f__law_char (mCons (mApp f__law_take (mCons (mVar 0) (mCons (mC (.int 94)) mNil))) mNil)) [3]) mNil))))
def f__law_string : MF := mkF 2 4 b__law_string
def b__law_says : MS := (sRet (mAnd (mIsI .bool (mVar 0)) (mOp dEq (mVar 0) (mVar 1))))
def f__law_says : MF := mkF 2 2 b__law_says
def b_digest : MS := (sSeq (sSet 1 (mOp dAdd (mApp dLen (mCons (mVar 0) mNil)) (mC (.int 1))))
    (sSeq (sFor (iAny (mVar 0)) (.nm 2) (sSet 1 (mOp dMod (mOp dAdd (mOp dMul (mVar 1) (mC (.int 65599))) (mApp dOrd (mCons (mVar 2) mNil))) (mC (.int 2361183241434822606617)))))
    (sRet (mUn dHex (mVar 1)))))
def f_digest : MF := mkF 1 3 b_digest
def b__law_number : MS := (sSeq (sSet 1 (mOp dAdd (mApp dLen (mCons (mVar 0) mNil)) (mC (.int 1))))
    (sSeq (sFor (iAny (mVar 0)) (.nm 2) (sSet 1 (mOp dAdd (mOp dMul (mVar 1) (mC (.int 65599))) (mApp dOrd (mCons (mVar 2) mNil)))))
    (sRet (mOp dMod (mApp dInt (mCons (mVar 1) mNil)) (mOp dSub (mOp dMul (mOp dPow (mC (.int 2)) (mC (.int 64))) (mC (.int 128))) (mC (.int 231)))))))
def f__law_number : MF := mkF 1 3 b__law_number
def b__law_row : MS := (sRet (mMet isStr dJoin (mC (S "")) (mCons (mLc (iRng2M (mCons (mC (.int 1)) (mCons (mC (.int 94)) mNil))) (.nm 0) mYes (mApp f__law_char (mCons (mVar 0) mNil)) [0]) mNil)))
def f__law_row : MF := mkF 0 1 b__law_row
def b__law_short : MS := (sRet (mMet isStr dJoin (mC (S "")) (mCons (mLc (iRng1M (mCons (mApp f__law_take (mCons (mVar 0) (mCons (mC (.int 5)) mNil))) mNil)) (.nm 1) mYes (mOp dIx (mOp dAdd (mOp dAdd (mApp f__law_char (mCons (mC (.int 0)) mNil)) (mC (S "\n\t"))) (mApp0 f__law_row)) (mApp f__law_take (mCons (mVar 0) (mCons (mC (.int 96)) mNil)))) [1]) mNil)))
def f__law_short : MF := mkF 1 2 b__law_short
def b_made_of : MS := (sSeq (sFor (iAny (mVar 0)) (.nm 2) (sIf (mTst (mOp dNotIn (mVar 2) (mVar 1))) (sRet (mC (.bl false))) sNil))
    (sRet (mC (.bl true))))
def f_made_of : MF := mkF 2 3 b_made_of
def b_is_list_name : MS := (sRet (mAnd (mIsI .str (mVar 0)) (mAnd (mChain dLe dLe (mC (.int 1)) (mApp dLen (mCons (mVar 0) mNil)) (mC (.int 12))) (mApp f_made_of (mCons (mVar 0) (mCons (mC (S "abcdefghijklmnopqrstuvwxyz")) mNil))))))
def f_is_list_name : MF := mkF 1 1 b_is_list_name
def b_is_key : MS := (sSeq (sIf (mTOr (mTNot (mTru (mIsI .str (mVar 0)))) (mTNot (mTst (mChain dLe dLe (mC (.int 2)) (mApp dLen (mCons (mVar 0) mNil)) (mC (.int 12)))))) (sRet (mC (.bl false))) sNil)
    (sRet (mAnd (mOp dEq (mOp dIx (mVar 0) (mC (.int 0))) (mC (S "k"))) (mApp f_made_of (mCons (mSl (mVar 0) (mPart (mC (.int 1))) mNoP) (mCons (mC (S "0123456789")) mNil))))))
def f_is_key : MF := mkF 1 1 b_is_key
def b__law_all : MS := (sSeq (sFor (iAny (mVar 0)) (.nm 2) (sIf (mTst (mOp dNotIn (mVar 2) (mVar 1))) (sRet (mC (.bl false))) sNil))
    (sRet (mC (.bl true))))
def f__law_all : MF := mkF 2 3 b__law_all
def b_has_parts : MS := (sSeq (sIf (mTOr (mTNot (mTru (mIsI .str (mVar 0)))) (mTst (mOp dGt (mApp dLen (mCons (mVar 0) mNil)) (mC (.int 60))))) (sRet (mC (.bl false))) sNil)
    (sSeq (sSet 2 (mMet isStr dSplit (mVar 0) (mCons (mC (S "/")) mNil)))
    (sSeq (sIf (mTst (mOp dGt (mApp dLen (mCons (mVar 2) mNil)) (mC (.int 6)))) (sRet (mC (.bl false))) sNil)
    (sSeq (sFor (iAny (mVar 2)) (.nm 3) (sIf (mTOr (mTst (mOp dEq (mVar 3) (mC (S "")))) (mTNot (mTru (mApp f_made_of (mCons (mVar 3) (mCons (mVar 1) mNil)))))) (sRet (mC (.bl false))) sNil))
    (sRet (mC (.bl true)))))))
def f_has_parts : MF := mkF 2 4 b_has_parts
def b_is_path : MS := (sRet (mApp f_has_parts (mCons (mVar 0) (mCons (mC (S "abcdefghijklmnopqrstuvwxyz0123456789.-_")) mNil))))
def f_is_path : MF := mkF 1 1 b_is_path
def b_is_pattern : MS := (sRet (mApp f_has_parts (mCons (mVar 0) (mCons (mC (S "abcdefghijklmnopqrstuvwxyz0123456789.-_*")) mNil))))
def f_is_pattern : MF := mkF 1 1 b_is_pattern
def b__law_parts : MS := (sSeq (sIf (mTst (mOp dGt (mApp dLen (mCons (mVar 0) mNil)) (mC (.int 60)))) (sRet (mC (.bl false))) sNil)
    (sSeq (sSet 2 (mC (.int 1)))
    (sSeq (sSet 3 (mC (.int 0)))
    (sSeq (sFor (iAny (mVar 0)) (.nm 4) (sIf (mTst (mOp dEq (mVar 4) (mC (S "/")))) (sSeq (sIf (mTst (mOp dEq (mVar 3) (mC (.int 0)))) (sRet (mC (.bl false))) sNil)
    (sSeq (sSet 2 (mOp dAdd (mVar 2) (mC (.int 1))))
    (sSet 3 (mC (.int 0))))) (sIf (mTst (mOp dIn (mVar 4) (mVar 1))) (sSet 3 (mOp dAdd (mVar 3) (mC (.int 1)))) (sRet (mC (.bl false))))))
    (sRet (mAnd (mOp dGt (mVar 3) (mC (.int 0))) (mOp dLe (mVar 2) (mC (.int 6)))))))))
def f__law_parts : MF := mkF 2 5 b__law_parts
def b__law_part : MS := (sSeq (sSet 3 (mApp f__law_take (mCons (mVar 0) (mCons (mOp dAdd (mVar 1) (mC (.int 1))) mNil))))
    (sRet (mMet isStr dJoin (mC (S "")) (mCons (mLc (iRng1M (mCons (mVar 3) mNil)) (.nm 4) mYes (mOp dIx (mVar 2) (mApp f__law_take (mCons (mVar 0) (mCons (mApp dLen (mCons (mVar 2) mNil)) mNil)))) [4]) mNil))))
def f__law_part : MF := mkF 3 5 b__law_part
def b_ends_behind : MS := (sSeq (sIf (mTst (mOp dNe (mVar 1) (mC (S "*")))) (sRet (mLc (iAny (mVar 0)) (.nm 3) (mTst (mOp dEq (mSl (mVar 2) (mPart (mVar 3)) (mPart (mOp dAdd (mVar 3) (mC (.int 1))))) (mVar 1))) (mOp dAdd (mVar 3) (mC (.int 1))) [3])) sNil)
    (sSeq (sIf (mTst (mOp dEq (mVar 0) (mLst mNil))) (sRet (mLst mNil)) sNil)
    (sRet (mLRg (mOp dIx (mVar 0) (mC (.int 0))) (mOp dAdd (mApp dLen (mCons (mVar 2) mNil)) (mC (.int 1)))))))
def f_ends_behind : MF := mkF 3 4 b_ends_behind
def b_part_matches : MS := (sSeq (sSet 2 (mLst (mCons (mC (.int 0)) mNil)))
    (sSeq (sFor (iAny (mVar 0)) (.nm 3) (sSet 2 (mApp f_ends_behind (mCons (mVar 2) (mCons (mVar 3) (mCons (mVar 1) mNil))))))
    (sRet (mOp dIn (mApp dLen (mCons (mVar 1) mNil)) (mVar 2)))))
def f_part_matches : MF := mkF 2 4 b_part_matches
def b_matches : MS := (sSeq (sSet 2 (mMet isStr dSplit (mVar 0) (mCons (mC (S "/")) mNil)))
    (sSeq (sSet 3 (mMet isStr dSplit (mVar 1) (mCons (mC (S "/")) mNil)))
    (sSeq (sIf (mTst (mOp dNe (mApp dLen (mCons (mVar 2) mNil)) (mApp dLen (mCons (mVar 3) mNil)))) (sRet (mC (.bl false))) sNil)
    (sSeq (sFor (iRng1M (mCons (mApp dLen (mCons (mVar 3) mNil)) mNil)) (.nm 4) (sIf (mTNot (mTru (mApp f_part_matches (mCons (mOp dIx (mVar 2) (mVar 4)) (mCons (mOp dIx (mVar 3) (mVar 4)) mNil))))) (sRet (mC (.bl false))) sNil))
    (sRet (mC (.bl true)))))))
def f_matches : MF := mkF 2 5 b_matches
def b__law_part_matches : MS := (sSeq (sSet 2 (mLc (iRng1M (mCons (mOp dAdd (mApp dLen (mCons (mVar 1) mNil)) (mC (.int 1))) mNil)) (.nm 7) mYes (mOp dEq (mVar 7) (mApp dLen (mCons (mVar 1) mNil))) [7]))
    (sSeq (sFor (iRng1M (mCons (mApp dLen (mCons (mVar 0) mNil)) mNil)) (.nm 3) (sSeq (sSet 4 (mOp dIx (mVar 0) (mOp dSub (mOp dSub (mApp dLen (mCons (mVar 0) mNil)) (mC (.int 1))) (mVar 3))))
    (sSeq (sSet 5 (mLc (iRng1M (mCons (mOp dAdd (mApp dLen (mCons (mVar 1) mNil)) (mC (.int 1))) mNil)) (.nm 7) mYes (mC (.bl false)) [7]))
    (sSeq (sFor (iRng1M (mCons (mOp dAdd (mApp dLen (mCons (mVar 1) mNil)) (mC (.int 1))) mNil)) (.nm 6) (sSeq (sSet 7 (mOp dSub (mApp dLen (mCons (mVar 1) mNil)) (mVar 6)))
    (sIf (mTst (mOp dEq (mVar 4) (mC (S "*")))) (sSetL (mVar 5) (mVar 7) (mOr (mOp dIx (mVar 2) (mVar 7)) (mAnd (mOp dGt (mVar 6) (mC (.int 0))) (mOp dIx (mVar 5) (mOp dAdd (mVar 7) (mC (.int 1))))))) (sIf (mTst (mOp dGt (mVar 6) (mC (.int 0)))) (sSetL (mVar 5) (mVar 7) (mAnd (mOp dEq (mOp dIx (mVar 1) (mVar 7)) (mVar 4)) (mOp dIx (mVar 2) (mOp dAdd (mVar 7) (mC (.int 1)))))) sNil))))
    (sSet 2 (mVar 5))))))
    (sRet (mOp dIx (mVar 2) (mC (.int 0))))))
def f__law_part_matches : MF := mkF 2 8 b__law_part_matches
def b__law_like : MS := (sSeq (sSet 3 (mC (S "")))
    (sSeq (sFor (iAny (mVar 1)) (.nm 4) (sIf (mTst (mOp dNe (mVar 4) (mC (S "*")))) (sSet 3 (mOp dAdd (mVar 3) (mVar 4))) (sIf (mTst (mOp dEq (mApp f__law_take (mCons (mVar 0) (mCons (mC (.int 2)) mNil))) (mC (.int 0)))) (sSet 3 (mOp dAdd (mVar 3) (mOp dIx (mVar 2) (mApp f__law_take (mCons (mVar 0) (mCons (mApp dLen (mCons (mVar 2) mNil)) mNil)))))) sNil)))
    (sSeq (sIf (mTAnd (mTst (mOp dEq (mApp f__law_take (mCons (mVar 0) (mCons (mC (.int 3)) mNil))) (mC (.int 0)))) (mTst (mOp dGt (mApp dLen (mCons (mVar 3) mNil)) (mC (.int 0))))) (sSeq (sSet 5 (mApp f__law_take (mCons (mVar 0) (mCons (mApp dLen (mCons (mVar 3) mNil)) mNil))))
    (sSet 3 (mOp dAdd (mOp dAdd (mSl (mVar 3) mNoP (mPart (mVar 5))) (mOp dIx (mVar 2) (mApp f__law_take (mCons (mVar 0) (mCons (mApp dLen (mCons (mVar 2) mNil)) mNil))))) (mSl (mVar 3) (mPart (mOp dAdd (mVar 5) (mC (.int 1)))) mNoP)))) sNil)
    (sSeq (sIf (mTst (mOp dEq (mVar 3) (mC (S "")))) (sRet (mC (S "a"))) sNil)
    (sRet (mVar 3))))))
def f__law_like : MF := mkF 3 6 b__law_like
end L
set_option Elab.async false
set_option linter.all false
set_option maxRecDepth 100000
set_option maxHeartbeats 4000000
namespace HM
open PySem L2
/-! ### the mirrors evaluated -/
section
variable {α β : Type} {e : EN} {h h1 : LH} {d : D}
@[simp] theorem bind_ok {a : α} {f : α → LH → Res β} : (Res.ok a h).bind f = f a h := rfl
@[simp] theorem bind_bad {f : α → LH → Res β} : (Res.bad : Res α).bind f = .bad := rfl
@[simp] theorem bind_exc {x : XO} {f : α → LH → Res β} : (Res.exc x h : Res α).bind f = .exc x h := rfl
@[simp] theorem rs_ok {a : α} {f : α → LH → RSt} : rsBind (Res.ok a h) e f = f a h := rfl
@[simp] theorem rs_bad {f : α → LH → RSt} : rsBind (Res.bad : Res α) e f = .bad := rfl
@[simp] theorem rs_exc {x : XO} {f : α → LH → RSt} : rsBind (Res.exc x h : Res α) e f = .exc x e h := rfl
@[simp] theorem ev_var {i : Nat} : mVar i e h = match e[i]? with | some (some d) => .ok d h | _ => .bad := rfl
@[simp] theorem ev_c : mC d e h = .ok d h := rfl
@[simp] theorem ev_op {f : D → D → LH → Res D} {a b : M D} : mOp f a b e h = (a e h).bind fun x h1 => (b e h1).bind fun y h2 => f x y h2 := rfl
@[simp] theorem ev_un {f : D → LH → Res D} {a : M D} : mUn f a e h = (a e h).bind fun x h1 => f x h1 := rfl
@[simp] theorem ev_nil : mNil e h = .ok [] h := rfl
@[simp] theorem ev_cons {a : M D} {r : M (List D)} : mCons a r e h = (a e h).bind fun x h1 => (r e h1).bind fun xs h2 => .ok (x :: xs) h2 := rfl
@[simp] theorem ev_app {f : MF} {a : M (List D)} : mApp f a e h = (a e h).bind fun xs h1 => f xs h1 := rfl
@[simp] theorem ev_app0 {f : MF} : mApp0 f e h = match f [] h with | .ok d h1 => .ok d h1 | .exc _ _ => .bad | .bad => .bad := rfl
@[simp] theorem ev_tst {a : M D} : mTst a e h = (a e h).bind fun x h1 => match x with | .bl b => .ok b h1 | _ => .bad := rfl
@[simp] theorem ev_tAnd {a b : M Bool} : mTAnd a b e h = (a e h).bind fun x h1 => if x then b e h1 else .ok false h1 := rfl
@[simp] theorem ev_tOr {a b : M Bool} : mTOr a b e h = (a e h).bind fun x h1 => if x then .ok true h1 else b e h1 := rfl
@[simp] theorem ev_tNot {a : M Bool} : mTNot a e h = (a e h).bind fun x h1 => .ok (!x) h1 := rfl
@[simp] theorem ev_tru {a : M D} : mTru a e h = (a e h).bind fun d h1 => match truD d h1 with | some b => .ok b h1 | none => .bad := rfl
/-- what and, or do behind their first part -/
def kAnd (x : D) (b : M D) (e : EN) (h : LH) : Res D := match x with
  | .bl true => b e h
  | .bl false => .ok (.bl false) h
  | _ => .bad
def kOr (x : D) (b : M D) (e : EN) (h : LH) : Res D := match x with
  | .bl true => .ok (.bl true) h
  | .bl false => b e h
  | _ => .bad
@[simp] theorem ev_and {a b : M D} : mAnd a b e h = (a e h).bind fun x h1 => kAnd x b e h1 := rfl
@[simp] theorem ev_or {a b : M D} : mOr a b e h = (a e h).bind fun x h1 => kOr x b e h1 := rfl
@[simp] theorem kAnd_bl {b : M D} {t : Bool} : kAnd (.bl t) b e h = if t then b e h else .ok (.bl false) h := by cases t <;> rfl
@[simp] theorem kOr_bl {b : M D} {t : Bool} : kOr (.bl t) b e h = if t then .ok (.bl true) h else b e h := by cases t <;> rfl
@[simp] theorem ev_not {a : M D} : mNot a e h = (a e h).bind fun x h1 => match x with | .bl b => .ok (.bl (!b)) h1 | _ => .bad := rfl
@[simp] theorem ev_ifE {c : M Bool} {a b : M D} : mIfE c a b e h = (c e h).bind fun x h1 => if x then a e h1 else b e h1 := rfl
def kCh (z : D) (c : M D) (g : D → D → LH → Res D) (y : D) (e : EN) (h : LH) : Res D := match z with
  | .bl true => (c e h).bind fun w h4 => g y w h4
  | .bl false => .ok (.bl false) h
  | _ => .bad
@[simp] theorem ev_chain {f g : D → D → LH → Res D} {a b c : M D} : mChain f g a b c e h = (a e h).bind fun x h1 => (b e h1).bind fun y h2 => (f x y h2).bind fun z h3 => kCh z c g y e h3 := rfl
@[simp] theorem kCh_bl {c : M D} {g : D → D → LH → Res D} {y : D} {t : Bool} : kCh (.bl t) c g y e h = if t then (c e h).bind fun w h4 => g y w h4 else .ok (.bl false) h := by cases t <;> rfl
@[simp] theorem ev_tup {a : M (List D)} : mTup a e h = (a e h).bind fun xs h1 => if xs.length ≤ 16777216 then .ok (.tup xs) h1 else .bad := rfl
@[simp] theorem ev_lst {a : M (List D)} : mLst a e h = (a e h).bind fun xs h1 => if xs.length ≤ 16777216 then .ok (.ref h1.length) (h1 ++ [.lst xs]) else .bad := rfl
@[simp] theorem ev_isI {b : BT} {a : M D} : mIsI b a e h = (a e h).bind fun d h1 => match tyD d h1 with | some t => .ok (.bl (isB t b)) h1 | Option.none => .bad := rfl
@[simp] theorem ev_noP : mNoP e h = .ok none h := rfl
@[simp] theorem ev_part {a : M D} : mPart a e h = (a e h).bind fun d h1 => match d with | .int i => .ok (some i) h1 | _ => .bad := rfl
@[simp] theorem ev_sl {a : M D} {lo hi : M (Option Int)} : mSl a lo hi e h = (a e h).bind fun d h1 => (lo e h1).bind fun l h2 => (hi e h2).bind fun u h3 => dSl d l u h3 := rfl
@[simp] theorem ev_met {ck : D → LH → Bool} {f : MM} {o : M D} {a : M (List D)} : mMet ck f o a e h = (o e h).bind fun x h1 => if ck x h1 then (a e h1).bind fun xs h2 => f x xs h2 else .bad := rfl
theorem ev_seq {a b : MS} : sSeq a b e h = match a e h with
  | .next e1 h1 => b e1 h1
  | .ret d h1 => .ret d h1
  | .brk e1 h1 => .brk e1 h1
  | .cnt e1 h1 => .cnt e1 h1
  | .exc x e1 h1 => .exc x e1 h1
  | .bad => .bad := rfl
@[simp] theorem ev_snil : sNil e h = .next e h := rfl
@[simp] theorem ev_if {c : M Bool} {a b : MS} : sIf c a b e h = rsBind (c e h) e fun x h1 => if x then a e h1 else b e h1 := rfl
@[simp] theorem ev_set {i : Nat} {a : M D} : sSet i a e h = rsBind (a e h) e fun x h1 => .next (e.set i (some x)) h1 := rfl
@[simp] theorem ev_ret {a : M D} : sRet a e h = rsBind (a e h) e fun x h1 => .ret x h1 := rfl
@[simp] theorem ev_retN : sRetN e h = .ret .non h := rfl
@[simp] theorem ev_expr {a : M D} : sExpr a e h = rsBind (a e h) e fun _ h1 => .next e h1 := rfl
@[simp] theorem ev_brk : sBrk e h = .brk e h := rfl
@[simp] theorem ev_cnt : sCnt e h = .cnt e h := rfl
@[simp] theorem ev_setL {o i a : M D} : sSetL o i a e h = rsBind (a e h) e fun v h1 => rsBind (o e h1) e fun x h2 => rsBind (i e h2) e fun y h3 => match setL x y v h3 with | some h4 => .next e h4 | none => .bad := rfl
@[simp] theorem ev_sTup {is : List Nat} {a : M D} : sTup is a e h = rsBind (a e h) e fun v h1 => match tnSet (.tp is) v e with | some e1 => .next e1 h1 | none => .bad := rfl
@[simp] theorem ev_aug {f : D → D → LH → Res D} {i : Nat} {a : M D} : sAug f i a e h = match e[i]? with
  | some (some x) => rsBind (a e h) e fun y h1 => rsBind (f x y h1) e fun z h2 => .next (e.set i (some z)) h2
  | _ => .bad := rfl
@[simp] theorem ev_for {it : M (IT × Nat)} {t : TN} {b : MS} : sFor it t b e h = rsBind (it e h) e fun g h1 => loopF g.1 t b g.2 0 e h1 := rfl
@[simp] theorem ev_while {c : M Bool} {b : MS} {n : Nat} : sWhile n c b e h = loopW c b n e h := rfl
@[simp] theorem ev_any {a : M D} : iAny a e h = (a e h).bind fun d h1 => match d with
  | .tup xs => .ok (itL xs, xs.length) h1
  | .scr ns => .ok (itL (ns.map D.int), ns.length) h1
  | .str s => .ok (itL (s.map fun c => D.str [c]), s.length) h1
  | .ref i => match h1[i]? with
    | some (.lst xs) => .ok (itO i, xs.length) h1
    | _ => .bad
  | _ => .bad := rfl
@[simp] theorem ev_lc {it : M (IT × Nat)} {t : TN} {c : M Bool} {y : M D} {vs : List Nat} : mLc it t c y vs e h = (it e h).bind fun g h1 => loopC g.1 t c y (wipeM e vs) h1.length g.2 0 (h1 ++ [.lst []]) := rfl
/-- a range that is walked -/
def itR (lo : Int) (n : Nat) : IT := fun _ j => some (if j < n then some (.int (lo + j)) else none)
end
theorem dAdd_int {a b : Int} {h : LH} : dAdd (.int a) (.int b) h = .ok (.int (a + b)) h := rfl
theorem dSub_int {a b : Int} {h : LH} : dSub (.int a) (.int b) h = .ok (.int (a - b)) h := rfl
theorem dLt_int {a b : Int} {h : LH} : dLt (.int a) (.int b) h = .ok (.bl (decide (a < b))) h := rfl
theorem dLe_int {a b : Int} {h : LH} : dLe (.int a) (.int b) h = .ok (.bl (decide (a ≤ b))) h := rfl
theorem dGt_int {a b : Int} {h : LH} : dGt (.int a) (.int b) h = .ok (.bl (decide (b < a))) h := rfl
theorem dGe_int {a b : Int} {h : LH} : dGe (.int a) (.int b) h = .ok (.bl (decide (b ≤ a))) h := rfl
theorem dEq_int {a b : Int} {h : LH} : dEq (.int a) (.int b) h = .ok (.bl (decide (a = b))) h := rfl
theorem dNe_int {a b : Int} {h : LH} : dNe (.int a) (.int b) h = .ok (.bl (!decide (a = b))) h := rfl
theorem dEq_str {a b : List Nat} {h : LH} : dEq (.str a) (.str b) h = .ok (.bl (decide (a = b))) h := rfl
theorem dNe_str {a b : List Nat} {h : LH} : dNe (.str a) (.str b) h = .ok (.bl (!decide (a = b))) h := rfl
theorem dEq_bl {a b : Bool} {h : LH} : dEq (.bl a) (.bl b) h = .ok (.bl (decide (a = b))) h := rfl
theorem dNe_bl {a b : Bool} {h : LH} : dNe (.bl a) (.bl b) h = .ok (.bl (!decide (a = b))) h := rfl
theorem dMod_int {a b : Int} {h : LH} (hb : 0 < b) : dMod (.int a) (.int b) h = .ok (.int (a % b)) h := by
  show (if 0 < b then _ else _) = _
  rw [if_pos hb]
theorem dDiv_int {a b : Int} {h : LH} (hb : 0 < b) (hl : b.natAbs.log2 < 9000) : dDiv (.int a) (.int b) h = .ok (.int (a / b)) h := by
  show (if 0 < b ∧ b.natAbs.log2 < 9000 then _ else _) = _
  rw [if_pos ⟨hb, hl⟩]
theorem dMul_int {a b : Int} {h : LH} (hb : mulOk a b = true) : dMul (.int a) (.int b) h = .ok (.int (a * b)) h := by
  show (if mulOk a b = true then _ else _) = _
  rw [if_pos hb]
theorem mulOk_r {a b : Int} (h : b.natAbs < 2 ^ 63) : mulOk a b = true := by
  unfold mulOk
  rw [decide_eq_true h]
  rfl
theorem S_eq (s : String) : S s = .str (s.toList.map Char.toNat) := by
  unfold S
  have := TL.tl_ofString s
  unfold TL.tl at this
  rw [this]
end HM
namespace HM
open PySem L2
theorem wseq {R : RSt → Prop} {a b : MS} {e e1 : EN} {h h1 : LH} (x : a e h = .next e1 h1) (k : R (b e1 h1)) : R (sSeq a b e h) := by
  rw [ev_seq, x]
  exact k
theorem wseq_ret {R : RSt → Prop} {a b : MS} {e : EN} {h h1 : LH} {d : D} (x : a e h = .ret d h1) (k : R (.ret d h1)) : R (sSeq a b e h) := by
  rw [ev_seq, x]
  exact k
theorem wseq_exc {R : RSt → Prop} {a b : MS} {e e1 : EN} {h h1 : LH} {d : XO} (x : a e h = .exc d e1 h1) (k : R (.exc d e1 h1)) : R (sSeq a b e h) := by
  rw [ev_seq, x]
  exact k
/-- a def's answer from its body's -/
theorem mkF_ret {np nn : Nat} {m : MS} {ds : List D} {h h1 : LH} {d : D} (hl : ds.length = np) (k : m (ds.map some ++ List.replicate (nn - np) none) h = .ret d h1) : mkF np nn m ds h = .ok d h1 := by
  unfold mkF
  rw [if_pos hl, k]
theorem mkF_nx {np nn : Nat} {m : MS} {ds : List D} {e1 : EN} {h h1 : LH} (hl : ds.length = np) (k : m (ds.map some ++ List.replicate (nn - np) none) h = .next e1 h1) : mkF np nn m ds h = .ok .non h1 := by
  unfold mkF
  rw [if_pos hl, k]
theorem mkF_exc {np nn : Nat} {m : MS} {ds : List D} {e1 : EN} {h h1 : LH} {x : XO} (hl : ds.length = np) (k : m (ds.map some ++ List.replicate (nn - np) none) h = .exc x e1 h1) : mkF np nn m ds h = .exc x h1 := by
  unfold mkF
  rw [if_pos hl, k]
def RetT (r : RSt) : Prop := ∃ h, r = .ret (.bl true) h
theorem law_of {nn : Nat} {m : MS} (H : ∀ ns : List Int, ns.length ≤ 63 → (∀ z ∈ ns, Builtin.Int.intBits z ≤ 1048576) → RetT (m (some (.scr ns) :: List.replicate (nn - 1) none) [])) : LawOk (mkF 1 nn m) := by
  intro ns hn hb
  obtain ⟨h, e⟩ := H ns hn hb
  exact ⟨h, mkF_ret (by rfl) e⟩
end HM
set_option Elab.async false
set_option linter.all false
set_option maxRecDepth 100000
set_option maxHeartbeats 4000000
namespace HM
open PySem L2
theorem mkF_eq {np nn : Nat} {m : MS} {ds : List D} {h : LH} (hl : ds.length = np) : mkF np nn m ds h = match m (ds.map some ++ List.replicate (nn - np) none) h with
  | .next _ h => .ok .non h
  | .ret d h => .ok d h
  | .exc x _ h => .exc x h
  | .brk _ _ => .bad
  | .cnt _ _ => .bad
  | .bad => .bad := by
  unfold mkF
  first
    | (rw [if_pos hl]; done)
    | (rw [if_pos hl]
       cases m (ds.map some ++ List.replicate (nn - np) none) h <;> rfl)
theorem atI_of {α : Type} {xs : List α} {i : Int} {x : α} (h0 : 0 ≤ i) (h : xs[i.toNat]? = some x) : atI xs i = some x := by
  have e : ((i.toNat : Nat) : Int) = i := Int.toNat_of_nonneg h0
  rw [← e]
  exact atI_nat h
theorem dIx_ref {h : LH} {r : Nat} {xs : List D} {i : Int} {x : D} (hr : h[r]? = some (.lst xs)) (hx : atI xs i = some x) : dIx (.ref r) (.int i) h = .ok x h := by
  show (match seqD (.ref r) h with
    | some xs => (match atI xs i with
      | some x => Res.ok x h
      | none => .bad)
    | none => .bad) = _
  have e : seqD (.ref r) h = some xs := by
    show (match h[r]? with
      | some (.lst xs) => some xs
      | _ => none) = _
    rw [hr]
  rw [e]
  simp only [hx]
theorem dIx_tup {h : LH} {xs : List D} {i : Int} {x : D} (hx : atI xs i = some x) : dIx (.tup xs) (.int i) h = .ok x h := by
  show (match atI xs i with
      | some x => Res.ok x h
      | none => .bad) = _
  simp only [hx]
theorem dIx_scr {h : LH} {xs : List Int} {i : Int} {x : Int} (h0 : 0 ≤ i) (hx : xs[i.toNat]? = some x) : dIx (.scr xs) (.int i) h = .ok (.int x) h := by
  show (match atI (xs.map D.int) i with
      | some x => Res.ok x h
      | none => .bad) = _
  rw [atI_of h0 (x := D.int x) (by rw [List.getElem?_map, hx]; rfl)]
theorem dIx_str {h : LH} {s : List Nat} {i : Int} {c : Nat} (hl : s.length ≤ 16777216) (hx : atI s i = some c) : dIx (.str s) (.int i) h = .ok (.str [c]) h := by
  show (if s.length ≤ 16777216 then (match atI s i with
    | some c => Res.ok (D.str [c]) h
    | none => .bad) else .bad) = _
  rw [if_pos hl, hx]
theorem setL_ref {h : LH} {r : Nat} {xs : List D} {k : Int} {j : Nat} {v : D} (hr : h[r]? = some (.lst xs)) (hj : ixN xs.length k = some j) : setL (.ref r) (.int k) v h = some (h.set r (.lst (xs.set j v))) := by
  show (match h[r]? with
    | some (.lst xs) => match ixN xs.length k with
      | some j => some (h.set r (.lst (xs.set j v)))
      | none => none
    | _ => none) = _
  rw [hr]
  simp only [hj]
theorem dLen_ref {h : LH} {r : Nat} {xs : List D} (hr : h[r]? = some (.lst xs)) : dLen [.ref r] h = .ok (.int xs.length) h := by
  show (match h[r]? with
    | some (.lst ys) => Res.ok (D.int ys.length) h
    | _ => .bad) = _
  rw [hr]
theorem dLen_str {h : LH} {s : List Nat} (hl : s.length ≤ 16777216) : dLen [.str s] h = .ok (.int s.length) h := by
  show (if s.length ≤ 16777216 then Res.ok (D.int s.length) h else .bad) = _
  rw [if_pos hl]
theorem dLen_scr {h : LH} {s : List Int} : dLen [.scr s] h = .ok (.int s.length) h := rfl
theorem dLen_tup {h : LH} {s : List D} : dLen [.tup s] h = .ok (.int s.length) h := rfl
theorem dInt_int {h : LH} {i : Int} : dInt [.int i] h = .ok (.int i) h := rfl
theorem dOrd_chr {h : LH} {c : Nat} : dOrd [.str [c]] h = .ok (.int c) h := rfl
theorem dAdd_str {a b : List Nat} {h : LH} (hl : a.length + b.length ≤ 16777216) : dAdd (.str a) (.str b) h = .ok (.str (a ++ b)) h := by
  show (if a.length + b.length ≤ 16777216 then Res.ok (D.str (a ++ b)) h else .bad) = _
  rw [if_pos hl]

/-! ### the stream of a law -/
/-- the draw of a stream -/
def tkV (a b m : Int) : Int := if a > 0 then a % m else
  let c := (b * 48271 + 69621) % 2147483647
  (c * c / 1009 + c / 7) % m
def tkA (a m : Int) : Int := if a > 0 then a / m else a
def tkB (a b : Int) : Int := if a > 0 then b else (b * 48271 + 69621) % 2147483647
theorem cell_eq {ns : List Int} {k : Int} {h : LH} (h0 : 0 ≤ k) : L.f__law_cell [.scr ns, .int k] h = .ok (.int (ns.getD k.toNat 0)) h := by
  unfold L.f__law_cell
  rw [mkF_eq (by rfl)]
  unfold L.b__law_cell
  simp [ev_seq, dLen_scr, dLt_int]
  by_cases c : k < ns.length
  · have hk : k.toNat < ns.length := by omega
    have e : ns[k.toNat]? = some (ns.getD k.toNat 0) := by
      rw [List.getD_eq_getElem?_getD, List.getElem?_eq_getElem hk]; rfl
    simp [c, dIx_scr h0 e]
  · have e : ns.getD k.toNat 0 = 0 := by
      rw [List.getD_eq_getElem?_getD, List.getElem?_eq_none (by omega)]; rfl
    rw [List.getD_eq_getElem?_getD] at e
    simp [c, e]
theorem stream_eq {n : Int} {h : LH} : L.f__law_stream [.int n] h = .ok (.ref h.length) (h ++ [.lst (if n ≥ 1000000000000000000 then [.int n, .int 1] else [.int 0, .int n])]) := by
  unfold L.f__law_stream
  rw [mkF_eq (by rfl)]
  unfold L.b__law_stream
  have e : dPow (.int 10) (.int 18) h = .ok (.int 1000000000000000000) h := by
    show (if (0 : Int) ≤ 18 ∧ (18 : Int) ≤ 1000000 ∧ Int.natAbs 10 < 2 ^ 64 then Res.ok (D.int (10 ^ (18 : Int).toNat)) h else .bad) = _
    rw [if_pos ⟨by decide, by decide, by decide⟩]
    rfl
  simp [ev_seq, e, dGe_int]
  by_cases c : n ≥ 1000000000000000000 <;> simp [c]
theorem take_eq {h : LH} {r : Nat} {a b m : Int} (hr : h[r]? = some (.lst [.int a, .int b])) (hm : 0 < m) (hl : m.natAbs.log2 < 9000) :
    L.f__law_take [.ref r, .int m] h = .ok (.int (tkV a b m)) (h.set r (.lst [.int (tkA a m), .int (tkB a b)])) := by
  have i0 : atI [D.int a, D.int b] 0 = some (.int a) := rfl
  have i1 : atI [D.int a, D.int b] 1 = some (.int b) := rfl
  have hlt : r < h.length := lt_of_get hr
  unfold L.f__law_take
  rw [mkF_eq (by rfl)]
  unfold L.b__law_take
  by_cases c : a > 0
  · simp [ev_seq, dIx_ref hr i0, dGt_int, c, dInt_int, dMod_int hm, dDiv_int hm hl, setL_ref hr (show ixN [D.int a, D.int b].length 0 = some 0 from rfl), tkV, tkA, tkB]
  · have m1 : dMul (.int b) (.int 48271) h = .ok (.int (b * 48271)) h := dMul_int (mulOk_r (by decide))
    have hr2 : (h.set r (.lst [.int a, .int ((b * 48271 + 69621) % 2147483647)]))[r]? = some (.lst [.int a, .int ((b * 48271 + 69621) % 2147483647)]) := List.getElem?_set_self hlt
    have hc0 : 0 ≤ (b * 48271 + 69621) % 2147483647 := Int.emod_nonneg _ (by decide)
    have hc1 : (b * 48271 + 69621) % 2147483647 < 2147483647 := Int.emod_lt_of_pos _ (by decide)
    simp [ev_seq, dIx_ref hr i0, dIx_ref hr i1, dGt_int, c, dInt_int, m1, dAdd_int, dMod_int (show (0 : Int) < 2147483647 by decide), setL_ref hr (show ixN [D.int a, D.int b].length 1 = some 1 from rfl)]
    generalize hz : (b * 48271 + 69621) % 2147483647 = z at *
    have j1 : atI [D.int a, D.int z] 1 = some (.int z) := rfl
    have m2 : ∀ g, dMul (.int z) (.int z) g = .ok (.int (z * z)) g := fun g => dMul_int (mulOk_r (by omega))
    simp [dIx_ref hr2 j1, m2, dDiv_int (show (0 : Int) < 1009 by decide) (by decide +kernel), dDiv_int (show (0 : Int) < 7 by decide) (by decide +kernel), dAdd_int, dInt_int, dMod_int hm, tkV, tkA, tkB, c, hz]

theorem tkV_mem {a b m : Int} (hm : 0 < m) : 0 ≤ tkV a b m ∧ tkV a b m < m := by
  unfold tkV
  split
  · exact ⟨Int.emod_nonneg _ (by omega), Int.emod_lt_of_pos _ hm⟩
  · exact ⟨Int.emod_nonneg _ (by omega), Int.emod_lt_of_pos _ hm⟩
/-! ### frames: a stream at r may have turned, all else stands, new objects came -/
def StrAt (h : LH) (r : Nat) : Prop := ∃ a b, h[r]? = some (.lst [.int a, .int b])
structure SF (r : Nat) (h h' : LH) : Prop where
  le : h.length ≤ h'.length
  keep : ∀ i, i < h.length → i ≠ r → h'[i]? = h[i]?
  st : StrAt h' r
theorem SF.trans {r : Nat} {h h1 h2 : LH} (a : SF r h h1) (b : SF r h1 h2) : SF r h h2 :=
  ⟨Nat.le_trans a.le b.le, fun i hi hr => (b.keep i (Nat.lt_of_lt_of_le hi a.le) hr).trans (a.keep i hi hr), b.st⟩
theorem SF.refl {r : Nat} {h : LH} (s : StrAt h r) : SF r h h := ⟨Nat.le_refl _, fun _ _ _ => rfl, s⟩
theorem SF.push {r : Nat} {h : LH} {o : LO} (s : StrAt h r) : SF r h (h ++ [o]) := by
  obtain ⟨a, b, e⟩ := s
  refine ⟨by simp, fun i hi _ => List.getElem?_append_left hi, a, b, ?_⟩
  rw [List.getElem?_append_left (lt_of_get e)]
  exact e
theorem SF.get {r i : Nat} {h h' : LH} {o : LO} (s : SF r h h') (hr : i ≠ r) (e : h[i]? = some o) : h'[i]? = some o := (s.keep i (lt_of_get e) hr).trans e
theorem take_ok {h : LH} {r : Nat} {m : Int} (s : StrAt h r) (hm : 0 < m) (hl : m < 4611686018427387904) :
    ∃ v h', L.f__law_take [.ref r, .int m] h = .ok (.int v) h' ∧ 0 ≤ v ∧ v < m ∧ SF r h h' ∧ h'.length = h.length := by
  obtain ⟨a, b, e⟩ := s
  have hlog : m.natAbs.log2 < 9000 := Nat.lt_trans (PySem.Flt.log2_lt_of (k := 62) (by decide) (by omega)) (by decide)
  refine ⟨_, _, take_eq e hm hlog, (tkV_mem hm).1, (tkV_mem hm).2, ⟨by simp, fun i hi hr => by rw [List.getElem?_set_ne (Ne.symm hr)], _, _, List.getElem?_set_self (lt_of_get e)⟩, by simp⟩
/-! ### loops -/
theorem loopF_gen {g : IT} {t : TN} {body : MS} {N : Nat} (it : Nat → D) (I : Nat → EN → LH → Prop) (R : RSt → Prop)
    (hg : ∀ j e h, j ≤ N → I j e h → g h j = some (if j < N then some (it j) else none))
    (step : ∀ j e h, j < N → I j e h → ∃ e1, tnSet t (it j) e = some e1 ∧ match body e1 h with
      | .next e2 h2 => I (j + 1) e2 h2
      | .cnt e2 h2 => I (j + 1) e2 h2
      | .brk e2 h2 => R (.next e2 h2)
      | .ret x h2 => R (.ret x h2)
      | .exc x e2 h2 => R (.exc x e2 h2)
      | .bad => False)
    (fin : ∀ e h, I N e h → R (.next e h)) : ∀ n j e h, j + n = N → I j e h → R (loopF g t body n j e h) := by
  intro n
  induction n with
  | zero =>
    intro j e h hj hi
    have e0 := hg j e h (by omega) hi
    rw [if_neg (by omega)] at e0
    unfold loopF
    rw [e0]
    have : j = N := by omega
    subst this
    exact fin e h hi
  | succ n ih =>
    intro j e h hj hi
    have e0 := hg j e h (by omega) hi
    rw [if_pos (by omega)] at e0
    obtain ⟨e1, et, hb⟩ := step j e h (by omega) hi
    unfold loopF
    rw [e0]
    simp only [et]
    cases eb : body e1 h with
    | next e2 h2 => rw [eb] at hb; exact ih (j + 1) e2 h2 (by omega) hb
    | cnt e2 h2 => rw [eb] at hb; exact ih (j + 1) e2 h2 (by omega) hb
    | brk e2 h2 => rw [eb] at hb; exact hb
    | ret x h2 => rw [eb] at hb; exact hb
    | exc x e2 h2 => rw [eb] at hb; exact hb
    | bad => rw [eb] at hb; exact hb.elim
theorem loopC_gen {g : IT} {t : TN} {c : M Bool} {y : M D} {e : EN} {k N : Nat} (it : Nat → D) (I : Nat → List D → LH → Prop)
    (hg : ∀ j acc h, j ≤ N → I j acc h → g h j = some (if j < N then some (it j) else none))
    (hk : ∀ j acc h, j ≤ N → I j acc h → h[k]? = some (.lst acc))
    (step : ∀ j acc h, j < N → I j acc h → ∃ e1, tnSet t (it j) e = some e1 ∧ ((∃ h2, c e1 h = .ok false h2 ∧ I (j + 1) acc h2) ∨
      ∃ h2 x h3 acc2, c e1 h = .ok true h2 ∧ y e1 h2 = .ok x h3 ∧ h3[k]? = some (.lst acc2) ∧ acc2.length < 16777216 ∧ I (j + 1) (acc2 ++ [x]) (h3.set k (.lst (acc2 ++ [x]))))) :
    ∀ n j acc h, j + n = N → I j acc h → ∃ acc' h', loopC g t c y e k n j h = .ok (.ref k) h' ∧ I N acc' h' := by
  intro n
  induction n with
  | zero =>
    intro j acc h hj hi
    have e0 := hg j acc h (by omega) hi
    rw [if_neg (by omega)] at e0
    unfold loopC
    rw [e0]
    have : j = N := by omega
    subst this
    exact ⟨acc, h, rfl, hi⟩
  | succ n ih =>
    intro j acc h hj hi
    have e0 := hg j acc h (by omega) hi
    rw [if_pos (by omega)] at e0
    obtain ⟨e1, et, hb⟩ := step j acc h (by omega) hi
    unfold loopC
    rw [e0]
    simp only [et]
    rcases hb with ⟨h2, ec, hi2⟩ | ⟨h2, x, h3, acc2, ec, ey, ek, hl, hi2⟩
    · simp only [ec]
      exact ih (j + 1) acc h2 (by omega) hi2
    · simp only [ec, ey, ek, if_pos hl]
      exact ih (j + 1) _ _ (by omega) hi2
def itN (N : Nat) : IT := fun _ j => some (if j < N then some (.int j) else none)
theorem ev_rng1 {a : M (List D)} {e : EN} {h : LH} : iRng1M a e h = (a e h).bind fun d h1 => match d with
  | [.int n] => if -(2 ^ 62) ≤ n ∧ n < 2 ^ 62 then .ok (itN n.toNat, n.toNat) h1 else .bad
  | _ => .bad := rfl
/-! ### the characters of a law -/
def LC (c : Nat) : Prop := 32 ≤ c ∧ c ≤ 126 ∧ c ≠ 37
def lcN (k : Nat) : Nat := if k < 5 then k + 32 else k + 33
theorem lc_all : (Str.ofString " !\"#$&'()*+,-./0123456789:;<=>?@ABCDEFGHIJKLMNOPQRSTUVWXYZ[\\]^_`").cps.toList ++ (Str.ofString "abcdefghijklmnopqrstuvwxyz{|}~").cps.toList = (List.range 94).map lcN := by decide +kernel
theorem char_eq {k : Int} {h : LH} (h0 : 0 ≤ k) (h1 : k < 94) : L.f__law_char [.int k] h = .ok (.str [lcN k.toNat]) h := by
  unfold L.f__law_char
  rw [mkF_eq (by rfl)]
  unfold L.b__law_char
  have ea : ∀ g, dAdd (S " !\"#$&'()*+,-./0123456789:;<=>?@ABCDEFGHIJKLMNOPQRSTUVWXYZ[\\]^_`") (S "abcdefghijklmnopqrstuvwxyz{|}~") g = .ok (.str ((List.range 94).map lcN)) g := fun g => by
    have := dAdd_str (a := (Str.ofString " !\"#$&'()*+,-./0123456789:;<=>?@ABCDEFGHIJKLMNOPQRSTUVWXYZ[\\]^_`").cps.toList) (b := (Str.ofString "abcdefghijklmnopqrstuvwxyz{|}~").cps.toList) (h := g) (by decide +kernel)
    rw [lc_all] at this
    exact this
  have ei : atI ((List.range 94).map lcN) k = some (lcN k.toNat) := atI_of h0 (by
    rw [List.getElem?_map, List.getElem?_range (by omega)]; rfl)
  simp [ev_seq, ea, dIx_str (show ((List.range 94).map lcN).length ≤ 16777216 by simp) ei]
theorem lc_mem {k : Nat} (h : k < 94) : LC (lcN k) := by
  unfold lcN LC
  split <;> omega
theorem joinL_nil (l : List (List Nat)) : TL.joinL [] l = l.flatten := by
  induction l with
  | nil => rfl
  | cons a l ih =>
    cases l with
    | nil => simp [TL.joinL]
    | cons b l => simp [TL.joinL] at ih ⊢; exact ih
theorem strsD_map (l : List (List Nat)) : strsD (l.map D.str) = some l := by
  induction l with
  | nil => rfl
  | cons a l ih =>
    show (strsD (l.map D.str)).map _ = _
    rw [ih]
    rfl
theorem dJoin_ref {h : LH} {a : List Nat} {r : Nat} {ss : List (List Nat)} (hr : h[r]? = some (.lst (ss.map D.str))) (hl : (ss.map (·.length)).sum + ss.length * a.length ≤ 16777216) : dJoin (.str a) [.ref r] h = .ok (.str (TL.joinL a ss)) h := by
  have e : seqD (.ref r) h = some (ss.map D.str) := by
    show (match h[r]? with
      | some (.lst xs) => some xs
      | _ => none) = _
    rw [hr]
  unfold dJoin
  simp only [e, strsD_map, if_pos hl]
theorem S_nil : S "" = .str [] := by
  rw [S_eq]
  rfl
theorem sum_one (l : List Nat) : ((l.map fun c => [c]).map (fun x : List Nat => x.length)).sum = l.length := by
  induction l with
  | nil => rfl
  | cons a l ih =>
    simp only [List.map_cons, List.sum_cons, List.length_cons, List.length_nil]
    rw [ih]
    omega
theorem flat_one (l : List Nat) : (l.map fun c => [c]).flatten = l := by
  induction l with
  | nil => rfl
  | cons a l ih => simp at ih ⊢; exact ih
/-- "".join of one-sign texts -/
theorem join_chars {h : LH} {r : Nat} {s : List Nat} (hr : h[r]? = some (.lst (s.map fun c => D.str [c]))) (hl : s.length ≤ 16777216) : dJoin (S "") [.ref r] h = .ok (.str s) h := by
  have e0 := S_nil
  rw [e0]
  have := dJoin_ref (h := h) (a := []) (r := r) (ss := s.map fun c => [c]) (by rw [hr, List.map_map]; rfl) (by rw [sum_one]; simpa using hl)
  rw [this, joinL_nil, flat_one]
theorem string_ok {h : LH} {r : Nat} {most : Int} (s : StrAt h r) (hm : 0 ≤ most) (hl : most ≤ 1000000) :
    ∃ z h', L.f__law_string [.ref r, .int most] h = .ok (.str z) h' ∧ (z.length : Int) ≤ most ∧ (∀ c ∈ z, LC c) ∧ SF r h h' := by
  obtain ⟨v, h1, e1, v0, v1, F1, l1⟩ := take_ok (m := most + 1) s (by omega) (by omega)
  have hloop := loopC_gen (g := itN v.toNat) (t := .nm 3) (c := mYes) (y := mApp L.f__law_char (mCons (mApp L.f__law_take (mCons (mVar 0) (mCons (mC (.int 94)) mNil))) mNil)) (e := [some (.ref r), some (.int most), some (.int v), none]) (k := h1.length) (N := v.toNat) (fun j => .int j)
    (fun j acc g => SF r h1 g ∧ g[h1.length]? = some (.lst acc) ∧ acc.length = j ∧ ∃ z : List Nat, acc = z.map (fun c => D.str [c]) ∧ ∀ c ∈ z, LC c)
    (fun j acc g hj hi => rfl) (fun j acc g hj hi => hi.2.1) (by
      rintro j acc g hj ⟨F, ek, el, z, rfl, hz⟩
      refine ⟨_, rfl, .inr ?_⟩
      obtain ⟨u, g2, eu, u0, u1, F2, l2⟩ := take_ok (m := 94) F.st (by decide) (by decide)
      have hne : h1.length ≠ r := by
        obtain ⟨a, b, e⟩ := F1.st
        have := lt_of_get e
        omega
      have ek2 := F2.get hne ek
      refine ⟨g, .str [lcN u.toNat], g2, z.map (fun c => D.str [c]), rfl, ?_, ek2, by omega, ?_, ?_, by simp at el ⊢; exact el, z ++ [lcN u.toNat], by simp, ?_⟩
      · simp [eu, char_eq u0 u1]
      · have F3 := F.trans F2
        obtain ⟨a, b, e⟩ := F3.st
        refine ⟨by simpa using F3.le, fun i hi hr => ?_, a, b, ?_⟩
        · rw [List.getElem?_set_ne (by omega)]; exact F3.keep i hi hr
        · rw [List.getElem?_set_ne hne]; exact e
      · rw [List.getElem?_set_self (lt_of_get ek2)]
      · intro c hc
        rcases List.mem_append.mp hc with hc | hc
        · exact hz c hc
        · rw [List.mem_singleton.mp hc]; exact lc_mem (by omega)) v.toNat 0 [] (h1 ++ [.lst []]) (by omega) ⟨SF.push F1.st, by simp, rfl, [], rfl, by simp⟩
  obtain ⟨acc, h2, e2, F2, ek, el, z, rfl, hz⟩ := hloop
  have hzl : z.length = v.toNat := by simpa using el
  refine ⟨z, h2, ?_, by omega, hz, F1.trans F2⟩
  unfold L.f__law_string
  rw [mkF_eq (by rfl)]
  unfold L.b__law_string
  have e0 := S_nil
  have ej := join_chars (s := z) ek (by omega)
  rw [e0] at ej
  simp [ev_seq, dAdd_int, e1, ev_rng1, show -4611686018427387904 ≤ v ∧ v < 4611686018427387904 from ⟨by omega, by omega⟩, wipeM, e2, e0, isStr, ej]
end HM
set_option Elab.async false
set_option linter.all false
set_option maxRecDepth 100000
set_option maxHeartbeats 4000000
namespace HM
open PySem L2
/-! ### is_printable, is_integer, says -/
def okC (c : Nat) : Bool := decide (32 ≤ c) && decide (c ≤ 126) && decide (c ≠ 37)
def allC (s : List Nat) : Bool := s.all okC
theorem allC_snoc {s : List Nat} {c : Nat} (h : allC s = true) (hc : okC c = true) : allC (s ++ [c]) = true := by
  unfold allC at *
  rw [List.all_append, h]
  simp [hc]
theorem allC_not {s : List Nat} {c : Nat} (h : c ∈ s) (hc : ¬ okC c = true) : ¬ allC s = true := fun z => hc (List.all_eq_true.mp z c h)
def isPr : D → Bool
  | .str s => allC s
  | _ => false
theorem okC_iff {c : Nat} : okC c = true ↔ LC c := by
  unfold okC LC
  simp [and_assoc]
theorem itL_get {xs : List D} {h : LH} {j : Nat} {d : D} (hd : xs[j]? = some d) : itL xs h j = some (some d) := by
  show some xs[j]? = _
  rw [hd]
/-- a loop over written items -/
theorem loopF_list {t : TN} {body : MS} {xs : List D} (I : Nat → EN → LH → Prop) (R : RSt → Prop)
    (step : ∀ j d e h, xs[j]? = some d → I j e h → ∃ e1, tnSet t d e = some e1 ∧ match body e1 h with
      | .next e2 h2 => I (j + 1) e2 h2
      | .cnt e2 h2 => I (j + 1) e2 h2
      | .brk e2 h2 => R (.next e2 h2)
      | .ret x h2 => R (.ret x h2)
      | .exc x e2 h2 => R (.exc x e2 h2)
      | .bad => False)
    (fin : ∀ e h, I xs.length e h → R (.next e h)) {e : EN} {h : LH} (h0 : I 0 e h) : R (loopF (itL xs) t body xs.length 0 e h) := by
  refine loopF_gen (N := xs.length) (fun j => xs.getD j .non) I R (fun j e h hj hi => ?_) (fun j e h hj hi => ?_) fin xs.length 0 e h (by omega) h0
  · unfold itL
    by_cases c : j < xs.length
    · rw [if_pos c, List.getD_eq_getElem?_getD, List.getElem?_eq_getElem c]; rfl
    · rw [if_neg c, List.getElem?_eq_none (by omega)]
  · have e1 : xs[j]? = some (xs.getD j .non) := by rw [List.getD_eq_getElem?_getD, List.getElem?_eq_getElem hj]; rfl
    exact step j _ e h e1 hi
theorem printable_eq {d : D} {h : LH} {t : BT} (ht : tyD d h = some t) : L.f_is_printable [d] h = .ok (.bl (isPr d)) h := by
  unfold L.f_is_printable
  rw [mkF_eq (by rfl)]
  unfold L.b_is_printable
  cases d with
  | str s =>
    have key := loopF_list (t := .nm 1) (body := (sSeq (sSet 2 (mApp dOrd (mCons (mVar 1) mNil)))
        (sIf (mTOr (mTst (mOp dLt (mVar 2) (mC (.int 32)))) (mTOr (mTst (mOp dGt (mVar 2) (mC (.int 126)))) (mTst (mOp dEq (mVar 2) (mC (.int 37)))))) (sRet (mC (.bl false))) sNil))) (xs := s.map fun c => D.str [c])
      (fun j e g => g = h ∧ (∃ a b c, e = [a, b, c]) ∧ allC (s.take j) = true) (fun r => if allC s = true then ∃ e', r = .next e' h else r = .ret (.bl false) h)
      (fun j d e g hd => by
        rintro ⟨rfl, ⟨a, b, c, rfl⟩, hall⟩
        rw [List.getElem?_map] at hd
        cases es : s[j]? with
        | none => rw [es] at hd; cases hd
        | some ch =>
          rw [es] at hd
          cases hd
          refine ⟨_, rfl, ?_⟩
          have hj := lt_of_get es
          have et : s.take (j + 1) = s.take j ++ [ch] := by
            rw [List.take_succ, es]; rfl
          have hmem : ch ∈ s := List.mem_of_getElem? es
          simp [ev_seq, dOrd_chr, dLt_int, dGt_int, dEq_int]
          by_cases c1 : okC ch = true
          · have := okC_iff.mp c1
            unfold LC at this
            simp [show ¬ (ch : Int) < 32 by omega, show ¬ (126 : Int) < ch by omega, show ¬ (ch : Int) = 37 by omega]
            rw [et]
            exact allC_snoc hall c1
          · have hn := allC_not hmem c1
            have hl : ¬ LC ch := fun z => c1 (okC_iff.mpr z)
            unfold LC at hl
            have hn' : allC s = false := by simpa using hn
            by_cases q1 : (ch : Int) < 32
            · simp [q1, hn']
            · by_cases q2 : (126 : Int) < ch
              · simp [q1, q2, hn']
              · have q3 : (ch : Int) = 37 := by omega
                simp [q1, q2, q3, hn'])
      (fun e g ⟨hg, _, hall⟩ => by
        subst hg
        rw [List.length_map, List.take_length] at hall
        rw [if_pos hall]
        exact ⟨e, rfl⟩) (e := [some (.str s), none, none]) (h := h) ⟨rfl, ⟨_, _, _, rfl⟩, rfl⟩
    rw [List.length_map] at key
    simp [ev_seq, tyD, isB, truD]
    by_cases c : allC s = true
    · rw [if_pos c] at key
      obtain ⟨e', ee⟩ := key
      simp [ee, isPr, c]
    · rw [if_neg c] at key
      simp [key, isPr, c]
  | _ =>
    simp only [List.map_cons, List.map_nil, List.length_cons, List.length_nil, ev_seq, ev_if, ev_tNot, ev_tru, ev_isI, ev_var]
    simp [ht]
    have hne : t ≠ .str := by
      rintro rfl
      first
        | (simp [tyD] at ht; done)
        | (simp only [tyD] at ht; split at ht <;> simp at ht)
    cases t <;> simp [isB, truD, isPr] at hne ⊢
theorem integer_eq {i lo hi : Int} {h : LH} : L.f_is_integer [.int i, .int lo, .int hi] h = .ok (.bl (decide (lo ≤ i ∧ i ≤ hi))) h := by
  unfold L.f_is_integer
  rw [mkF_eq (by rfl)]
  unfold L.b_is_integer
  simp [ev_seq, tyD, isB, truD, dLe_int]
  by_cases c : lo ≤ i <;> simp [c]
theorem integer_no {d : D} {lo hi : D} {h : LH} {t : BT} (ht : tyD d h = some t) (hn : t ≠ .int) : L.f_is_integer [d, lo, hi] h = .ok (.bl false) h := by
  unfold L.f_is_integer
  rw [mkF_eq (by rfl)]
  unfold L.b_is_integer
  simp [ev_seq, ht]
  cases t <;> simp [isB, truD, ht] at hn ⊢
theorem says_eq {a b : Bool} {h : LH} : L.f__law_says [.bl a, .bl b] h = .ok (.bl (decide (a = b))) h := by
  unfold L.f__law_says
  rw [mkF_eq (by rfl)]
  unfold L.b__law_says
  simp [tyD, isB, dEq_bl]
end HM
set_option Elab.async false
set_option linter.all false
set_option maxRecDepth 100000
set_option maxHeartbeats 4000000
namespace HM
open PySem L2
theorem itO_get {h : LH} {r j : Nat} {xs : List D} (hr : h[r]? = some (.lst xs)) : itO r h j = some xs[j]? := by
  unfold itO
  rw [hr]
theorem loopF_obj {t : TN} {body : MS} {r : Nat} {xs : List D} (I : Nat → EN → LH → Prop) (R : RSt → Prop)
    (hr : ∀ j e h, I j e h → h[r]? = some (.lst xs))
    (step : ∀ j d e h, xs[j]? = some d → I j e h → ∃ e1, tnSet t d e = some e1 ∧ match body e1 h with
      | .next e2 h2 => I (j + 1) e2 h2
      | .cnt e2 h2 => I (j + 1) e2 h2
      | .brk e2 h2 => R (.next e2 h2)
      | .ret x h2 => R (.ret x h2)
      | .exc x e2 h2 => R (.exc x e2 h2)
      | .bad => False)
    (fin : ∀ e h, I xs.length e h → R (.next e h)) {e : EN} {h : LH} (h0 : I 0 e h) : R (loopF (itO r) t body xs.length 0 e h) := by
  refine loopF_gen (N := xs.length) (fun j => xs.getD j .non) I R (fun j e h hj hi => ?_) (fun j e h hj hi => ?_) fin xs.length 0 e h (by omega) h0
  · rw [itO_get (hr j e h hi)]
    by_cases c : j < xs.length
    · rw [if_pos c, List.getD_eq_getElem?_getD, List.getElem?_eq_getElem c]; rfl
    · rw [if_neg c, List.getElem?_eq_none (by omega)]
  · have e1 : xs[j]? = some (xs.getD j .non) := by rw [List.getD_eq_getElem?_getD, List.getElem?_eq_getElem hj]; rfl
    exact step j _ e h e1 hi
/-- a loop over a list whose every turn goes on and leaves the heap -/
theorem loopF_all {t : TN} {body : MS} {r : Nat} {xs : List D} {h : LH} (Inv : EN → Prop) (hr : h[r]? = some (.lst xs))
    (step : ∀ d e, d ∈ xs → Inv e → ∃ e1 e2, tnSet t d e = some e1 ∧ body e1 h = .next e2 h ∧ Inv e2) {e : EN} (h0 : Inv e) : ∃ e', loopF (itO r) t body xs.length 0 e h = .next e' h ∧ Inv e' := by
  refine loopF_obj (fun _ e g => g = h ∧ Inv e) (fun r => ∃ e', r = .next e' h ∧ Inv e') (fun j e g ⟨q, _⟩ => by rw [q]; exact hr) (fun j d e g hd ⟨q, i⟩ => ?_) (fun e g ⟨q, i⟩ => ⟨e, by rw [q], i⟩) ⟨rfl, h0⟩
  subst q
  obtain ⟨e1, e2, a, b, c⟩ := step d e (List.mem_of_getElem? hd) i
  exact ⟨e1, a, by rw [b]; exact ⟨rfl, c⟩⟩
theorem set_self {e : EN} {i : Nat} (h : i < e.length) : e = e.set i (e.getD i none) := by
  rw [List.getD_eq_getElem?_getD, List.getElem?_eq_getElem h]
  simp
/-- a loop that stores its own name alone, whose every turn goes on and leaves the heap -/
theorem loopF_each {body : MS} {r i : Nat} {xs : List D} {h : LH} {e : EN} (hr : h[r]? = some (.lst xs)) (hi : i < e.length)
    (step : ∀ d, d ∈ xs → body (e.set i (some d)) h = .next (e.set i (some d)) h) : ∃ v, loopF (itO r) (.nm i) body xs.length 0 e h = .next (e.set i v) h := by
  obtain ⟨e', a, v, rfl⟩ := loopF_all (t := .nm i) (body := body) (fun e' => ∃ v, e' = e.set i v) hr (by
    rintro d e1 hd ⟨v, rfl⟩
    refine ⟨e.set i (some d), e.set i (some d), ?_, step d hd, _, rfl⟩
    show some ((e.set i v).set i (some d)) = _
    rw [List.set_set]) (e := e) ⟨_, set_self hi⟩
  exact ⟨v, a⟩
theorem loopL_each {body : MS} {i : Nat} {xs : List D} {h : LH} {e : EN} (hi : i < e.length)
    (step : ∀ d, d ∈ xs → body (e.set i (some d)) h = .next (e.set i (some d)) h) : ∃ v, loopF (itL xs) (.nm i) body xs.length 0 e h = .next (e.set i v) h := by
  refine loopF_list (fun _ e' g => g = h ∧ ∃ v, e' = e.set i v) (fun r => ∃ v, r = .next (e.set i v) h) (fun j d e1 g hd ⟨q, v, ev⟩ => ?_) (fun e1 g ⟨q, v, ev⟩ => ⟨v, by rw [q, ev]⟩) ⟨rfl, _, set_self hi⟩
  subst q ev
  refine ⟨e.set i (some d), ?_, ?_⟩
  · show some ((e.set i v).set i (some d)) = _
    rw [List.set_set]
  · rw [step d (List.mem_of_getElem? hd)]
    exact ⟨rfl, _, rfl⟩
theorem ix_disp {h : LH} {xs : List D} {i : Int} {x : D} (hx : atI xs i = some x) : dIx (.ref h.length) (.int i) (h ++ [.lst xs]) = .ok x (h ++ [.lst xs]) := dIx_ref (by simp) hx
theorem dSl_str {s : List Nat} {lo hi : Option Int} {h : LH} (hl : s.length ≤ 16777216) : dSl (.str s) lo hi h = .ok (.str (cutD s lo hi)) h := by
  show (if s.length ≤ 16777216 then Res.ok (D.str (cutD s lo hi)) h else .bad) = _
  rw [if_pos hl]
theorem cut_to {α : Type} {s : List α} {p : Int} (h0 : 0 ≤ p) : cutD s none (some p) = s.take p.toNat := by
  unfold cutD
  have e0 : HT.sIx s.length 0 none = 0 := rfl
  have e1 : HT.sIx s.length s.length (some p) = min p.toNat s.length := by
    show (if p < 0 then (p + (s.length : Int)).toNat else min p.toNat s.length) = _
    rw [if_neg (by omega)]
  rw [e0, e1, List.drop_zero, Nat.sub_zero]
  rcases Nat.le_total p.toNat s.length with c | c
  · rw [Nat.min_eq_left c]
  · rw [Nat.min_eq_right c, List.take_length, List.take_of_length_le c]
theorem cut_from {α : Type} {s : List α} {p : Int} (h0 : 0 ≤ p) : cutD s (some p) none = s.drop p.toNat := by
  unfold cutD
  have e0 : HT.sIx s.length s.length none = s.length := rfl
  have e1 : HT.sIx s.length 0 (some p) = min p.toNat s.length := by
    show (if p < 0 then (p + (s.length : Int)).toNat else min p.toNat s.length) = _
    rw [if_neg (by omega)]
  rw [e0, e1]
  rcases Nat.le_total p.toNat s.length with c | c
  · rw [Nat.min_eq_left c, List.take_of_length_le (by rw [List.length_drop]; exact Nat.le_refl _)]
  · rw [Nat.min_eq_right c, List.drop_of_length_le (Nat.le_refl _), List.drop_of_length_le c]; simp
theorem cut_both {α : Type} {s : List α} {p q : Int} (h0 : 0 ≤ p) (h1 : 0 ≤ q) : cutD s (some p) (some q) = (s.drop p.toNat).take (q.toNat - p.toNat) := by
  unfold cutD
  have e0 : HT.sIx s.length 0 (some p) = min p.toNat s.length := by
    show (if p < 0 then (p + (s.length : Int)).toNat else min p.toNat s.length) = _
    rw [if_neg (by omega)]
  have e1 : HT.sIx s.length s.length (some q) = min q.toNat s.length := by
    show (if q < 0 then (q + (s.length : Int)).toNat else min q.toNat s.length) = _
    rw [if_neg (by omega)]
  rw [e0, e1]
  rcases Nat.le_total p.toNat s.length with c | c
  · rw [Nat.min_eq_left c]
    rcases Nat.le_total q.toNat s.length with c2 | c2
    · rw [Nat.min_eq_left c2]
    · rw [Nat.min_eq_right c2]
      rw [List.take_of_length_le (by rw [List.length_drop]; exact Nat.le_refl _), List.take_of_length_le (by rw [List.length_drop]; omega)]
  · rw [Nat.min_eq_right c, List.drop_of_length_le (Nat.le_refl _), List.drop_of_length_le c]; simp
theorem cell_ok (ns : List Int) {k : Int} (h0 : 0 ≤ k) : ∃ c, ∀ h, L.f__law_cell [.scr ns, .int k] h = .ok (.int c) h := ⟨_, fun _ => cell_eq h0⟩
theorem start_ok (ns : List Int) : ∃ c h0, L.f__law_cell [.scr ns, .int 0] [] = .ok (.int c) [] ∧ L.f__law_stream [.int c] [] = .ok (.ref 0) h0 ∧ StrAt h0 0 ∧ h0.length = 1 := by
  refine ⟨_, _, cell_eq (by decide), stream_eq, ?_, by simp⟩
  unfold StrAt
  split
  · exact ⟨_, _, rfl⟩
  · exact ⟨_, _, rfl⟩
end HM
set_option Elab.async false
set_option linter.all false
set_option maxRecDepth 100000
set_option maxHeartbeats 4000000
namespace HM
open PySem L2
/-! ### texts walked sign by sign; drawn texts; made_of -/
/-- a loop over items that leaves at the first one that fails -/
theorem loopF_test {body : MS} {i : Nat} {xs : List D} {h : LH} {e : EN} (p : D → Bool) (hi : i < e.length)
    (step : ∀ d, d ∈ xs → body (e.set i (some d)) h = if p d then .next (e.set i (some d)) h else .ret (.bl false) h) :
    (if xs.all p then ∃ v, loopF (itL xs) (.nm i) body xs.length 0 e h = .next (e.set i v) h else loopF (itL xs) (.nm i) body xs.length 0 e h = .ret (.bl false) h) := by
  refine loopF_list (fun j e' g => g = h ∧ (∃ v, e' = e.set i v) ∧ (xs.take j).all p = true) (fun r => if xs.all p then ∃ v, r = .next (e.set i v) h else r = .ret (.bl false) h) (fun j d e1 g hd ⟨q, ⟨v, ev⟩, ha⟩ => ?_) (fun e1 g ⟨q, ⟨v, ev⟩, ha⟩ => ?_) ⟨rfl, ⟨_, set_self hi⟩, by simp⟩
  · subst q ev
    refine ⟨e.set i (some d), ?_, ?_⟩
    · show some ((e.set i v).set i (some d)) = _
      rw [List.set_set]
    · rw [step d (List.mem_of_getElem? hd)]
      by_cases c : p d = true
      · rw [if_pos c]
        refine ⟨rfl, ⟨_, rfl⟩, ?_⟩
        rw [List.take_succ, hd]
        simp [ha, c]
      · rw [if_neg c]
        have : ¬ xs.all p = true := fun z => c (List.all_eq_true.mp z d (List.mem_of_getElem? hd))
        dsimp only; rw [if_neg this]
  · subst q ev
    rw [List.take_length] at ha
    rw [if_pos ha]
    exact ⟨v, rfl⟩
theorem loopO_test {body : MS} {i r : Nat} {xs : List D} {h : LH} {e : EN} (p : D → Bool) (hr : h[r]? = some (.lst xs)) (hi : i < e.length)
    (step : ∀ d, d ∈ xs → body (e.set i (some d)) h = if p d then .next (e.set i (some d)) h else .ret (.bl false) h) :
    (if xs.all p then ∃ v, loopF (itO r) (.nm i) body xs.length 0 e h = .next (e.set i v) h else loopF (itO r) (.nm i) body xs.length 0 e h = .ret (.bl false) h) := by
  refine loopF_obj (fun j e' g => g = h ∧ (∃ v, e' = e.set i v) ∧ (xs.take j).all p = true) (fun r => if xs.all p then ∃ v, r = .next (e.set i v) h else r = .ret (.bl false) h) (fun j e g ⟨q, _⟩ => by rw [q]; exact hr) (fun j d e1 g hd ⟨q, ⟨v, ev⟩, ha⟩ => ?_) (fun e1 g ⟨q, ⟨v, ev⟩, ha⟩ => ?_) ⟨rfl, ⟨_, set_self hi⟩, by simp⟩
  · subst q ev
    refine ⟨e.set i (some d), ?_, ?_⟩
    · show some ((e.set i v).set i (some d)) = _
      rw [List.set_set]
    · rw [step d (List.mem_of_getElem? hd)]
      by_cases c : p d = true
      · rw [if_pos c]
        refine ⟨rfl, ⟨_, rfl⟩, ?_⟩
        rw [List.take_succ, hd]
        simp [ha, c]
      · rw [if_neg c]
        have : ¬ xs.all p = true := fun z => c (List.all_eq_true.mp z d (List.mem_of_getElem? hd))
        dsimp only; rw [if_neg this]
  · subst q ev
    rw [List.take_length] at ha
    rw [if_pos ha]
    exact ⟨v, rfl⟩
theorem loopS_test {body : MS} {i : Nat} {s : List Nat} {h : LH} {e : EN} (p : Nat → Bool) (hi : i < e.length)
    (step : ∀ c, c ∈ s → body (e.set i (some (.str [c]))) h = if p c then .next (e.set i (some (.str [c]))) h else .ret (.bl false) h) :
    (if s.all p then ∃ v, loopF (itL (s.map fun c => D.str [c])) (.nm i) body s.length 0 e h = .next (e.set i v) h else loopF (itL (s.map fun c => D.str [c])) (.nm i) body s.length 0 e h = .ret (.bl false) h) := by
  have key := loopF_test (body := body) (i := i) (xs := s.map fun c => D.str [c]) (h := h) (e := e) (fun d => match d with | .str [c] => p c | _ => false) hi (by
    intro d hd
    obtain ⟨c, hc, rfl⟩ := List.mem_map.mp hd
    exact step c hc)
  rw [List.length_map, List.all_map] at key
  exact key
/-- draws joined to a text -/
theorem joinR_ok {h : LH} {r i n : Nat} {e : EN} {y : M D} {P : Nat → Prop} (s : StrAt h r) (hn : n ≤ 16777216)
    (hy : ∀ g j, SF r h g → j < n → ∃ c g2, y (e.set i (some (.int (j : Nat)))) g = .ok (.str [c]) g2 ∧ P c ∧ SF r g g2) :
    ∃ z h', loopC (itN n) (.nm i) mYes y e h.length n 0 (h ++ [.lst []]) = .ok (.ref h.length) h' ∧ dJoin (S "") [.ref h.length] h' = .ok (.str z) h' ∧ z.length = n ∧ (∀ c ∈ z, P c) ∧ SF r h h' := by
  have hne : h.length ≠ r := by
    obtain ⟨a, b, e⟩ := s
    have := lt_of_get e
    omega
  have hloop := loopC_gen (g := itN n) (t := .nm i) (c := mYes) (y := y) (e := e) (k := h.length) (N := n) (fun j => .int j)
    (fun j acc g => SF r h g ∧ g[h.length]? = some (.lst acc) ∧ acc.length = j ∧ ∃ z : List Nat, acc = z.map (fun c => D.str [c]) ∧ ∀ c ∈ z, P c)
    (fun j acc g hj hi => rfl) (fun j acc g hj hi => hi.2.1) (by
      rintro j acc g hj ⟨F, ek, el, z, rfl, hz⟩
      refine ⟨_, rfl, .inr ?_⟩
      obtain ⟨c, g2, eu, hc, F2⟩ := hy g j F hj
      have ek2 := F2.get hne ek
      refine ⟨g, .str [c], g2, z.map (fun c => D.str [c]), rfl, eu, ek2, by omega, ?_, ?_, by simp at el ⊢; exact el, z ++ [c], by simp, ?_⟩
      · have F3 := F.trans F2
        obtain ⟨a, b, e⟩ := F3.st
        refine ⟨by simpa using F3.le, fun i hi hr => ?_, a, b, ?_⟩
        · rw [List.getElem?_set_ne (by omega)]; exact F3.keep i hi hr
        · rw [List.getElem?_set_ne hne]; exact e
      · rw [List.getElem?_set_self (lt_of_get ek2)]
      · intro c' hc'
        rcases List.mem_append.mp hc' with hc' | hc'
        · exact hz c' hc'
        · rw [List.mem_singleton.mp hc']; exact hc) n 0 [] (h ++ [.lst []]) (by omega) ⟨SF.push s, by simp, rfl, [], rfl, by simp⟩
  obtain ⟨acc, h2, e2, F2, ek, el, z, rfl, hz⟩ := hloop
  exact ⟨z, h2, e2, join_chars ek (by simp at el; omega), by simpa using el, hz, F2⟩
/-- a sign drawn from a text -/
theorem pick_ok {g : LH} {r : Nat} {cs : List Nat} {m : Int} (s : StrAt g r) (hm : 0 < m) (hl : m ≤ (cs.length : Int)) (hb : cs.length ≤ 16777216) :
    ∃ c v g2, L.f__law_take [.ref r, .int m] g = .ok (.int v) g2 ∧ dIx (.str cs) (.int v) g2 = .ok (.str [c]) g2 ∧ c ∈ cs ∧ SF r g g2 := by
  obtain ⟨v, g2, e, v0, v1, F, _⟩ := take_ok (m := m) s hm (by omega)
  have hv : v.toNat < cs.length := by omega
  exact ⟨cs[v.toNat], v, g2, e, dIx_str hb (atI_of v0 (List.getElem?_eq_getElem hv)), List.getElem_mem hv, F⟩
theorem dNotIn_chr {c : Nat} {z : List Nat} {h : LH} : dNotIn (.str [c]) (.str z) h = .ok (.bl (!decide (c ∈ z))) h := rfl
theorem dIn_chr {c : Nat} {z : List Nat} {h : LH} : dIn (.str [c]) (.str z) h = .ok (.bl (decide (c ∈ z))) h := rfl
def inC (cs : List Nat) (c : Nat) : Bool := decide (c ∈ cs)
theorem made_eq {s cs : List Nat} {h : LH} : L.f_made_of [.str s, .str cs] h = .ok (.bl (s.all (inC cs))) h := by
  unfold L.f_made_of
  rw [mkF_eq (by rfl)]
  unfold L.b_made_of
  have key := loopS_test (body := sIf (mTst (mOp dNotIn (mVar 2) (mVar 1))) (sRet (mC (.bl false))) sNil) (i := 2) (s := s) (h := h) (e := [some (.str s), some (.str cs), none]) (inC cs) (by simp) (by
    intro c hc
    unfold inC
    by_cases q : c ∈ cs <;> simp [dNotIn_chr, q])
  simp only [List.map_cons, List.map_nil, List.length_cons, List.length_nil, ev_seq, ev_for, ev_any, ev_var]
  split at key
  · rename_i q
    obtain ⟨v, ev⟩ := key
    simp [ev, q]
  · rename_i q
    have q' : s.all (inC cs) = false := by simpa using q
    simp [key, q']
theorem all_eq {s cs : List Nat} {h : LH} : L.f__law_all [.str s, .str cs] h = .ok (.bl (s.all (inC cs))) h := made_eq
end HM
set_option Elab.async false
set_option linter.all false
set_option maxRecDepth 100000
set_option maxHeartbeats 4000000
namespace HM
open PySem L2
theorem wseqP {R : RSt → Prop} {a b : MS} {e : EN} {h : LH} (P : EN → LH → Prop) (x : ∃ e1 h1, a e h = .next e1 h1 ∧ P e1 h1) (k : ∀ e1 h1, P e1 h1 → R (b e1 h1)) : R (sSeq a b e h) := by
  obtain ⟨e1, h1, e0, p⟩ := x
  exact wseq e0 (k e1 h1 p)
/-! ### list names and keys -/
def nmC : List Nat := (Str.ofString "abcdefghijklmnopqrstuvwxyz").cps.toList
def dgC : List Nat := (Str.ofString "0123456789").cps.toList
def isLN : D → Bool
  | .str s => decide (1 ≤ s.length) && decide (s.length ≤ 12) && s.all (inC nmC)
  | _ => false
def isKey : D → Bool
  | .str s => decide (2 ≤ s.length) && decide (s.length ≤ 12) && decide (s[0]? = some 107) && (s.drop 1).all (inC dgC)
  | _ => false
theorem S_ofN : S "abcdefghijklmnopqrstuvwxyz" = .str nmC := rfl
theorem S_ofD : S "0123456789" = .str dgC := rfl
theorem tyD_str {d : D} {h : LH} (t : tyD d h = some .str) : ∃ s, d = .str s := by
  cases d <;> simp [tyD] at t
  · exact ⟨_, rfl⟩
  · split at t <;> simp at t
theorem name_eq {d : D} {h : LH} {t : BT} (ht : tyD d h = some t) (hl : ∀ s, d = .str s → s.length ≤ 16777216) : L.f_is_list_name [d] h = .ok (.bl (isLN d)) h := by
  unfold L.f_is_list_name
  rw [mkF_eq (by rfl)]
  unfold L.b_is_list_name
  by_cases c : t = .str
  · subst c
    obtain ⟨s, rfl⟩ := tyD_str ht
    have hs := hl s rfl
    simp [tyD, isB, dLen_str hs, dLe_int, S_ofN, made_eq, isLN]
    by_cases c1 : (1 : Int) ≤ s.length
    · by_cases c2 : (s.length : Int) ≤ 12
      · simp [c1, c2, made_eq, show 1 ≤ s.length by omega, show s.length ≤ 12 by omega]
      · simp [c1, c2, show ¬ s.length ≤ 12 by omega]
    · simp [c1, show ¬ 1 ≤ s.length by omega]
  · have hn : isLN d = false := by
      cases d <;> simp [isLN, tyD] at ht ⊢
      exact absurd ht.symm c
    simp [ht, hn]
    cases t <;> simp [isB] at c ⊢
theorem chr_eq (a : Nat) : S "k" = .str [107] := S_eq "k"
theorem key_eq {d : D} {h : LH} {t : BT} (ht : tyD d h = some t) (hl : ∀ s, d = .str s → s.length ≤ 16777216) : L.f_is_key [d] h = .ok (.bl (isKey d)) h := by
  unfold L.f_is_key
  rw [mkF_eq (by rfl)]
  unfold L.b_is_key
  by_cases c : t = .str
  · subst c
    obtain ⟨s, rfl⟩ := tyD_str ht
    have hs := hl s rfl
    have hk := S_eq "k"
    simp at hk
    simp only [ev_seq]
    simp [tyD, isB, dLen_str hs, dLe_int, truD]
    by_cases c1 : (2 : Int) ≤ s.length
    · by_cases c2 : (s.length : Int) ≤ 12
      · have h0 : (0 : Nat) < s.length := by omega
        have e0 : s[0]? = some s[0] := List.getElem?_eq_getElem h0
        have ei : dIx (.str s) (.int 0) h = .ok (.str [s[0]]) h := dIx_str hs (atI_of (by decide) e0)
        simp [c1, c2, ei, hk, dEq_str, dSl_str hs, cut_from (show (0 : Int) ≤ 1 by decide), S_ofD, made_eq, isKey, show 2 ≤ s.length by omega, show s.length ≤ 12 by omega, e0]
        by_cases c3 : s[0] = 107 <;> simp [c3]
      · simp [c1, c2, isKey, show ¬ s.length ≤ 12 by omega]
    · simp [c1, isKey, show ¬ 2 ≤ s.length by omega]
  · have hn : isKey d = false := by
      cases d <;> simp [isKey, tyD] at ht ⊢
      exact absurd ht.symm c
    simp only [ev_seq]
    simp [ht, hn]
    cases t <;> simp [isB, truD] at c ⊢
end HM
set_option Elab.async false
set_option linter.all false
set_option maxRecDepth 100000
set_option maxHeartbeats 4000000
namespace HM
open PySem L2
/-! ### hexadecimal digits -/
def hxC : List Nat := (Str.ofString "0123456789abcdef").cps.toList
theorem S_ofH : S "0123456789abcdef" = .str hxC := rfl
theorem hx_digit : ∀ d, d < 16 → (Nat.digitChar d).toNat ∈ hxC ∧ hxC.idxOf (Nat.digitChar d).toNat = d := by
  have e : hxC = [48, 49, 50, 51, 52, 53, 54, 55, 56, 57, 97, 98, 99, 100, 101, 102] := by
    have := S_eq "0123456789abcdef"
    rw [S_ofH] at this
    injection this
  rw [e]
  decide
def hexL (n : Nat) : List Nat := List.replicate (18 - (Nat.toDigits 16 n).length) 48 ++ (Nat.toDigits 16 n).map Char.toNat
def hval (l : List Nat) : Nat := l.foldl (fun a c => a * 16 + hxC.idxOf c) 0
theorem hexText_eq (n : Nat) : (hexText n).cps.toList = hexL n := by
  have hd : ((Nat.toDigits 16 n).map fun c => (if (120 : Nat) == 88 then c.toUpper else c).toNat) = (Nat.toDigits 16 n).map Char.toNat := rfl
  have hn : ((Nat.toDigits 16 n).map Char.toNat).isEmpty = false := by
    cases e : Nat.toDigits 16 n with
    | nil =>
      have := PyProof.Rows.tDigits_len_ge 16 n
      rw [e] at this
      simp at this
    | cons x l => rfl
  unfold hexText PyProof.Rows.intField'
  have hneg : decide ((n : Int) < 0) = false := by simp
  have hna : ((n : Int)).natAbs = n := rfl
  simp only [hneg, hna, hd, hn, fx]
  unfold hexL
  have hpad : ((18 : Int) - ((18 - (Nat.toDigits 16 n).length + (Nat.toDigits 16 n).length : Nat) : Int)).toNat = 0 := by omega
  simp
  omega
theorem hval_dig (n : Nat) : ((Nat.toDigits 16 n).map Char.toNat).foldl (fun a c => a * 16 + hxC.idxOf c) 0 = n ∧ ∀ c ∈ (Nat.toDigits 16 n).map Char.toNat, c ∈ hxC := by
  induction n using Nat.strongRecOn with
  | _ n ih =>
    by_cases c : n < 16
    · rw [Nat.toDigits_of_lt_base c]
      refine ⟨?_, ?_⟩
      · show 0 * 16 + hxC.idxOf (Nat.digitChar n).toNat = n
        rw [(hx_digit n c).2]
        omega
      · intro x hx
        rw [List.mem_singleton.mp hx]
        exact (hx_digit n c).1
    · rw [Nat.toDigits_of_base_le (by decide) (by omega)]
      have h := ih (n / 16) (by omega)
      have hm := hx_digit (n % 16) (Nat.mod_lt _ (by decide))
      refine ⟨?_, ?_⟩
      · rw [List.map_append, List.foldl_append, h.1]
        show n / 16 * 16 + hxC.idxOf (Nat.digitChar (n % 16)).toNat = n
        rw [hm.2]
        omega
      · intro x hx
        rw [List.map_append] at hx
        rcases List.mem_append.mp hx with hx | hx
        · exact h.2 x hx
        · rw [List.mem_singleton.mp hx]
          exact hm.1
theorem hval_zero (k : Nat) (l : List Nat) : (List.replicate k 48 ++ l).foldl (fun a c => a * 16 + hxC.idxOf c) 0 = l.foldl (fun a c => a * 16 + hxC.idxOf c) 0 := by
  induction k with
  | zero => rfl
  | succ k ih =>
    rw [List.replicate_succ, List.cons_append, List.foldl_cons]
    have : 0 * 16 + hxC.idxOf 48 = 0 := (hx_digit 0 (by decide)).2
    rw [this]
    exact ih
theorem hval_hex (n : Nat) : hval (hexL n) = n := by
  unfold hval hexL
  rw [hval_zero]
  exact (hval_dig n).1
theorem hex_mem (n : Nat) : ∀ c ∈ hexL n, c ∈ hxC := by
  intro c hc
  unfold hexL at hc
  rcases List.mem_append.mp hc with hc | hc
  · rw [(List.mem_replicate.mp hc).2]
    exact (hx_digit 0 (by decide)).1
  · exact (hval_dig n).2 c hc
theorem hex_len {n : Nat} (h : n < 16 ^ 18) : (hexL n).length = 18 := by
  unfold hexL
  have := (Nat.length_toDigits_le_iff (n := n) (b := 16) (k := 18) (by decide) (by decide)).mpr h
  simp
  omega
theorem hex_inj {a b : Nat} (h : hexL a = hexL b) : a = b := by
  have := hval_hex a
  rw [h, hval_hex] at this
  exact this.symm
theorem dHex_nat {n : Nat} {h : LH} (hn : n < 16 ^ 18) : dHex (.int n) h = .ok (.str (hexL n)) h := by
  show (if (n : Int).natAbs < 2 ^ 200 then Res.ok (D.str (hexText n).cps.toList) h else .bad) = _
  have hlt : (n : Int).natAbs < 2 ^ 200 := by
    show n < 2 ^ 200
    exact Nat.lt_of_lt_of_le hn (by decide)
  rw [if_pos hlt, hexText_eq]
/-! ### a loop over a text that folds -/
theorem loopS_fold {α : Type} {body : MS} {i : Nat} {s : List Nat} {h : LH} (E : α → Option D → EN) (F : α → Nat → α) (P : α → Prop) {a : α} {v : Option D}
    (hs : ∀ x v d, tnSet (.nm i) d (E x v) = some (E x (some d)))
    (step : ∀ x c, c ∈ s → P x → body (E x (some (.str [c]))) h = .next (E (F x c) (some (.str [c]))) h ∧ P (F x c)) (hP : P a) :
    ∃ v', loopF (itL (s.map fun c => D.str [c])) (.nm i) body s.length 0 (E a v) h = .next (E (s.foldl F a) v') h ∧ P (s.foldl F a) := by
  have key := loopF_list (t := .nm i) (body := body) (xs := s.map fun c => D.str [c]) (fun j e g => g = h ∧ (∃ v, e = E ((s.take j).foldl F a) v) ∧ P ((s.take j).foldl F a)) (fun r => ∃ v', r = .next (E (s.foldl F a) v') h ∧ P (s.foldl F a))
    (fun j d e1 g hd ⟨q, ⟨v, ev⟩, hp⟩ => by
      subst q ev
      rw [List.getElem?_map] at hd
      cases es : s[j]? with
      | none => rw [es] at hd; cases hd
      | some ch =>
        rw [es] at hd
        cases hd
        refine ⟨_, hs _ _ _, ?_⟩
        have st := step _ ch (List.mem_of_getElem? es) hp
        rw [st.1]
        have et : s.take (j + 1) = s.take j ++ [ch] := by
          rw [List.take_succ, es]; rfl
        rw [et, List.foldl_append]
        exact ⟨rfl, ⟨_, rfl⟩, st.2⟩)
    (fun e1 g ⟨q, ⟨v, ev⟩, hp⟩ => by
      subst q ev
      rw [List.length_map, List.take_length] at hp ⊢
      exact ⟨v, rfl, hp⟩) (e := E a v) (h := h) ⟨rfl, ⟨v, rfl⟩, hP⟩
  rw [List.length_map] at key
  exact key
/-! ### digest -/
def dgF (n : Nat) (c : Nat) : Nat := (n * 65599 + c) % 2361183241434822606617
def dig (s : List Nat) : Nat := s.foldl dgF (s.length + 1)
theorem dig_lt {s : List Nat} (hl : s.length ≤ 16777216) : dig s < 2361183241434822606617 := by
  unfold dig
  have : ∀ (s : List Nat) a, a < 2361183241434822606617 → s.foldl dgF a < 2361183241434822606617 := by
    intro s
    induction s with
    | nil => exact fun a h => h
    | cons c s ih => exact fun a h => ih _ (Nat.mod_lt _ (by decide))
  exact this _ _ (by omega)
theorem digest_eq {s : List Nat} {h : LH} (hl : s.length ≤ 16777216) : L.f_digest [.str s] h = .ok (.str (hexL (dig s))) h := by
  unfold L.f_digest
  rw [mkF_eq (by rfl)]
  unfold L.b_digest
  obtain ⟨v, ev, hp⟩ := loopS_fold (i := 2) (s := s) (h := h) (body := sSet 1 (mOp dMod (mOp dAdd (mOp dMul (mVar 1) (mC (.int 65599))) (mApp dOrd (mCons (mVar 2) mNil))) (mC (.int 2361183241434822606617))))
    (fun (n : Nat) v => [some (.str s), some (.int n), v]) dgF (fun _ => True) (a := s.length + 1) (v := none) (fun _ _ _ => rfl) (by
      intro n c _ _
      refine ⟨?_, trivial⟩
      have m1 : dMul (.int n) (.int 65599) h = .ok (.int (n * 65599)) h := dMul_int (mulOk_r (by decide))
      have e : ((dgF n c : Nat) : Int) = ((n : Int) * 65599 + c) % 2361183241434822606617 := by
        unfold dgF
        omega
      simp [m1, dOrd_chr, dAdd_int, dMod_int (show (0 : Int) < 2361183241434822606617 by decide), e]) trivial
  have hd := dig_lt hl
  have ev' : loopF (itL (s.map fun c => D.str [c])) (.nm 2) (sSet 1 (mOp dMod (mOp dAdd (mOp dMul (mVar 1) (mC (.int 65599))) (mApp dOrd (mCons (mVar 2) mNil))) (mC (.int 2361183241434822606617)))) s.length 0 [some (.str s), some (.int ((s.length : Int) + 1)), none] h = .next [some (.str s), some (.int (dig s)), v] h := ev
  simp only [ev_seq]
  simp [dLen_str hl, dAdd_int, ev', dHex_nat (n := dig s) (h := h) (by omega)]
end HM
set_option Elab.async false
set_option linter.all false
set_option maxRecDepth 100000
set_option maxHeartbeats 4000000
namespace HM
open PySem L2
/-! ### comprehensions that leave the heap -/
def itN2 (a b : Int) : IT := fun _ j => some (if j < (b - a).toNat then some (.int (a + j)) else none)
theorem compP {it : IT} {i n : Nat} {y : M D} {e : EN} {h : LH} (f : Nat → D) (q : Nat → D) (hn : n ≤ 16777216) (hg : ∀ j g, j ≤ n → it g j = some (if j < n then some (q j) else none))
    (hy : ∀ j acc, j < n → y (e.set i (some (q j))) (h ++ [.lst acc]) = .ok (f j) (h ++ [.lst acc])) :
    loopC it (.nm i) mYes y e h.length n 0 (h ++ [.lst []]) = .ok (.ref h.length) (h ++ [.lst ((List.range n).map f)]) := by
  obtain ⟨acc, h', e1, rfl, rfl⟩ := loopC_gen (g := it) (t := .nm i) (c := mYes) (y := y) (e := e) (k := h.length) (N := n) q
    (fun j acc g => acc = (List.range j).map f ∧ g = h ++ [.lst acc])
    (fun j acc g hj hi => hg j g hj) (fun j acc g hj hi => by rw [hi.2]; simp) (by
      rintro j acc g hj ⟨rfl, rfl⟩
      refine ⟨_, rfl, .inr ⟨_, f j, _, (List.range j).map f, rfl, hy j _ hj, by simp, by simp; omega, ?_, ?_⟩⟩
      · rw [List.range_succ, List.map_append]; rfl
      · simp) n 0 [] (h ++ [.lst []]) (by omega) ⟨rfl, rfl⟩
  exact e1
theorem ev_rng2 {a : M (List D)} {e : EN} {h : LH} : iRng2M a e h = (a e h).bind fun d h1 => match d with
  | [.int m, .int n] => if -(2 ^ 62) ≤ m ∧ m < 2 ^ 62 ∧ -(2 ^ 62) ≤ n ∧ n < 2 ^ 62 then .ok (itN2 m n, (n - m).toNat) h1 else .bad
  | _ => .bad := rfl
/-! ### short texts -/
def rowC : List Nat := (List.range 93).map fun k => lcN (k + 1)
theorem row_eq {h : LH} : L.f__law_row [] h = .ok (.str rowC) (h ++ [.lst (rowC.map fun c => D.str [c])]) := by
  unfold L.f__law_row
  rw [mkF_eq (by rfl)]
  unfold L.b__law_row
  have key := compP (it := itN2 1 94) (i := 0) (n := 93) (y := mApp L.f__law_char (mCons (mVar 0) mNil)) (e := [none]) (h := h) (fun j => .str [lcN (j + 1)]) (fun j => .int (1 + j)) (by decide) (fun j g hj => rfl) (by
    intro j acc hj
    have hc := char_eq (k := 1 + (j : Int)) (h := h ++ [.lst acc]) (by omega) (by omega)
    have e1 : (1 + (j : Int)).toNat = j + 1 := by omega
    rw [e1] at hc
    simp [hc])
  have er : (List.range 93).map (fun j => D.str [lcN (j + 1)]) = rowC.map fun c => D.str [c] := by
    unfold rowC
    rw [List.map_map]
    rfl
  rw [er] at key
  have ej := join_chars (h := h ++ [.lst (rowC.map fun c => D.str [c])]) (r := h.length) (s := rowC) (by simp) (by simp [rowC])
  rw [S_nil] at ej
  simp [ev_rng2, wipeM, key, S_nil, isStr, ej]
def shC : List Nat := [32, 10, 9] ++ rowC
theorem sh_len : shC.length = 96 := by simp [shC, rowC]
theorem sh_le {c : Nat} (h : c ∈ shC) : c ≤ 126 := by
  unfold shC rowC at h
  rcases List.mem_append.mp h with h | h
  · simp at h; omega
  · obtain ⟨k, hk, rfl⟩ := List.mem_map.mp h
    have := lc_mem (k := k + 1) (by have := List.mem_range.mp hk; omega)
    unfold LC at this
    omega
theorem short_ok {h : LH} {r : Nat} (s : StrAt h r) : ∃ z h', L.f__law_short [.ref r] h = .ok (.str z) h' ∧ z.length ≤ 4 ∧ (∀ c ∈ z, c ≤ 126) ∧ SF r h h' := by
  obtain ⟨v, h1, e1, v0, v1, F1, _⟩ := take_ok (m := 5) s (by decide) (by decide)
  have ent : S "\n\t" = .str [10, 9] := S_eq "\n\t"
  have e32 : ∀ g, L.f__law_char [.int 0] g = .ok (.str [32]) g := fun g => char_eq (k := 0) (by decide) (by decide)
  have rl : rowC.length = 93 := by simp [rowC]
  obtain ⟨z, h2, e2, e2', zl, zc, F2⟩ := joinR_ok (n := v.toNat) (i := 1) (P := fun c => c ≤ 126) (e := [some (.ref r), none])
    (y := mOp dIx (mOp dAdd (mOp dAdd (mApp L.f__law_char (mCons (mC (.int 0)) mNil)) (mC (S "\n\t"))) (mApp0 L.f__law_row)) (mApp L.f__law_take (mCons (mVar 0) (mCons (mC (.int 96)) mNil)))) F1.st (by omega) (fun g j F hj => by
      have F' := F.trans (SF.push (o := .lst (rowC.map fun c => D.str [c])) F.st)
      obtain ⟨ch, w, g2, ew, ei, hm, G⟩ := pick_ok (cs := shC) (m := 96) F'.st (by decide) (by rw [sh_len]; decide) (by rw [sh_len]; decide)
      refine ⟨ch, g2, ?_, sh_le hm, (SF.push F.st).trans G⟩
      have ea : dAdd (.str [32]) (.str [10, 9]) g = .ok (.str [32, 10, 9]) g := dAdd_str (by decide)
      have eb : ∀ g', dAdd (.str [32, 10, 9]) (.str rowC) g' = .ok (.str shC) g' := fun g' => dAdd_str (by rw [rl]; decide)
      simp [e32, ent, ea, row_eq, eb, ew, ei])
  refine ⟨z, h2, ?_, by omega, zc, F1.trans F2⟩
  unfold L.f__law_short
  rw [mkF_eq (by rfl)]
  unfold L.b__law_short
  rw [S_nil] at e2'
  simp [e1, ev_rng1, show -4611686018427387904 ≤ v ∧ v < 4611686018427387904 from ⟨by omega, by omega⟩, wipeM, S_nil, isStr, e2, e2']
end HM
set_option Elab.async false
set_option linter.all false
set_option maxRecDepth 100000
set_option maxHeartbeats 4000000
namespace HM
open PySem L2
/-! ### cut at one sign -/
def cut1 (k : Nat) : List Nat → List Nat → List (List Nat)
  | acc, [] => [acc]
  | acc, c :: r => if c = k then acc :: cut1 k [] r else cut1 k (acc ++ [c]) r
theorem spl_one (k : Nat) : ∀ (s acc : List Nat), TL.spl [k] 0 acc s = cut1 k acc s := by
  intro s
  induction s with
  | nil => intro acc; rfl
  | cons c r ih =>
    intro acc
    have hp : TL.pre [k] (c :: r) = decide (c = k) := by
      show ((c :: r).take 1 == [k]) = _
      rw [List.take_succ_cons, List.take_zero]
      by_cases h : c = k
      · subst h; simp
      · rw [decide_eq_false h]
        exact beq_eq_false_iff_ne.mpr fun z => h (by injection z)
    unfold cut1
    by_cases h : c = k
    · rw [TL.spl_hit (by rw [hp, decide_eq_true h]), if_pos h]
      show acc :: TL.spl [k] 0 [] r = _
      rw [ih]
    · rw [TL.spl_miss (by rw [hp, decide_eq_false h]), if_neg h, ih]
theorem cut1_head (k : Nat) : ∀ (s acc : List Nat), ∃ x l, cut1 k acc s = (acc ++ x) :: l := by
  intro s
  induction s with
  | nil => intro acc; exact ⟨[], [], by simp [cut1]⟩
  | cons c r ih =>
    intro acc
    unfold cut1
    by_cases h : c = k
    · rw [if_pos h]; exact ⟨[], cut1 k [] r, by simp⟩
    · rw [if_neg h]
      obtain ⟨x, l, e⟩ := ih (acc ++ [c])
      exact ⟨c :: x, l, by rw [e]; simp⟩
/-! ### paths and patterns -/
def pcC : List Nat := (Str.ofString "abcdefghijklmnopqrstuvwxyz0123456789.-_").cps.toList
def ptC : List Nat := (Str.ofString "abcdefghijklmnopqrstuvwxyz0123456789.-_*").cps.toList
theorem S_ofP : S "abcdefghijklmnopqrstuvwxyz0123456789.-_" = .str pcC := rfl
theorem S_ofT : S "abcdefghijklmnopqrstuvwxyz0123456789.-_*" = .str ptC := rfl
theorem pc_len : pcC.length = 39 := by decide +kernel
theorem pt_eq : pcC ++ [42] = ptC := by decide +kernel
theorem pc_sl : 47 ∉ pcC := by decide +kernel
theorem pt_sl : 47 ∉ ptC := by decide +kernel
def okP (cs p : List Nat) : Bool := decide (p ≠ []) && p.all (inC cs)
def hasP (s cs : List Nat) : Bool := decide (s.length ≤ 60) && (decide ((cut1 47 [] s).length ≤ 6) && (cut1 47 [] s).all (okP cs))
def hasD (d : D) (cs : List Nat) : Bool := match d with
  | .str s => hasP s cs
  | _ => false
/-- heap grown -/
def Gr (h h' : LH) : Prop := ∃ x, h' = h ++ x
theorem parts_eq {d : D} {cs : List Nat} {h : LH} {t : BT} (ht : tyD d h = some t) (hl : ∀ s, d = .str s → s.length ≤ 1000000) :
    ∃ h', L.f_has_parts [d, .str cs] h = .ok (.bl (hasD d cs)) h' ∧ Gr h h' ∧ ((∀ s, d ≠ .str s) → h' = h) := by
  unfold L.f_has_parts
  rw [mkF_eq (by rfl)]
  unfold L.b_has_parts
  have esl := S_eq "/"
  simp at esl
  by_cases c : t = .str
  · subst c
    obtain ⟨s, rfl⟩ := tyD_str ht
    have hs := hl s rfl
    have hs' : s.length ≤ 16777216 := by omega
    by_cases c1 : s.length ≤ 60
    · have c1' : ¬ (60 : Int) < s.length := by omega
      obtain ⟨P, hP⟩ : ∃ P, cut1 47 [] s = P := ⟨_, rfl⟩
      have es : dSplit (.str s) [.str [47]] h = .ok (.ref h.length) (h ++ [.lst (P.map D.str)]) := by
        show (if [47] ≠ [] ∧ [47].all (· < 256) = true ∧ s.length + 2 ≤ 16777216 then Res.ok (D.ref h.length) (h ++ [.lst ((TL.spl [47] 0 [] s).map D.str)]) else .bad) = _
        rw [if_pos ⟨by decide, by decide, by omega⟩, spl_one, hP]
      refine ⟨h ++ [.lst (P.map D.str)], ?_, ⟨_, rfl⟩, fun z => absurd rfl (z s)⟩
      have el : dLen [.ref h.length] (h ++ [.lst (P.map D.str)]) = .ok (.int P.length) (h ++ [.lst (P.map D.str)]) := by
        rw [dLen_ref (xs := P.map D.str) (by simp), List.length_map]
      have key := loopO_test (body := sIf (mTOr (mTst (mOp dEq (mVar 3) (mC (S "")))) (mTNot (mTru (mApp L.f_made_of (mCons (mVar 3) (mCons (mVar 1) mNil)))))) (sRet (mC (.bl false))) sNil) (i := 3) (r := h.length) (xs := P.map D.str) (h := h ++ [.lst (P.map D.str)])
        (e := [some (.str s), some (.str cs), some (.ref h.length), none]) (fun d => match d with | .str p => okP cs p | _ => false) (by simp) (by simp) (by
          intro d hd
          obtain ⟨p, hp, rfl⟩ := List.mem_map.mp hd
          by_cases q1 : p = []
          · subst q1
            simp [S_nil, dEq_str, okP]
          · by_cases q2 : p.all (inC cs) = true
            · simp [S_nil, dEq_str, okP, q1, made_eq, q2, truD]
            · have q2' : p.all (inC cs) = false := by simpa using q2
              simp [S_nil, dEq_str, okP, q1, made_eq, q2', truD])
      rw [List.length_map, List.all_map] at key
      simp only [ev_seq]
      simp [tyD, isB, truD, dLen_str hs', dGt_int, c1', esl, isStr, es, el, hasD, hasP, c1, hP]
      by_cases c2 : P.length ≤ 6
      · have c2' : ¬ (6 : Int) < P.length := by omega
        simp [c2', c2, List.length_map]
        have e3 : ∀ xs : List (List Nat), (xs.all (okP cs)) = xs.all ((fun d => match d with | .str p => okP cs p | _ => false) ∘ D.str) := fun xs => rfl
        rw [e3]
        split at key
        · rename_i q
          obtain ⟨v, ev⟩ := key
          rw [ev]
          simp [q]
        · rename_i q
          have q' : P.all ((fun d => match d with | .str p => okP cs p | _ => false) ∘ D.str) = false := by simpa using q
          rw [key]
          simp [q']
      · have c2' : (6 : Int) < P.length := by omega
        simp [c2', c2]
    · have c1' : (60 : Int) < s.length := by omega
      refine ⟨h, ?_, ⟨[], by simp⟩, fun _ => rfl⟩
      simp only [ev_seq]
      simp [tyD, isB, truD, dLen_str hs', dGt_int, c1', hasD, hasP, c1]
  · have hn : hasD d cs = false := by
      cases d <;> simp [hasD, tyD] at ht ⊢
      exact absurd ht.symm c
    refine ⟨h, ?_, ⟨[], by simp⟩, fun _ => rfl⟩
    simp only [ev_seq]
    simp [ht, hn]
    cases t <;> simp [isB, truD] at c ⊢
theorem path_eq {d : D} {h : LH} {t : BT} (ht : tyD d h = some t) (hl : ∀ s, d = .str s → s.length ≤ 1000000) :
    ∃ h', L.f_is_path [d] h = .ok (.bl (hasD d pcC)) h' ∧ Gr h h' ∧ ((∀ s, d ≠ .str s) → h' = h) := by
  obtain ⟨h', e, g, k⟩ := parts_eq (cs := pcC) ht hl
  refine ⟨h', ?_, g, k⟩
  unfold L.f_is_path
  rw [mkF_eq (by rfl)]
  unfold L.b_is_path
  simp [S_ofP, e]
theorem pattern_eq {d : D} {h : LH} {t : BT} (ht : tyD d h = some t) (hl : ∀ s, d = .str s → s.length ≤ 1000000) :
    ∃ h', L.f_is_pattern [d] h = .ok (.bl (hasD d ptC)) h' ∧ Gr h h' ∧ ((∀ s, d ≠ .str s) → h' = h) := by
  obtain ⟨h', e, g, k⟩ := parts_eq (cs := ptC) ht hl
  refine ⟨h', ?_, g, k⟩
  unfold L.f_is_pattern
  rw [mkF_eq (by rfl)]
  unfold L.b_is_pattern
  simp [S_ofT, e]
/-- a drawn part -/
theorem part_ok {h : LH} {r : Nat} {cs : List Nat} {most : Int} (s : StrAt h r) (hm : 0 ≤ most) (hl : most ≤ 1000000) (hc : 0 < cs.length) (hc2 : cs.length ≤ 1000) :
    ∃ z h', L.f__law_part [.ref r, .int most, .str cs] h = .ok (.str z) h' ∧ (z.length : Int) ≤ most ∧ (∀ c ∈ z, c ∈ cs) ∧ SF r h h' := by
  obtain ⟨v, h1, e1, v0, v1, F1, l1⟩ := take_ok (m := most + 1) s (by omega) (by omega)
  have hcs : cs.length ≤ 16777216 := by omega
  obtain ⟨z, h2, e2, e2', zl, zc, F2⟩ := joinR_ok (n := v.toNat) (i := 4) (P := fun c => c ∈ cs) (e := [some (.ref r), some (.int most), some (.str cs), some (.int v), none])
    (y := mOp dIx (mVar 2) (mApp L.f__law_take (mCons (mVar 0) (mCons (mApp dLen (mCons (mVar 2) mNil)) mNil)))) F1.st (by omega) (fun g j F hj => by
      obtain ⟨ch, w, g2, ew, ei, hmem, G⟩ := pick_ok (cs := cs) (m := cs.length) F.st (by omega) (by omega) hcs
      exact ⟨ch, g2, by simp [dLen_str hcs, ew, ei], hmem, G⟩)
  refine ⟨z, h2, ?_, by omega, zc, F1.trans F2⟩
  unfold L.f__law_part
  rw [mkF_eq (by rfl)]
  unfold L.b__law_part
  rw [S_nil] at e2'
  simp only [ev_seq]
  simp [dAdd_int, e1, ev_rng1, show -4611686018427387904 ≤ v ∧ v < 4611686018427387904 from ⟨by omega, by omega⟩, wipeM, S_nil, isStr, e2, e2']
theorem joinL_len (a : List Nat) (l : List (List Nat)) : (TL.joinL a l).length ≤ (l.map (·.length)).sum + l.length * a.length := by
  induction l with
  | nil => exact Nat.zero_le _
  | cons p l ih =>
    cases l with
    | nil => simp [TL.joinL]
    | cons q r =>
      have e : TL.joinL a (p :: q :: r) = p ++ (a ++ TL.joinL a (q :: r)) := rfl
      rw [e, List.length_append, List.length_append]
      simp only [List.map_cons, List.sum_cons, List.length_cons, Nat.add_mul] at ih ⊢
      omega
theorem sum_le (l : List (List Nat)) (m : Nat) (h : ∀ s ∈ l, s.length ≤ m) : (l.map (·.length)).sum ≤ l.length * m := by
  induction l with
  | nil => simp
  | cons a l ih =>
    simp only [List.map_cons, List.sum_cons, List.length_cons, Nat.add_mul]
    have := ih fun s hs => h s (List.mem_cons_of_mem _ hs)
    have := h a (by simp)
    omega
theorem dAppend_ref {h : LH} {r : Nat} {xs : List D} {y : D} (hr : h[r]? = some (.lst xs)) (hl : xs.length < 16777216) : dAppend (.ref r) [y] h = .ok .non (h.set r (.lst (xs ++ [y]))) := by
  show (match h[r]? with
    | some (.lst ys) => if ys.length < 16777216 then Res.ok D.non (h.set r (.lst (ys ++ [y]))) else .bad
    | _ => .bad) = _
  rw [hr]
  simp only [if_pos hl]
theorem isLst_ref {h : LH} {r : Nat} {xs : List D} (hr : h[r]? = some (.lst xs)) : isLst (.ref r) h = true := by
  unfold isLst seqD
  simp only [hr]
end HM
set_option Elab.async false
set_option linter.all false
set_option maxRecDepth 100000
set_option maxHeartbeats 4000000
namespace HM
open PySem L2
/-! ### == of lists of numbers -/
theorem toPs_ints {h : LH} : ∀ (E : List Int) (n : Nat), E.length < n → toPs (n + 1) h (E.map D.int) = some (E.map PyData.int) := by
  intro E
  induction E with
  | nil => intro n _; rfl
  | cons a E ih =>
    intro n hn
    obtain ⟨m, rfl⟩ : ∃ m, n = m + 1 := ⟨n - 1, by simp at hn; omega⟩
    have e := ih m (by simpa using hn)
    show (match toP (m + 1) h (.int a), toPs (m + 1) h (E.map D.int) with
      | some p, some ps => some (p :: ps)
      | _, _ => none) = _
    rw [e]
    rfl
theorem lay_ints (E : List Int) : PyData.canLayAll0 (E.map PyData.int) = true ∧ PyData.depthAll (E.map PyData.int) = 0 := by
  induction E with
  | nil => exact ⟨by simp [PyData.canLayAll0], by simp [PyData.depthAll]⟩
  | cons a E ih => exact ⟨by simp [PyData.canLayAll0, PyData.canLay0, ih.1], by simp [PyData.depthAll, PyData.depth, ih.2]⟩
theorem shaped_ints (E : List Int) : SeqAt.shaped (.list (E.map PyData.int)) = true := by
  unfold SeqAt.shaped
  simp [PyData.canLay0, PyData.depth, (lay_ints E).1, (lay_ints E).2]
theorem eqv_ints : ∀ (E F : List Int), PyData.eqvAll (E.map PyData.int) (F.map PyData.int) = decide (E = F)
  | [], [] => by simp [PyData.eqvAll]
  | _ :: _, [] => by simp [PyData.eqvAll]
  | [], _ :: _ => by simp [PyData.eqvAll]
  | a :: E, b :: F => by
    simp only [List.map_cons, PyData.eqvAll, PyData.eqv, eqv_ints E F]
    by_cases h1 : a = b <;> by_cases h2 : E = F <;> simp [h1, h2]
theorem dEq_ints {h : LH} {r q : Nat} {E F : List Int} (hr : h[r]? = some (.lst (E.map D.int))) (hq : h[q]? = some (.lst (F.map D.int))) (lE : E.length ≤ 90000) (lF : F.length ≤ 90000) :
    dEq (.ref r) (.ref q) h = .ok (.bl (decide (E = F))) h := by
  have t : ∀ (r : Nat) (E : List Int), h[r]? = some (.lst (E.map D.int)) → E.length ≤ 90000 → toP 100000 h (.ref r) = some (.list (E.map PyData.int)) := by
    intro r E hr l
    show (match h[r]? with
      | some (.lst xs) => (toPs (99998 + 1) h xs).map PyData.list
      | _ => none) = _
    rw [hr]
    simp only [toPs_ints E 99998 (by omega), Option.map_some]
  unfold dEq dEqB
  simp only [t r E hr lE, t q F hq lF, shaped_ints, Bool.and_self, if_true, PyData.eqv, eqv_ints]
/-! ### matching of a part -/
def mt : List Nat → List Nat → Bool
  | [], p => p.isEmpty
  | c :: w, p => if c = 42 then (List.range (p.length + 1)).any (fun k => mt w (p.drop k)) else match p with
    | [] => false
    | d :: p' => decide (d = c) && mt w p'
theorem mt_cons (c : Nat) (w p : List Nat) : mt (c :: w) p = if c = 42 then (List.range (p.length + 1)).any (fun k => mt w (p.drop k)) else match p with
    | [] => false
    | d :: p' => decide (d = c) && mt w p' := rfl
def endsB (p : List Nat) (E : List Nat) (c : Nat) : List Nat := if c = 42 then (match E with
    | [] => []
    | e :: _ => List.range' e (p.length + 1 - e)) else (E.filter fun e => decide (p[e]? = some c)).map (· + 1)
theorem endsB_ok {p E : List Nat} {c : Nat} (hs : E.Pairwise (· ≤ ·)) (hb : ∀ e ∈ E, e ≤ p.length) : (endsB p E c).Pairwise (· ≤ ·) ∧ ∀ e ∈ endsB p E c, e ≤ p.length := by
  unfold endsB
  by_cases h : c = 42
  · rw [if_pos h]
    cases E with
    | nil => exact ⟨.nil, fun _ h => nomatch h⟩
    | cons a E =>
      refine ⟨?_, fun e he => ?_⟩
      · exact (List.pairwise_lt_range' (step := 1)).imp fun h => Nat.le_of_lt h
      · have := List.mem_range'_1.mp he
        have := hb a (by simp)
        omega
  · rw [if_neg h]
    refine ⟨?_, fun e he => ?_⟩
    · rw [List.pairwise_map]
      exact (hs.filter _).imp fun h => by omega
    · obtain ⟨x, hx, rfl⟩ := List.mem_map.mp he
      have h2 := (List.mem_filter.mp hx).2
      have := lt_of_get (of_decide_eq_true h2)
      omega
theorem pm_iff {p : List Nat} : ∀ (w E : List Nat), E.Pairwise (· ≤ ·) → (∀ e ∈ E, e ≤ p.length) → (p.length ∈ w.foldl (endsB p) E ↔ ∃ e ∈ E, mt w (p.drop e) = true)
  | [], E, hs, hb => by
    show p.length ∈ E ↔ ∃ e ∈ E, (p.drop e).isEmpty = true
    constructor
    · intro h
      exact ⟨_, h, by simp⟩
    · rintro ⟨e, he, h⟩
      have h1 := hb e he
      have h2 : p.length ≤ e := by simpa using h
      have : e = p.length := by omega
      rw [← this]
      exact he
  | c :: w, E, hs, hb => by
    have hk := endsB_ok (c := c) hs hb
    rw [List.foldl_cons, pm_iff w _ hk.1 hk.2]
    simp only [mt_cons]
    unfold endsB
    by_cases h : c = 42
    · simp only [if_pos h]
      cases E with
      | nil => simp
      | cons a E =>
        have ha := hb a (by simp)
        constructor
        · rintro ⟨e, he, hm⟩
          have h1 := List.mem_range'_1.mp he
          refine ⟨a, by simp, List.any_eq_true.mpr ⟨e - a, ?_, ?_⟩⟩
          · rw [List.mem_range, List.length_drop]
            omega
          · rw [List.drop_drop]
            rw [show a + (e - a) = e from by omega]
            exact hm
        · rintro ⟨e, he, hm⟩
          obtain ⟨k, hk, hm⟩ := List.any_eq_true.mp hm
          rw [List.mem_range, List.length_drop] at hk
          rw [List.drop_drop] at hm
          have h1 := hb e he
          have h2 : a ≤ e := by
            rcases List.mem_cons.mp he with rfl | he
            · exact Nat.le_refl _
            · exact (List.pairwise_cons.mp hs).1 e he
          exact ⟨e + k, List.mem_range'_1.mpr ⟨by omega, by omega⟩, hm⟩
    · simp only [if_neg h]
      constructor
      · rintro ⟨e, he, hm⟩
        obtain ⟨x, hx, rfl⟩ := List.mem_map.mp he
        obtain ⟨h1, h2⟩ := List.mem_filter.mp hx
        have h3 := of_decide_eq_true h2
        have hl := lt_of_get h3
        refine ⟨x, h1, ?_⟩
        rw [List.drop_eq_getElem_cons hl]
        rw [List.getElem?_eq_getElem hl] at h3
        injection h3 with h3
        simp [h3, hm]
      · rintro ⟨e, he, hm⟩
        by_cases hl : e < p.length
        · rw [List.drop_eq_getElem_cons hl] at hm
          simp at hm
          exact ⟨e + 1, List.mem_map.mpr ⟨e, List.mem_filter.mpr ⟨he, by simp [List.getElem?_eq_getElem hl, hm.1]⟩, rfl⟩, hm.2⟩
        · rw [List.drop_of_length_le (by omega)] at hm
          simp at hm
theorem pm_mt {w p : List Nat} : decide (p.length ∈ w.foldl (endsB p) [0]) = mt w p := by
  have := pm_iff (p := p) w [0] (List.pairwise_singleton _ _) (by simp)
  simp at this
  by_cases h : mt w p = true
  · rw [h, decide_eq_true (this.mpr h)]
  · rw [decide_eq_false (fun z => h (this.mp z))]
    simpa using h
/-! ### the mirrors of matching -/
def nD (E : List Nat) : List D := E.map fun e : Nat => D.int (e : Int)
theorem nD_ints (E : List Nat) : nD E = (E.map fun e : Nat => (e : Int)).map D.int := by
  unfold nD; rw [List.map_map]; rfl
theorem Gr.get {h h' : LH} (g : Gr h h') {i : Nat} {o : LO} (e : h[i]? = some o) : h'[i]? = some o := by
  obtain ⟨x, rfl⟩ := g
  rw [List.getElem?_append_left (lt_of_get e)]
  exact e
theorem Gr.refl (h : LH) : Gr h h := ⟨[], by simp⟩
theorem Gr.trans {h h1 h2 : LH} (a : Gr h h1) (b : Gr h1 h2) : Gr h h2 := by
  obtain ⟨x, rfl⟩ := a
  obtain ⟨y, rfl⟩ := b
  exact ⟨x ++ y, by rw [List.append_assoc]⟩
theorem Gr.push (h : LH) (x : List LO) : Gr h (h ++ x) := ⟨x, rfl⟩
theorem cut_one {p : List Nat} {e : Nat} (c : Nat) : (cutD p (some (e : Int)) (some ((e : Int) + 1)) = [c]) ↔ p[e]? = some c := by
  rw [cut_both (by omega) (by omega)]
  rw [show (e : Int).toNat = e from by omega, show ((e : Int) + 1).toNat - e = 1 from by omega]
  by_cases hl : e < p.length
  · rw [List.drop_eq_getElem_cons hl, List.getElem?_eq_getElem hl, List.take_succ_cons, List.take_zero]
    simp
  · rw [List.drop_of_length_le (by omega), List.getElem?_eq_none (by omega)]
    simp
theorem lrg_ok {a b : M D} {e : EN} {h h1 h2 : LH} {i j : Int} (ha : a e h = .ok (.int i) h1) (hb : b e h1 = .ok (.int j) h2) (hc : -(2 ^ 62) ≤ i ∧ i < 2 ^ 62 ∧ -(2 ^ 62) ≤ j ∧ j < 2 ^ 62 ∧ (j - i).toNat ≤ 2 ^ 24) :
    mLRg a b e h = .ok (.ref h2.length) (h2 ++ [.lst (rgD i j)]) := by
  unfold mLRg
  rw [ha]
  show (b e h1).bind _ = _
  rw [hb]
  show (if _ then _ else _) = _
  rw [if_pos hc]
theorem ends_ok {h : LH} {r : Nat} {E p : List Nat} {c : Nat} (hr : h[r]? = some (.lst (nD E))) (hE : E.length ≤ 1000) (hp : p.length ≤ 1000) (hb : ∀ e ∈ E, e ≤ p.length) :
    ∃ q h', L.f_ends_behind [.ref r, .str [c], .str p] h = .ok (.ref q) h' ∧ h'[q]? = some (.lst (nD (endsB p E c))) ∧ Gr h h' := by
  unfold L.f_ends_behind
  rw [mkF_eq (by rfl)]
  unfold L.b_ends_behind
  have est := S_eq "*"
  simp at est
  have hps : p.length ≤ 16777216 := by omega
  unfold endsB
  by_cases hc : c = 42
  · rw [if_pos hc]
    have e1 : (h ++ [LO.lst []])[r]? = some (.lst (nD E)) := by rw [List.getElem?_append_left (lt_of_get hr)]; exact hr
    have eq0 : dEq (.ref r) (.ref h.length) (h ++ [.lst []]) = .ok (.bl (decide (E = []))) (h ++ [.lst []]) := by
      have := dEq_ints (h := h ++ [.lst []]) (r := r) (q := h.length) (E := E.map fun e : Nat => (e : Int)) (F := []) (by rw [e1, nD_ints]) (by simp) (by simp; omega) (by simp)
      rw [this]
      simp
    cases E with
    | nil =>
      refine ⟨h.length + 1, h ++ [.lst []] ++ [.lst []], ?_, ?_, ?_⟩
      · simp only [ev_seq]
        simp [hc, est, dNe_str, eq0]
      · rw [List.append_assoc, List.getElem?_append_right (by omega)]; simp [nD]
      · exact (Gr.push h _).trans (Gr.push _ _)
    | cons a E =>
      have ha := hb a (by simp)
      refine ⟨h.length + 1, h ++ [.lst []] ++ [.lst (nD (List.range' a (p.length + 1 - a)))], ?_, ?_, ?_⟩
      · have ei : dIx (.ref r) (.int 0) (h ++ [.lst []]) = .ok (.int a) (h ++ [.lst []]) := dIx_ref e1 (atI_of (by decide) rfl)
        have erg : rgD (a : Int) ((p.length : Int) + 1) = nD (List.range' a (p.length + 1 - a)) := by
          unfold rgD nD
          rw [List.range'_eq_map_range, List.map_map, show ((p.length : Int) + 1 - a).toNat = p.length + 1 - a from by omega]
          rfl
        have el := lrg_ok (a := mOp dIx (mVar 0) (mC (.int 0))) (b := mOp dAdd (mApp dLen (mCons (mVar 2) mNil)) (mC (.int 1))) (e := [some (.ref r), some (.str [42]), some (.str p), none]) (h := h ++ [.lst []]) (h1 := h ++ [.lst []]) (h2 := h ++ [.lst []]) (i := a) (j := (p.length : Int) + 1) (by simp [ei]) (by simp [dLen_str hps, dAdd_int]) (by omega)
        rw [erg] at el
        simp only [ev_seq]
        simp [hc, est, dNe_str, eq0, el]
      · rw [List.append_assoc, List.getElem?_append_right (by omega)]; simp
      · exact (Gr.push h _).trans (Gr.push _ _)
  · rw [if_neg hc]
    have key := loopC_gen (g := itO r) (t := .nm 3) (c := mTst (mOp dEq (mSl (mVar 2) (mPart (mVar 3)) (mPart (mOp dAdd (mVar 3) (mC (.int 1))))) (mVar 1))) (y := mOp dAdd (mVar 3) (mC (.int 1)))
      (e := [some (.ref r), some (.str [c]), some (.str p), none]) (k := h.length) (N := E.length) (fun j => .int (E.getD j 0 : Nat))
      (fun j acc g => g = h ++ [.lst acc] ∧ acc = nD (((E.take j).filter fun e => decide (p[e]? = some c)).map (· + 1)))
      (fun j acc g hj hi => by
        have : (h ++ [LO.lst acc])[r]? = some (.lst (nD E)) := by rw [List.getElem?_append_left (lt_of_get hr)]; exact hr
        rw [hi.1, itO_get this]
        unfold nD
        rw [List.getElem?_map]
        by_cases c : j < E.length
        · rw [if_pos c, List.getD_eq_getElem?_getD, List.getElem?_eq_getElem c]; rfl
        · rw [if_neg c, List.getElem?_eq_none (by omega)]; rfl)
      (fun j acc g hj hi => by rw [hi.1]; simp) (by
        rintro j acc g hj ⟨rfl, ea⟩
        have ej : E[j]? = some (E.getD j 0) := by rw [List.getD_eq_getElem?_getD, List.getElem?_eq_getElem hj]; rfl
        have et : E.take (j + 1) = E.take j ++ [E.getD j 0] := by rw [List.take_succ, ej]; rfl
        refine ⟨_, rfl, ?_⟩
        have al : acc.length ≤ E.length := by
          rw [ea]; unfold nD
          rw [List.length_map, List.length_map]
          refine Nat.le_trans (List.length_filter_le _ _) ?_
          rw [List.length_take]; omega
        by_cases q : p[E.getD j 0]? = some c
        · right
          refine ⟨h ++ [.lst acc], .int ((E.getD j 0 : Nat) + 1), h ++ [.lst acc], acc, ?_, rfl, by simp, by omega, ?_, ?_⟩
          · have := (cut_one (p := p) (e := E.getD j 0) c).mpr q
            generalize E.getD j 0 = z at *
            simp [dAdd_int, dSl_str hps, this, dEq_str]
          · simp
          · rw [et, List.filter_append, List.map_append, ea]
            have : List.filter (fun e => decide (p[e]? = some c)) [E.getD j 0] = [E.getD j 0] := by
              rw [List.filter_cons, if_pos (decide_eq_true q)]; rfl
            rw [this]
            unfold nD
            rw [List.map_append]
            rfl
        · left
          refine ⟨_, ?_, rfl, ?_⟩
          · have : ¬ cutD p (some ((E.getD j 0 : Nat) : Int)) (some (((E.getD j 0 : Nat) : Int) + 1)) = [c] := fun z => q ((cut_one c).mp z)
            generalize E.getD j 0 = z at *
            simp [dAdd_int, dSl_str hps, this, dEq_str]
          · rw [et, List.filter_append, ea]
            have : List.filter (fun e => decide (p[e]? = some c)) [E.getD j 0] = [] := by
              rw [List.filter_cons, if_neg (by simpa using q)]; rfl
            rw [this, List.append_nil]) E.length 0 [] (h ++ [.lst []]) (by omega) ⟨rfl, rfl⟩
    obtain ⟨acc, h', e2, rfl, ea⟩ := key
    rw [List.take_length] at ea
    refine ⟨h.length, h ++ [.lst acc], ?_, by rw [ea]; simp, Gr.push _ _⟩
    simp only [ev_seq]
    simp [hc, est, dNe_str, hr, wipeM, show (nD E).length = E.length from by unfold nD; rw [List.length_map], e2]
theorem endsB_len {p E : List Nat} {c : Nat} (hE : E.length ≤ p.length + 1) : (endsB p E c).length ≤ p.length + 1 := by
  unfold endsB
  by_cases h : c = 42
  · rw [if_pos h]
    cases E with
    | nil => exact Nat.zero_le _
    | cons a E => simp only [List.length_range']; omega
  · rw [if_neg h, List.length_map]
    exact Nat.le_trans (List.length_filter_le _ _) hE
theorem pmatch_ok {h : LH} {w p : List Nat} (hp : p.length ≤ 900) : ∃ h', L.f_part_matches [.str w, .str p] h = .ok (.bl (mt w p)) h' ∧ Gr h h' := by
  unfold L.f_part_matches
  rw [mkF_eq (by rfl)]
  unfold L.b_part_matches
  have hps : p.length ≤ 16777216 := by omega
  have key := loopF_list (t := .nm 3) (xs := w.map fun c => D.str [c]) (body := sSet 2 (mApp L.f_ends_behind (mCons (mVar 2) (mCons (mVar 3) (mCons (mVar 1) mNil)))))
    (fun j e g => Gr h g ∧ ∃ (r : Nat) (v : Option D) (E : List Nat), e = [some (.str w), some (.str p), some (.ref r), v] ∧ g[r]? = some (.lst (nD E)) ∧ E = (w.take j).foldl (endsB p) [0] ∧ E.Pairwise (· ≤ ·) ∧ (∀ e ∈ E, e ≤ p.length) ∧ E.length ≤ p.length + 1)
    (fun r => ∃ (g : LH) (q : Nat) (v : Option D), r = .next [some (.str w), some (.str p), some (.ref q), v] g ∧ Gr h g ∧ g[q]? = some (.lst (nD (w.foldl (endsB p) [0]))))
    (fun j d e g hd ⟨hG, r, v, E, he, hr, hE, hs, hb, hl⟩ => by
      subst he
      rw [List.getElem?_map] at hd
      cases es : w[j]? with
      | none => rw [es] at hd; cases hd
      | some ch =>
        rw [es] at hd
        cases hd
        have et : w.take (j + 1) = w.take j ++ [ch] := by rw [List.take_succ, es]; rfl
        obtain ⟨q, g', eq, hq, hG'⟩ := ends_ok (c := ch) hr (by omega) (by omega) hb
        refine ⟨[some (.str w), some (.str p), some (.ref r), some (.str [ch])], rfl, ?_⟩
        have hk := endsB_ok (c := ch) hs hb
        have eb : (sSet 2 (mApp L.f_ends_behind (mCons (mVar 2) (mCons (mVar 3) (mCons (mVar 1) mNil))))) [some (.str w), some (.str p), some (.ref r), some (.str [ch])] g = .next [some (.str w), some (.str p), some (.ref q), some (.str [ch])] g' := by
          simp [eq]
        rw [eb]
        refine ⟨hG.trans hG', q, _, endsB p E ch, rfl, hq, ?_, hk.1, hk.2, endsB_len hl⟩
        rw [et, List.foldl_append, ← hE]
        rfl)
    (fun e g ⟨hG, r, v, E, he, hr, hE, _⟩ => by
      rw [List.length_map, List.take_length] at hE
      subst hE
      exact ⟨g, r, v, by rw [he], hG, hr⟩) (e := [some (.str w), some (.str p), some (.ref h.length), none]) (h := h ++ [.lst [.int 0]])
      ⟨Gr.push _ _, h.length, none, [0], rfl, by simp [nD], rfl, List.pairwise_singleton _ _, by simp, by simp⟩
  rw [List.length_map] at key
  obtain ⟨g, q, v, er, hG, hq⟩ := key
  refine ⟨g, ?_, hG⟩
  have ein : dIn (.int p.length) (.ref q) g = .ok (.bl (decide (p.length ∈ w.foldl (endsB p) [0]))) g := by
    show (match seqD (.ref q) g with
      | some xs => if flD (.int p.length) && xs.all flD then Res.ok (D.bl (xs.any fun y => eqF y (.int p.length))) g else .bad
      | none => .bad) = _
    have e : seqD (.ref q) g = some (nD (w.foldl (endsB p) [0])) := by
      show (match g[q]? with
        | some (.lst xs) => some xs
        | _ => none) = _
      rw [hq]
    rw [e]
    generalize w.foldl (endsB p) [0] = E
    have e1 : (nD E).all flD = true := by
      unfold nD
      rw [List.all_map]
      exact List.all_eq_true.mpr fun _ _ => rfl
    have e2 : ((nD E).any fun y => eqF y (.int p.length)) = decide (p.length ∈ E) := by
      unfold nD
      rw [List.any_map, Bool.eq_iff_iff, List.any_eq_true, decide_eq_true_eq]
      constructor
      · rintro ⟨x, hx, hq⟩
        have : ((x : Int) == (p.length : Int)) = true := hq
        have := eq_of_beq this
        have : x = p.length := by omega
        rw [← this]; exact hx
      · intro hx
        exact ⟨_, hx, beq_self_eq_true _⟩
    simp only [e1, e2, flD, Bool.and_self, if_true]
  rw [pm_mt] at ein
  simp only [ev_seq]
  simp [er, dLen_str hps, ein]
/-- matching part by part -/
def mts : List (List Nat) → List (List Nat) → Bool
  | [], [] => true
  | w :: ws, p :: ps => mt w p && mts ws ps
  | _, _ => false
theorem mts_len : ∀ {ws ps : List (List Nat)}, mts ws ps = true → ws.length = ps.length
  | [], [], _ => rfl
  | [], _ :: _, h => by simp [mts] at h
  | _ :: _, [], h => by simp [mts] at h
  | w :: ws, p :: ps, h => by
    simp [mts] at h
    simp [mts_len h.2]
theorem cut1_le (k : Nat) : ∀ (s acc : List Nat), ∀ p ∈ cut1 k acc s, p.length ≤ acc.length + s.length := by
  intro s
  induction s with
  | nil =>
    intro acc p hp
    have : p = acc := by simpa [cut1] using hp
    rw [this]; simp
  | cons c r ih =>
    intro acc p hp
    unfold cut1 at hp
    by_cases h : c = k
    · rw [if_pos h] at hp
      rcases List.mem_cons.mp hp with rfl | hp
      · simp
      · have := ih [] p hp
        simp at this ⊢
        omega
    · rw [if_neg h] at hp
      have := ih _ p hp
      simp at this ⊢
      omega
theorem cut1_cnt (k : Nat) : ∀ (s acc : List Nat), (cut1 k acc s).length ≤ s.length + 1 := by
  intro s
  induction s with
  | nil => intro acc; simp [cut1]
  | cons c r ih =>
    intro acc
    unfold cut1
    by_cases h : c = k
    · rw [if_pos h]
      have := ih []
      simp
      omega
    · rw [if_neg h]
      have := ih (acc ++ [c])
      simp
      omega
theorem rng1_int {a : M (List D)} {e : EN} {h h1 : LH} {n : Int} (ha : a e h = .ok [.int n] h1) (hc : -(2 ^ 62) ≤ n ∧ n < 2 ^ 62) : iRng1M a e h = .ok (itN n.toNat, n.toNat) h1 := by
  rw [ev_rng1, ha]
  simp only [bind_ok]
  rw [if_pos hc]
theorem rng1_nat {a : M (List D)} {e : EN} {h h1 : LH} {n : Nat} (ha : a e h = .ok [.int n] h1) (hc : n ≤ 1000000000) : iRng1M a e h = .ok (itN n, n) h1 := by
  have := rng1_int ha ⟨by omega, by omega⟩
  rw [Int.toNat_natCast] at this
  exact this
theorem dSplit_one {s : List Nat} {k : Nat} {h : LH} (hk : k < 256) (hl : s.length ≤ 1000000) : dSplit (.str s) [.str [k]] h = .ok (.ref h.length) (h ++ [.lst ((cut1 k [] s).map D.str)]) := by
  show (if [k] ≠ [] ∧ [k].all (· < 256) = true ∧ s.length + 2 ≤ 16777216 then Res.ok (D.ref h.length) (h ++ [.lst ((TL.spl [k] 0 [] s).map D.str)]) else .bad) = _
  rw [if_pos ⟨by simp, by simp [hk], by omega⟩, spl_one]
theorem matches_ok {h : LH} {a b : List Nat} (ha : a.length ≤ 800) (hb : b.length ≤ 800) : ∃ h', L.f_matches [.str a, .str b] h = .ok (.bl (mts (cut1 47 [] a) (cut1 47 [] b))) h' ∧ Gr h h' := by
  unfold L.f_matches
  rw [mkF_eq (by rfl)]
  unfold L.b_matches
  have esl := S_eq "/"
  simp at esl
  have s1 := dSplit_one (s := a) (k := 47) (h := h) (by decide) (by omega)
  have lw := cut1_le 47 a []
  have lp := cut1_le 47 b []
  have lc := cut1_cnt 47 b []
  generalize cut1 47 [] a = ws at *
  have s2 := dSplit_one (s := b) (k := 47) (h := h ++ [.lst (ws.map D.str)]) (by decide) (by omega)
  generalize cut1 47 [] b = ps at *
  obtain ⟨h2, eh2⟩ : ∃ h2, h ++ [.lst (ws.map D.str)] ++ [.lst (ps.map D.str)] = h2 := ⟨_, rfl⟩
  rw [eh2] at s2
  have g1 : h2[h.length]? = some (.lst (ws.map D.str)) := by rw [← eh2]; simp
  have g2 : h2[h.length + 1]? = some (.lst (ps.map D.str)) := by rw [← eh2, List.append_assoc, List.getElem?_append_right (by omega)]; simp
  have hG : Gr h h2 := by rw [← eh2]; exact (Gr.push h _).trans (Gr.push _ _)
  have hlen : (h ++ [LO.lst (ws.map D.str)]).length = h.length + 1 := by simp
  rw [hlen] at s2
  have l1 : dLen [.ref h.length] h2 = .ok (.int ws.length) h2 := by rw [dLen_ref g1, List.length_map]
  have l2 : dLen [.ref (h.length + 1)] h2 = .ok (.int ps.length) h2 := by rw [dLen_ref g2, List.length_map]
  simp only [ev_seq]
  by_cases c : ws.length = ps.length
  · obtain ⟨B, hB⟩ : ∃ B : MS, B = sIf (mTNot (mTru (mApp L.f_part_matches (mCons (mOp dIx (mVar 2) (mVar 4)) (mCons (mOp dIx (mVar 3) (mVar 4)) mNil))))) (sRet (mC (.bl false))) sNil := ⟨_, rfl⟩
    have key := loopF_gen (g := itN ps.length) (t := .nm 4) (body := B) (N := ps.length) (fun j => .int (j : Nat))
      (fun j e g => Gr h2 g ∧ (∃ v, e = [some (.str a), some (.str b), some (.ref h.length), some (.ref (h.length + 1)), v]) ∧ mts (ws.drop j) (ps.drop j) = mts ws ps)
      (fun r => (∃ e g, r = .next e g ∧ Gr h2 g ∧ mts ws ps = true) ∨ ∃ g, r = .ret (.bl false) g ∧ Gr h2 g ∧ mts ws ps = false)
      (fun j e g hj hi => rfl) (by
        rintro j e g hj ⟨hg, ⟨v, rfl⟩, hm⟩
        have hw : j < ws.length := by omega
        rw [List.drop_eq_getElem_cons hw, List.drop_eq_getElem_cons hj] at hm
        have ix1 : dIx (.ref h.length) (.int j) g = .ok (.str ws[j]) g := dIx_ref (hg.get g1) (atI_of (by omega) (by
          rw [show ((j : Int)).toNat = j from by omega, List.getElem?_map, List.getElem?_eq_getElem hw]; rfl))
        have ix2 : dIx (.ref (h.length + 1)) (.int j) g = .ok (.str ps[j]) g := dIx_ref (hg.get g2) (atI_of (by omega) (by
          rw [show ((j : Int)).toNat = j from by omega, List.getElem?_map, List.getElem?_eq_getElem hj]; rfl))
        have hl := lp ps[j] (List.getElem_mem hj)
        obtain ⟨g', ep, gp⟩ := pmatch_ok (h := g) (w := ws[j]) (p := ps[j]) (by simp at hl; omega)
        refine ⟨[some (.str a), some (.str b), some (.ref h.length), some (.ref (h.length + 1)), some (.int (j : Nat))], rfl, ?_⟩
        by_cases q : mt ws[j] ps[j] = true
        · have eb : B [some (.str a), some (.str b), some (.ref h.length), some (.ref (h.length + 1)), some (.int (j : Nat))] g = .next [some (.str a), some (.str b), some (.ref h.length), some (.ref (h.length + 1)), some (.int (j : Nat))] g' := by
            subst hB
            simp [ix1, ix2, ep, q, truD]
          rw [eb]
          refine ⟨hg.trans gp, ⟨_, rfl⟩, ?_⟩
          rw [← hm]
          show _ = (mt ws[j] ps[j] && mts (ws.drop (j + 1)) (ps.drop (j + 1)))
          rw [q, Bool.true_and]
        · have q' : mt ws[j] ps[j] = false := by simpa using q
          have eb : B [some (.str a), some (.str b), some (.ref h.length), some (.ref (h.length + 1)), some (.int (j : Nat))] g = .ret (.bl false) g' := by
            subst hB
            simp [ix1, ix2, ep, q', truD]
          rw [eb]
          refine .inr ⟨g', rfl, hg.trans gp, ?_⟩
          rw [← hm]
          show (mt ws[j] ps[j] && mts (ws.drop (j + 1)) (ps.drop (j + 1))) = false
          rw [q', Bool.false_and])
      (fun e g ⟨hg, _, hm⟩ => by
        rw [List.drop_length, ← c, List.drop_length] at hm
        exact .inl ⟨e, g, rfl, hg, hm.symm⟩) ps.length 0 [some (.str a), some (.str b), some (.ref h.length), some (.ref (h.length + 1)), none] h2 (by omega) ⟨Gr.refl _, ⟨none, rfl⟩, rfl⟩
    subst hB
    have er1 := rng1_nat (a := mCons (mApp dLen (mCons (mVar 3) mNil)) mNil) (e := [some (.str a), some (.str b), some (.ref h.length), some (.ref (h.length + 1)), none]) (h := h2) (h1 := h2) (n := ps.length) (by simp [l2]) (Nat.le_trans lc (by omega))
    rcases key with ⟨e, g, er, hg, hm⟩ | ⟨g, er, hg, hm⟩
    · exact ⟨g, by simp [esl, isStr, s1, s2, l1, l2, dNe_int, c, er1, er, hm], hG.trans hg⟩
    · exact ⟨g, by simp [esl, isStr, s1, s2, l1, l2, dNe_int, c, er1, er, hm], hG.trans hg⟩
  · have hm : mts ws ps = false := by
      cases e : mts ws ps with
      | false => rfl
      | true => exact absurd (mts_len e) c
    have c' : ¬ (ws.length : Int) = ps.length := by omega
    exact ⟨h2, by simp [esl, isStr, s1, s2, l1, l2, dNe_int, c', c, hm], hG⟩
end HM
set_option Elab.async false
set_option linter.all false
set_option maxRecDepth 100000
set_option maxHeartbeats 4000000
namespace HM
open PySem L2
/-! ### facts of matching; cut and join -/
theorem mt_app : ∀ {w w' p p' : List Nat}, mt w p = true → mt w' p' = true → mt (w ++ w') (p ++ p') = true
  | [], w', p, p', h, h' => by
    have : p = [] := by simpa [mt] using h
    rw [this]; exact h'
  | c :: w, w', p, p', h, h' => by
    rw [List.cons_append, mt_cons]
    rw [mt_cons] at h
    by_cases q : c = 42
    · rw [if_pos q] at h ⊢
      obtain ⟨k, hk, hm⟩ := List.any_eq_true.mp h
      have hk' := List.mem_range.mp hk
      refine List.any_eq_true.mpr ⟨k, List.mem_range.mpr (by rw [List.length_append]; omega), ?_⟩
      rw [List.drop_append_of_le_length (by omega)]
      exact mt_app hm h'
    · rw [if_neg q] at h ⊢
      cases p with
      | nil => cases h
      | cons d p =>
        simp at h ⊢
        exact ⟨h.1, mt_app h.2 h'⟩
theorem mt_star (x : List Nat) : mt [42] x = true := by
  rw [mt_cons, if_pos rfl]
  refine List.any_eq_true.mpr ⟨x.length, List.mem_range.mpr (by omega), ?_⟩
  simp [mt]
theorem mt_chr {c : Nat} : mt [c] [c] = true := by
  by_cases h : c = 42
  · rw [h]; exact mt_star _
  · rw [mt_cons, if_neg h]
    simp [mt]
theorem mt_stars : ∀ {w : List Nat} (x : List Nat), w ≠ [] → (∀ c ∈ w, c = 42) → mt w x = true
  | [], _, h, _ => absurd rfl h
  | [a], x, _, h => by rw [h a (by simp)]; exact mt_star x
  | a :: b :: w, x, _, h => by
    have e := mt_stars (w := b :: w) x (by simp) fun c hc => h c (List.mem_cons_of_mem _ hc)
    have := mt_app (w := [42]) (p := []) (mt_star []) e
    rw [h a (by simp)]
    exact this
theorem mt_self : ∀ (p : List Nat), mt p p = true
  | [] => rfl
  | a :: p => mt_app (w := [a]) (p := [a]) mt_chr (mt_self p)
theorem mts_self : ∀ (p : List (List Nat)), mts p p = true
  | [] => rfl
  | a :: p => by simp [mts, mt_self a, mts_self p]
theorem mts_snoc : ∀ {ws ps : List (List Nat)} {w p : List Nat}, mts ws ps = true → mt w p = true → mts (ws ++ [w]) (ps ++ [p]) = true
  | [], [], _, _, _, h => by simp [mts, h]
  | [], _ :: _, _, _, h, _ => by simp [mts] at h
  | _ :: _, [], _, _, h, _ => by simp [mts] at h
  | w :: ws, p :: ps, _, _, h, h2 => by
    simp [mts] at h ⊢
    exact ⟨h.1, mts_snoc h.2 h2⟩
theorem mts_no {ws ps : List (List Nat)} (h : ws.length ≠ ps.length) : mts ws ps = false := by
  cases e : mts ws ps with
  | false => rfl
  | true => exact absurd (mts_len e) h
theorem cut_join {ps : List (List Nat)} (hne : ps ≠ []) (h : ∀ p ∈ ps, 47 ∉ p) : cut1 47 [] (TL.joinL [47] ps) = ps := by
  rw [← spl_one]
  exact TL.spl_join hne h
theorem joinL_snoc {a : List Nat} : ∀ {ps : List (List Nat)} {p : List Nat}, ps ≠ [] → TL.joinL a (ps ++ [p]) = TL.joinL a ps ++ (a ++ p)
  | [], _, h => absurd rfl h
  | [x], p, _ => rfl
  | x :: y :: ps, p, _ => by
    have e := joinL_snoc (a := a) (ps := y :: ps) (p := p) (by simp)
    show x ++ (a ++ TL.joinL a (y :: ps ++ [p])) = x ++ (a ++ TL.joinL a (y :: ps)) ++ (a ++ p)
    rw [e]
    simp
theorem dSl_ref {h : LH} {r : Nat} {xs : List D} {lo hi : Option Int} (hr : h[r]? = some (LO.lst xs)) : dSl (.ref r) lo hi h = .ok (.ref h.length) (h ++ [LO.lst (cutD xs lo hi)]) := by
  show (match seqD (.ref r) h with
    | some xs => Res.ok (D.ref h.length) (h ++ [LO.lst (cutD xs lo hi)])
    | none => .bad) = _
  have e : seqD (.ref r) h = some xs := by
    show (match h[r]? with
      | some (.lst xs) => some xs
      | _ => none) = _
    rw [hr]
  rw [e]
theorem joinP {h : LH} {r : Nat} {ss : List (List Nat)} {m : Nat} (hr : h[r]? = some (.lst (ss.map D.str))) (hm : ∀ s ∈ ss, s.length ≤ m) (hl : ss.length ≤ 100) (hm2 : m ≤ 10000) :
    dJoin (S "/") [.ref r] h = .ok (.str (TL.joinL [47] ss)) h ∧ (TL.joinL [47] ss).length ≤ ss.length * m + ss.length := by
  have esl := S_eq "/"
  simp at esl
  rw [esl]
  have h1 := sum_le ss m hm
  have h2 : ss.length * m ≤ 100 * 10000 := Nat.mul_le_mul hl hm2
  refine ⟨dJoin_ref hr (by simp; omega), ?_⟩
  have := joinL_len [47] ss
  simp at this
  omega
theorem SF.ne {r : Nat} {h h' : LH} (s : SF r h h') : h'.length ≠ 0 := by
  obtain ⟨a, b, e⟩ := s.st
  have := lt_of_get e
  omega
/-- a list's change keeps the stream -/
theorem SF.setO {r i : Nat} {h : LH} {o : LO} (s : StrAt h r) (hi : i ≠ r) : StrAt (h.set i o) r := by
  obtain ⟨a, b, e⟩ := s
  exact ⟨a, b, by rw [List.getElem?_set_ne hi]; exact e⟩
end HM
set_option Elab.async false
set_option linter.all false
set_option maxRecDepth 100000
set_option maxHeartbeats 4000000
namespace HM
open PySem L2
/-! ### the law's table -/
/-- all old objects stand -/
structure Kp (h g : LH) : Prop where
  le : h.length ≤ g.length
  keep : ∀ i, i < h.length → g[i]? = h[i]?
theorem Kp.refl (h : LH) : Kp h h := ⟨Nat.le_refl _, fun _ _ => rfl⟩
theorem Kp.trans {a b c : LH} (x : Kp a b) (y : Kp b c) : Kp a c := ⟨Nat.le_trans x.le y.le, fun i hi => (y.keep i (Nat.lt_of_lt_of_le hi x.le)).trans (x.keep i hi)⟩
theorem Kp.push (h : LH) (x : List LO) : Kp h (h ++ x) := ⟨by simp, fun i hi => List.getElem?_append_left hi⟩
theorem Kp.of_gr {h g : LH} (x : Gr h g) : Kp h g := by
  obtain ⟨y, rfl⟩ := x
  exact Kp.push h y
theorem Kp.get {h g : LH} (x : Kp h g) {i : Nat} {o : LO} (e : h[i]? = some o) : g[i]? = some o := (x.keep i (lt_of_get e)).trans e
theorem Kp.set {h g : LH} (x : Kp h g) {i : Nat} {o : LO} (hi : h.length ≤ i) : Kp h (g.set i o) := ⟨by simpa using x.le, fun k hk => by rw [List.getElem?_set_ne (by omega)]; exact x.keep k hk⟩
theorem mt_star_step {w p : List Nat} {k : Nat} (hk : k ≤ p.length) : mt (42 :: w) (p.drop k) = (mt w (p.drop k) || (decide (k < p.length) && mt (42 :: w) (p.drop (k + 1)))) := by
  rw [mt_cons, if_pos rfl]
  rw [Bool.eq_iff_iff, Bool.or_eq_true, Bool.and_eq_true, decide_eq_true_eq]
  rw [mt_cons, if_pos rfl]
  simp only [List.any_eq_true, List.mem_range, List.length_drop, List.drop_drop]
  constructor
  · rintro ⟨x, hx, hm⟩
    cases x with
    | zero => exact .inl hm
    | succ x =>
      refine .inr ⟨by omega, x, by omega, ?_⟩
      rw [show k + 1 + x = k + (x + 1) by omega]
      exact hm
  · rintro (h | ⟨hk', x, hx, hm⟩)
    · exact ⟨0, by omega, h⟩
    · refine ⟨x + 1, by omega, ?_⟩
      rw [show k + (x + 1) = k + 1 + x by omega]
      exact hm
theorem mt_chr_step {w p : List Nat} {c k : Nat} (hc : c ≠ 42) (hk : k < p.length) : mt (c :: w) (p.drop k) = (decide (p[k] = c) && mt w (p.drop (k + 1))) := by
  rw [mt_cons, if_neg hc, List.drop_eq_getElem_cons hk]
theorem mt_chr_end {w p : List Nat} {c : Nat} (hc : c ≠ 42) : mt (c :: w) (p.drop p.length) = false := by
  rw [mt_cons, if_neg hc, List.drop_length]
/-- the row of a suffix of the pattern -/
def rowB (w p : List Nat) : List D := (List.range (p.length + 1)).map fun k => D.bl (mt w (p.drop k))
/-- the fresh row behind j steps -/
def frB (w p : List Nat) (j : Nat) : List D := (List.range (p.length + 1)).map fun k => D.bl (decide (p.length < k + j) && mt w (p.drop k))
theorem row_get {w p : List Nat} {k : Nat} (h : k ≤ p.length) : (rowB w p)[k]? = some (.bl (mt w (p.drop k))) := by
  unfold rowB
  rw [List.getElem?_map, List.getElem?_range (by omega)]
  rfl
theorem fr_get {w p : List Nat} {k j : Nat} (h : k ≤ p.length) : (frB w p j)[k]? = some (.bl (decide (p.length < k + j) && mt w (p.drop k))) := by
  unfold frB
  rw [List.getElem?_map, List.getElem?_range (by omega)]
  rfl
theorem fr_len {w p : List Nat} {j : Nat} : (frB w p j).length = p.length + 1 := by unfold frB; simp
theorem fr_set {w p : List Nat} {j : Nat} (hj : j ≤ p.length) : (frB w p j).set (p.length - j) (.bl (mt w (p.drop (p.length - j)))) = frB w p (j + 1) := by
  apply List.ext_getElem?
  intro k
  rw [List.getElem?_set]
  by_cases hk : k ≤ p.length
  · rw [fr_get hk, fr_len]
    by_cases e : p.length - j = k
    · rw [if_pos e, if_pos (by omega), e, fr_get hk, decide_eq_true (by omega), Bool.true_and]
    · rw [if_neg e, fr_get hk]
      congr 2
      rw [show decide (p.length < k + j) = decide (p.length < k + (j + 1)) from decide_eq_decide.mpr (by omega)]
  · rw [if_neg (by omega), List.getElem?_eq_none (by rw [fr_len]; omega), List.getElem?_eq_none (by rw [fr_len]; omega)]
theorem fr_zero {w p : List Nat} : frB w p 0 = (List.range (p.length + 1)).map fun _ => D.bl false := by
  unfold frB
  refine List.map_congr_left fun k hk => ?_
  have := List.mem_range.mp hk
  rw [decide_eq_false (by omega), Bool.false_and]
theorem fr_full {w p : List Nat} : frB w p (p.length + 1) = rowB w p := by
  unfold frB rowB
  refine List.map_congr_left fun k hk => ?_
  rw [decide_eq_true (by omega), Bool.true_and]
theorem row_nil {p : List Nat} : (List.range (p.length + 1)).map (fun k : Nat => D.bl (decide ((k : Int) = p.length))) = rowB [] p := by
  unfold rowB
  refine List.map_congr_left fun k hk => ?_
  have := List.mem_range.mp hk
  congr 1
  show _ = (p.drop k).isEmpty
  by_cases e : k = p.length
  · rw [e]; simp
  · rw [decide_eq_false (by omega)]
    symm
    simp
    omega
def tabIn : MS := (sSeq (sSet 7 (mOp dSub (mApp dLen (mCons (mVar 1) mNil)) (mVar 6)))
    (sIf (mTst (mOp dEq (mVar 4) (mC (S "*")))) (sSetL (mVar 5) (mVar 7) (mOr (mOp dIx (mVar 2) (mVar 7)) (mAnd (mOp dGt (mVar 6) (mC (.int 0))) (mOp dIx (mVar 5) (mOp dAdd (mVar 7) (mC (.int 1))))))) (sIf (mTst (mOp dGt (mVar 6) (mC (.int 0)))) (sSetL (mVar 5) (mVar 7) (mAnd (mOp dEq (mOp dIx (mVar 1) (mVar 7)) (mVar 4)) (mOp dIx (mVar 2) (mOp dAdd (mVar 7) (mC (.int 1)))))) sNil)))
def TE8 (w p : List Nat) (r : Nat) (v3 v4 v5 v6 v7 : Option D) : EN := [some (.str w), some (.str p), some (.ref r), v3, v4, v5, v6, v7]
theorem tab_in {w w0 p : List Nat} {c r q : Nat} {v3 v6 v7 : Option D} {h : LH} (hp : p.length ≤ 1000) (hr : h[r]? = some (.lst (rowB w p))) (hq : h[q]? = some (.lst (frB (c :: w) p 0))) (hrq : r ≠ q) :
    ∃ v6' v7' g, loopF (itN (p.length + 1)) (.nm 6) tabIn (p.length + 1) 0 (TE8 w0 p r v3 (some (.str [c])) (some (.ref q)) v6 v7) h = .next (TE8 w0 p r v3 (some (.str [c])) (some (.ref q)) v6' v7') g ∧ g = h.set q (.lst (rowB (c :: w) p)) := by
  have est := S_eq "*"
  simp at est
  have hps : p.length ≤ 16777216 := by omega
  have hql := lt_of_get hq
  have key := loopF_gen (g := itN (p.length + 1)) (t := .nm 6) (body := tabIn) (N := p.length + 1) (fun j => .int (j : Nat))
    (fun j e g => g = h.set q (.lst (frB (c :: w) p j)) ∧ ∃ v6 v7, e = TE8 w0 p r v3 (some (.str [c])) (some (.ref q)) v6 v7)
    (fun r' => ∃ v6 v7' g, r' = .next (TE8 w0 p r v3 (some (.str [c])) (some (.ref q)) v6 v7') g ∧ g = h.set q (.lst (rowB (c :: w) p)))
    (fun j e g hj hi => rfl) (by
      rintro j e g hj ⟨rfl, v6, v7, rfl⟩
      refine ⟨TE8 w0 p r v3 (some (.str [c])) (some (.ref q)) (some (.int (j : Nat))) v7, rfl, ?_⟩
      have hj' : j ≤ p.length := by omega
      obtain ⟨g, hg⟩ : ∃ g, h.set q (.lst (frB (c :: w) p j)) = g := ⟨_, rfl⟩
      have gr : g[r]? = some (.lst (rowB w p)) := by rw [← hg, List.getElem?_set_ne (Ne.symm hrq)]; exact hr
      have gq : g[q]? = some (.lst (frB (c :: w) p j)) := by rw [← hg, List.getElem?_set_self hql]
      obtain ⟨k, hk⟩ : ∃ k, p.length - j = k := ⟨_, rfl⟩
      have hki : (p.length : Int) - j = k := by omega
      have hkp : k ≤ p.length := by omega
      have eb : tabIn (TE8 w0 p r v3 (some (.str [c])) (some (.ref q)) (some (.int (j : Nat))) v7) g = .next (TE8 w0 p r v3 (some (.str [c])) (some (.ref q)) (some (.int (j : Nat))) (some (.int (k : Nat)))) (g.set q (.lst (frB (c :: w) p (j + 1)))) := by
        have hs : ∀ b, b = mt (c :: w) (p.drop k) → setL (.ref q) (.int (k : Nat)) (.bl b) g = some (g.set q (.lst (frB (c :: w) p (j + 1)))) := by
          intro b hb
          have hix : ixN (frB (c :: w) p j).length (k : Int) = some k := by
            rw [fr_len]
            unfold ixN
            simp
            omega
          rw [setL_ref gq hix, hb, ← hk, fr_set hj']
        have i1 : dIx (.ref r) (.int (k : Nat)) g = .ok (.bl (mt w (p.drop k))) g := dIx_ref gr (atI_of (by omega) (by rw [show ((k : Int)).toNat = k by omega]; exact row_get hkp))
        unfold tabIn TE8
        rw [ev_seq]
        simp only [ev_set, ev_op, ev_app, ev_cons, ev_nil, ev_var]
        simp [dLen_str hps, dSub_int, hki]
        by_cases hc : c = 42
        · subst hc
          by_cases h0 : j = 0
          · have := hs (mt w (p.drop k)) (by
              rw [mt_star_step hkp, decide_eq_false (by omega), Bool.false_and, Bool.or_false])
            simp [est, dEq_str, i1, h0, dGt_int]
            cases em : mt w (p.drop k)
            · rw [em] at this; simp [this, h0]
            · rw [em] at this; simp [this, h0]
          · have i2 : dIx (.ref q) (.int ((k : Int) + 1)) g = .ok (.bl (mt (42 :: w) (p.drop (k + 1)))) g := dIx_ref gq (atI_of (by omega) (by
              rw [show ((k : Int) + 1).toNat = k + 1 by omega, fr_get (by omega), decide_eq_true (by omega), Bool.true_and]))
            have := hs (mt w (p.drop k) || mt (42 :: w) (p.drop (k + 1))) (by
              rw [mt_star_step hkp, decide_eq_true (show k < p.length by omega), Bool.true_and])
            have hj0 : (0 : Int) < j := by omega
            simp [est, dEq_str, i1, dGt_int, hj0, dAdd_int, i2]
            cases em : mt w (p.drop k)
            · rw [em, Bool.false_or] at this; simp [this, h0, i2, dAdd_int, dGt_int, show 0 < j by omega]
            · rw [em, Bool.true_or] at this; simp [this, h0]
        · by_cases h0 : j = 0
          · have hkk : k = p.length := by omega
            have e1 : frB (c :: w) p (j + 1) = frB (c :: w) p j := by
              rw [← fr_set hj', hk, hkk, mt_chr_end hc]
              apply List.ext_getElem?
              intro x
              rw [List.getElem?_set]
              split
              · rename_i e
                rw [if_pos (by rw [fr_len]; omega), ← e, fr_get (Nat.le_refl _), mt_chr_end hc, Bool.and_false]
              · rfl
            have e2 : g.set q (.lst (frB (c :: w) p j)) = g := by
              rw [← hg, List.set_set]
            simp [est, dEq_str, hc, h0, dGt_int, e1]
            rw [h0] at e2
            rw [show (1 : Nat) = 0 + 1 from rfl]
            rw [h0] at e1
            rw [e1, e2]
          · have hkl : k < p.length := by omega
            have i2 : dIx (.str p) (.int (k : Nat)) g = .ok (.str [p[k]]) g := dIx_str hps (atI_of (by omega) (by rw [show ((k : Int)).toNat = k by omega]; exact List.getElem?_eq_getElem hkl))
            have i3 : dIx (.ref r) (.int ((k : Int) + 1)) g = .ok (.bl (mt w (p.drop (k + 1)))) g := dIx_ref gr (atI_of (by omega) (by rw [show ((k : Int) + 1).toNat = k + 1 by omega]; exact row_get (by omega)))
            have := hs (decide (p[k] = c) && mt w (p.drop (k + 1))) (mt_chr_step hc hkl).symm
            have hj0 : (0 : Int) < j := by omega
            simp [est, dEq_str, hc, dGt_int, hj0, h0, i2]
            by_cases em : p[k] = c
            · rw [decide_eq_true em, Bool.true_and] at this; simp [em, dAdd_int, i3, this]; exact fun z => absurd z h0
            · rw [decide_eq_false em, Bool.false_and] at this; simp [em, this]; exact fun z => absurd z h0
      rw [hg, eb]
      refine ⟨?_, _, _, rfl⟩
      rw [← hg, List.set_set])
    (fun e g ⟨hg, v6, v7, he⟩ => ⟨v6, v7, g, by rw [he], by rw [hg, fr_full]⟩) (p.length + 1) 0 (TE8 w0 p r v3 (some (.str [c])) (some (.ref q)) v6 v7) h (by omega) ⟨by
      have : h.set q (.lst (frB (c :: w) p 0)) = h := by
        apply List.ext_getElem?
        intro i
        rw [List.getElem?_set]
        split
        · rename_i e
          subst e
          first
            | exact hq.symm
            | (rw [if_pos hql]; exact hq.symm)
        · rfl
      exact this.symm, v6, v7, rfl⟩
  exact key
theorem tab_ok {w p : List Nat} {h : LH} (hw : w.length ≤ 1000) (hp : p.length ≤ 1000) : ∃ g, L.f__law_part_matches [.str w, .str p] h = .ok (.bl (mt w p)) g ∧ Kp h g := by
  unfold L.f__law_part_matches
  rw [mkF_eq (by rfl)]
  unfold L.b__law_part_matches
  have hws : w.length ≤ 16777216 := by omega
  have hps : p.length ≤ 16777216 := by omega
  -- the row behind the end
  have c1 := compP (it := itN (p.length + 1)) (i := 7) (n := p.length + 1) (y := mOp dEq (mVar 7) (mApp dLen (mCons (mVar 1) mNil))) (e := [some (.str w), some (.str p), none, none, none, none, none, none]) (h := h)
    (fun k => .bl (decide ((k : Int) = p.length))) (fun j => .int (j : Nat)) (by omega) (fun j g hj => rfl) (by
      intro j acc hj
      simp [dLen_str hps, dEq_int])
  rw [row_nil] at c1
  have r1 : ∀ e g, e[1]? = some (some (D.str p)) → iRng1M (mCons (mOp dAdd (mApp dLen (mCons (mVar 1) mNil)) (mC (.int 1))) mNil) e g = .ok (itN (p.length + 1), p.length + 1) g := by
    intro e g he
    exact rng1_nat (n := p.length + 1) (by simp [he, dLen_str hps, dAdd_int]) (by omega)
  have r0 : ∀ e g, e[0]? = some (some (D.str w)) → iRng1M (mCons (mApp dLen (mCons (mVar 0) mNil)) mNil) e g = .ok (itN w.length, w.length) g := by
    intro e g he
    exact rng1_nat (n := w.length) (by simp only [ev_cons, ev_app, ev_var, ev_nil, he]; simp [dLen_str hws]) (by omega)
  refine ?_
  obtain ⟨B, hB⟩ : ∃ B : MS, B = sSeq (sSet 4 (mOp dIx (mVar 0) (mOp dSub (mOp dSub (mApp dLen (mCons (mVar 0) mNil)) (mC (.int 1))) (mVar 3))))
    (sSeq (sSet 5 (mLc (iRng1M (mCons (mOp dAdd (mApp dLen (mCons (mVar 1) mNil)) (mC (.int 1))) mNil)) (.nm 7) mYes (mC (.bl false)) [7]))
    (sSeq (sFor (iRng1M (mCons (mOp dAdd (mApp dLen (mCons (mVar 1) mNil)) (mC (.int 1))) mNil)) (.nm 6) tabIn)
    (sSet 2 (mVar 5)))) := ⟨_, rfl⟩
  have key := loopF_gen (g := itN w.length) (t := .nm 3) (body := B) (N := w.length) (fun j => .int (j : Nat))
    (fun j e g => Kp h g ∧ ∃ (r : Nat) (v3 v4 v5 v6 v7 : Option D), e = TE8 w p r v3 v4 v5 v6 v7 ∧ h.length ≤ r ∧ g[r]? = some (.lst (rowB (w.drop (w.length - j)) p)))
    (fun r' => ∃ (r : Nat) (v3 v4 v5 v6 v7 : Option D) (g : LH), r' = .next (TE8 w p r v3 v4 v5 v6 v7) g ∧ Kp h g ∧ g[r]? = some (.lst (rowB w p)))
    (fun j e g hj hi => rfl) (by
      rintro j e g hj ⟨K, r, v3, v4, v5, v6, v7, rfl, hr, gr⟩
      refine ⟨TE8 w p r (some (.int (j : Nat))) v4 v5 v6 v7, rfl, ?_⟩
      obtain ⟨i, hi⟩ : ∃ i, w.length - (j + 1) = i := ⟨_, rfl⟩
      have hil : i < w.length := by omega
      have hii : (w.length : Int) - 1 - j = (i : Nat) := by omega
      have hd : w.drop (w.length - (j + 1)) = w[i] :: w.drop (w.length - j) := by
        rw [hi, List.drop_eq_getElem_cons hil, show i + 1 = w.length - j by omega]
      have ix : dIx (.str w) (.int (i : Nat)) g = .ok (.str [w[i]]) g := dIx_str hws (atI_of (by omega) (by rw [show ((i : Int)).toNat = i by omega]; exact List.getElem?_eq_getElem hil))
      have c2 := compP (it := itN (p.length + 1)) (i := 7) (n := p.length + 1) (y := mC (.bl false)) (e := TE8 w p r (some (.int (j : Nat))) (some (.str [w[i]])) v5 v6 none) (h := g)
        (fun k => .bl false) (fun j => .int (j : Nat)) (by omega) (fun j g hj => rfl) (by
          intro j acc hj
          simp)
      rw [← fr_zero (w := w[i] :: w.drop (w.length - j))] at c2
      obtain ⟨u6, u7, g2, e2, hg2⟩ := tab_in (w := w.drop (w.length - j)) (w0 := w) (p := p) (c := w[i]) (r := r) (q := g.length) (v3 := some (.int (j : Nat))) (v6 := v6) (v7 := v7) (h := g ++ [.lst (frB (w[i] :: w.drop (w.length - j)) p 0)]) hp
        (by rw [List.getElem?_append_left (lt_of_get gr)]; exact gr) (by simp) (by have := lt_of_get gr; omega)
      have hl := lt_of_get gr
      have gl := K.le
      have eb : B (TE8 w p r (some (.int (j : Nat))) v4 v5 v6 v7) g = .next (TE8 w p g.length (some (.int (j : Nat))) (some (.str [w[i]])) (some (.ref g.length)) u6 u7) g2 := by
        subst hB
        unfold TE8 at c2 e2 ⊢
        rw [ev_seq]
        simp [dLen_str hws, dSub_int, hii, ix]
        rw [ev_seq]
        simp [r1, wipeM, c2]
        rw [ev_seq]
        simp [r1, e2]
      rw [eb]
      refine ⟨?_, g.length, _, _, _, _, _, rfl, gl, ?_⟩
      · rw [hg2]
        exact (K.trans (Kp.push g _)).set gl
      · rw [hg2, hd, List.getElem?_set_self (by simp)])
    (fun e g ⟨K, r, v3, v4, v5, v6, v7, he, hr, gr⟩ => ⟨r, v3, v4, v5, v6, v7, g, by rw [he], K, by rw [Nat.sub_self, List.drop_zero] at gr; exact gr⟩) w.length 0 (TE8 w p h.length none none none none none) (h ++ [.lst (rowB [] p)]) (by omega)
    ⟨Kp.push h _, h.length, none, none, none, none, none, rfl, Nat.le_refl _, by rw [Nat.sub_zero, List.drop_length]; simp⟩
  obtain ⟨r, v3, v4, v5, v6, v7, g, er, K, gr⟩ := key
  subst hB
  unfold tabIn at er
  have ix : dIx (.ref r) (.int 0) g = .ok (.bl (mt w p)) g := dIx_ref gr (atI_of (by decide) (row_get (k := 0) (Nat.zero_le _)))
  refine ⟨g, ?_, K⟩
  rw [ev_seq]
  unfold TE8 at er
  simp [r1, wipeM, c1]
  rw [ev_seq]
  simp [r0, er, ix]
end HM
set_option Elab.async false
set_option linter.all false
set_option maxRecDepth 100000
set_option maxHeartbeats 4000000
namespace G
open PySem L2 PySem.Spec PyProof.Rows HM L
def top (i : Nat) : Stmt := PySem.Challenge.pw_sealchart_k06_matches_by_a_table.main.body.getD i (.Pass ⟨0, 0, 0, 0⟩)
structure Tx (K : PySem.W.Frag) (mg : Str → Option Value) : Prop where
  z_bool : mg "bool" = none
  z_int : mg "int" = none
  z_isinstance : mg "isinstance" = none
  z_len : mg "len" = none
  z_list : mg "list" = none
  z_min : mg "min" = none
  z_range : mg "range" = none
/-! ### ends_behind -/
abbrev st_ends_behind : Stmt := top 3
def N_ends_behind : List Str := ["ends", "char", "part", "end"]
/-! ### part_matches -/
abbrev st_part_matches : Stmt := top 2
def N_part_matches : List Str := ["wanted", "part", "ends", "char"]
/-! ### matches -/
abbrev st_matches : Stmt := top 1
def N_matches : List Str := ["pattern", "path", "wanted", "parts", "k"]
/-! ### _law_cell -/
abbrev st__law_cell : Stmt := top 5
def N__law_cell : List Str := ["_law_script", "_law_k"]
/-! ### _law_stream -/
abbrev st__law_stream : Stmt := top 6
def N__law_stream : List Str := ["_law_cell_here"]
/-! ### _law_take -/
abbrev st__law_take : Stmt := top 7
def N__law_take : List Str := ["_law_stream_here", "_law_many", "_law_worth"]
/-! ### _law_says -/
abbrev st__law_says : Stmt := top 8
def N__law_says : List Str := ["_law_actual", "_law_expected"]
/-! ### _law_part_matches -/
abbrev st__law_part_matches : Stmt := top 9
def N__law_part_matches : List Str := ["_law_wanted", "_law_part_here", "_law_row", "_law_back", "_law_char", "_law_fresh", "_law_step", "_law_k"]
/-! ### _law_part -/
abbrev st__law_part : Stmt := top 10
def N__law_part : List Str := ["_law_stream_here", "_law_most", "_law_chars", "_law_size", "_law_k"]
def b__law_part : MS := (sSeq (sSet 3 (mOp dAdd (mC (.int 1)) (mApp f__law_take (mCons (mVar 0) (mCons (mVar 1) mNil)))))
    (sRet (mMet isStr dJoin (mC (S "")) (mCons (mLc (iRng1M (mCons (mVar 3) mNil)) (.nm 4) mYes (mOp dIx (mVar 2) (mApp f__law_take (mCons (mVar 0) (mCons (mApp dLen (mCons (mVar 2) mNil)) mNil)))) [4]) mNil))))
def f__law_part : MF := mkF 3 5 b__law_part
/-! ### _law_like -/
abbrev st__law_like : Stmt := top 11
def N__law_like : List Str := ["_law_stream_here", "_law_part_here", "_law_chars", "_law_text", "_law_char", "_law_place"]
/-! ### law -/
abbrev st_law : Stmt := top 12
def N_law : List Str := ["_law_script", "_law_stream_here", "_law_chars", "_law_wanted", "_law_k", "_law_parts", "_law_due", "_law_part_here"]
def b_law : MS := (sSeq (sSet 1 (mApp f__law_stream (mCons (mApp f__law_cell (mCons (mVar 0) (mCons (mC (.int 0)) mNil))) mNil)))
    (sSeq (sSet 2 (mOp dIx (mLst (mCons (mC (S "ab")) (mCons (mC (S "a.b")) (mCons (mC (S "abcdefghijklmnopqrstuvwxyz0123456789.-_")) mNil)))) (mApp f__law_take (mCons (mVar 1) (mCons (mC (.int 3)) mNil)))))
    (sSeq (sSet 3 (mLst mNil))
    (sSeq (sFor (iRng1M (mCons (mOp dAdd (mC (.int 1)) (mApp f__law_take (mCons (mVar 1) (mCons (mC (.int 3)) mNil)))) mNil)) (.nm 4) (sExpr (mMet isLst dAppend (mVar 3) (mCons (mApp f__law_part (mCons (mVar 1) (mCons (mC (.int 7)) (mCons (mOp dAdd (mVar 2) (mC (S "*"))) mNil)))) mNil))))
    (sSeq (sIf (mTst (mOp dEq (mApp f__law_take (mCons (mVar 1) (mCons (mC (.int 4)) mNil))) (mC (.int 0)))) (sSetL (mVar 3) (mC (.int 0)) (mApp f__law_part (mCons (mVar 1) (mCons (mC (.int 19)) (mCons (mOp dAdd (mVar 2) (mC (S "**"))) mNil))))) sNil)
    (sSeq (sIf (mTst (mOp dEq (mApp f__law_take (mCons (mVar 1) (mCons (mC (.int 2)) mNil))) (mC (.int 0)))) (sSet 5 (mLc (iAny (mVar 3)) (.nm 7) mYes (mApp f__law_like (mCons (mVar 1) (mCons (mVar 7) (mCons (mVar 2) mNil)))) [7])) (sSet 5 (mLc (iRng1M (mCons (mOp dAdd (mC (.int 1)) (mApp f__law_take (mCons (mVar 1) (mCons (mC (.int 3)) mNil)))) mNil)) (.nm 4) mYes (mApp f__law_part (mCons (mVar 1) (mCons (mC (.int 7)) (mCons (mVar 2) mNil)))) [4])))
    (sSeq (sSet 6 (mOp dEq (mApp dLen (mCons (mVar 3) mNil)) (mApp dLen (mCons (mVar 5) mNil))))
    (sSeq (sFor (iRng1M (mCons (mApp dMin2 (mCons (mApp dLen (mCons (mVar 3) mNil)) (mCons (mApp dLen (mCons (mVar 5) mNil)) mNil))) mNil)) (.nm 4) (sSet 6 (mAnd (mVar 6) (mApp f__law_part_matches (mCons (mOp dIx (mVar 3) (mVar 4)) (mCons (mOp dIx (mVar 5) (mVar 4)) mNil))))))
    (sRet (mApp f__law_says (mCons (mApp f_matches (mCons (mMet isStr dJoin (mC (S "/")) (mCons (mVar 3) mNil)) (mCons (mMet isStr dJoin (mC (S "/")) (mCons (mVar 5) mNil)) mNil))) (mCons (mVar 6) mNil))))))))))))
def f_law : MF := mkF 1 8 b_law
section
variable {P : Program} {w : World} {K : PySem.W.Frag} {mg : Str → Option Value} {base : Heap} {fa : Addr} {fd : FuncData}
theorem sc_ends_behind : FnScope N_ends_behind ["ends", "char", "part"] (defScope st_ends_behind) := ⟨rfl, rfl, rfl, by decide +kernel, rfl, by decide +kernel, by decide +kernel⟩
theorem ok_ends_behind (T : Tx K mg) (F : Fun K "ends_behind" "ends_behind" st_ends_behind fa fd) : FnOk P w K mg base (L2.CX P w) 1 fa fd ["ends", "char", "part"] (spM K mg f_ends_behind) :=
  okM (N := N_ends_behind) (m := b_ends_behind) F sc_ends_behind fun cdv A outer s H E hr =>
    (qss_cons (qs_if (qt_cmp (opm_ne hr.units) (qe_var 1) (qe_str (x := "*")) (nomark _)) (qss_one (qs_ret (qe_lc (t := (.nm 3)) (own := [("end", 3)]) (by decide) rfl sc_ends_behind.nd (qi_any (qe_var 0)) (blkOk_by (own := [("end", 3)]) (N := N_ends_behind) (sc := defScope st_ends_behind) (by decide +kernel)) (fun _ _ _ _ _ => (pg_name (i := 3) sc_ends_behind.nd rfl (Or.inl rfl))) (fun _ _ _ _ _ => (qts_one (qt_cmp (opm_eq hr.units) (qe_sl (qe_var 2) (qo_some (qe_var 3)) (qo_some (qe_bin opm_add (qe_var 3) qe_int))) (qe_var 1) (nomark _)))) (fun _ _ _ _ _ => (qe_bin opm_add (qe_var 3) qe_int))))) qss_nil)
      (qss_cons (qs_if (qt_cmp (opm_eq hr.units) (qe_var 0) (qe_lst qa_nil) (nomark _)) (qss_one (qs_ret (qe_lst qa_nil))) qss_nil)
      (qss_one (qs_ret (qe_listRg rfl (by rfl) T.z_list (by rfl) T.z_range (qe_ix (qe_var 0) qe_int (fun _ _ => rfl)) (qe_bin opm_add (qe_callB cm_len (by rfl) T.z_len (by decide +kernel) (qa_cons (qe_var 2) qa_nil)) qe_int))))))
theorem sc_part_matches : FnScope N_part_matches ["wanted", "part"] (defScope st_part_matches) := ⟨rfl, rfl, rfl, by decide +kernel, rfl, by decide +kernel, by decide +kernel⟩
theorem ok_part_matches (T : Tx K mg) (F : Fun K "part_matches" "part_matches" st_part_matches fa fd) (c_ends_behind : CalM P w K mg base 1 "ends_behind" f_ends_behind) : FnOk P w K mg base (L2.CX P w) 2 fa fd ["wanted", "part"] (spM K mg f_part_matches) :=
  okM (N := N_part_matches) (m := b_part_matches) F sc_part_matches fun cdv A outer s H E hr =>
    (qss_cons (qs_set (i := 2) (qe_lst (qa_cons qe_int qa_nil)) sc_part_matches.nd rfl (Or.inl rfl))
      (qss_cons (qs_for (t := (.nm 3)) (by exact passes_of rfl) rfl (qi_any (qe_var 0)) (pg_name (i := 3) sc_part_matches.nd rfl (Or.inl rfl)) (qss_one (qs_set (i := 2) (qe_call c_ends_behind (hr.mono (by decide)) (by exact takes_of rfl rfl rfl rfl) (by rfl) (qa_cons (qe_var 2) (qa_cons (qe_var 3) (qa_cons (qe_var 1) qa_nil)))) sc_part_matches.nd rfl (Or.inl rfl))))
      (qss_one (qs_ret (qe_cmp opm_in (qe_callB cm_len (by rfl) T.z_len (by decide +kernel) (qa_cons (qe_var 1) qa_nil)) (qe_var 2) (by rfl))))))
theorem sc_matches : FnScope N_matches ["pattern", "path"] (defScope st_matches) := ⟨rfl, rfl, rfl, by decide +kernel, rfl, by decide +kernel, by decide +kernel⟩
theorem ok_matches (T : Tx K mg) (F : Fun K "matches" "matches" st_matches fa fd) (c_part_matches : CalM P w K mg base 2 "part_matches" f_part_matches) : FnOk P w K mg base (L2.CX P w) 3 fa fd ["pattern", "path"] (spM K mg f_matches) :=
  okM (N := N_matches) (m := b_matches) F sc_matches fun cdv A outer s H E hr =>
    (qss_cons (qs_set (i := 2) (qe_split (qe_var 0) (qe_str (x := "/"))) sc_matches.nd rfl (Or.inl rfl))
      (qss_cons (qs_set (i := 3) (qe_split (qe_var 1) (qe_str (x := "/"))) sc_matches.nd rfl (Or.inl rfl))
      (qss_cons (qs_if (qt_cmp (opm_ne hr.units) (qe_callB cm_len (by rfl) T.z_len (by decide +kernel) (qa_cons (qe_var 2) qa_nil)) (qe_callB cm_len (by rfl) T.z_len (by decide +kernel) (qa_cons (qe_var 3) qa_nil)) (nomark _)) (qss_one (qs_ret qe_bl)) qss_nil)
      (qss_cons (qs_for (t := (.nm 4)) (by exact passes_of rfl) rfl (qi_range1 (by rfl) T.z_range (qa_cons (qe_callB cm_len (by rfl) T.z_len (by decide +kernel) (qa_cons (qe_var 3) qa_nil)) qa_nil)) (pg_name (i := 4) sc_matches.nd rfl (Or.inl rfl)) (qss_one (qs_if (qt_not (qt_tru (qe_call c_part_matches (hr.mono (by decide)) (by exact takes_of rfl rfl rfl rfl) (by rfl) (qa_cons (qe_ix (qe_var 2) (qe_var 4) (fun _ _ => rfl)) (qa_cons (qe_ix (qe_var 3) (qe_var 4) (fun _ _ => rfl)) qa_nil))))) (qss_one (qs_ret qe_bl)) qss_nil)))
      (qss_one (qs_ret qe_bl))))))
theorem sc__law_cell : FnScope N__law_cell ["_law_script", "_law_k"] (defScope st__law_cell) := ⟨rfl, rfl, rfl, by decide +kernel, rfl, by decide +kernel, by decide +kernel⟩
theorem ok__law_cell (T : Tx K mg) (F : Fun K "_law_cell" "_law_cell" st__law_cell fa fd) : FnOk P w K mg base (L2.CX P w) 1 fa fd ["_law_script", "_law_k"] (spM K mg f__law_cell) :=
  okM (N := N__law_cell) (m := b__law_cell) F sc__law_cell fun cdv A outer s H E hr =>
    (qss_cons (qs_if (qt_cmp opm_lt (qe_var 1) (qe_callB cm_len (by rfl) T.z_len (by decide +kernel) (qa_cons (qe_var 0) qa_nil)) (nomark _)) (qss_one (qs_ret (qe_ix (qe_var 0) (qe_var 1) (fun _ _ => rfl)))) qss_nil)
      (qss_one (qs_ret qe_int)))
theorem sc__law_stream : FnScope N__law_stream ["_law_cell_here"] (defScope st__law_stream) := ⟨rfl, rfl, rfl, by decide +kernel, rfl, by decide +kernel, by decide +kernel⟩
theorem ok__law_stream (T : Tx K mg) (F : Fun K "_law_stream" "_law_stream" st__law_stream fa fd) : FnOk P w K mg base (L2.CX P w) 1 fa fd ["_law_cell_here"] (spM K mg f__law_stream) :=
  okM (N := N__law_stream) (m := b__law_stream) F sc__law_stream fun cdv A outer s H E hr =>
    (qss_cons (qs_if (qt_cmp opm_ge (qe_var 0) (qe_bin opm_pow qe_int qe_int) (nomark _)) (qss_one (qs_ret (qe_lst (qa_cons (qe_var 0) (qa_cons qe_int qa_nil))))) qss_nil)
      (qss_one (qs_ret (qe_lst (qa_cons qe_int (qa_cons (qe_var 0) qa_nil))))))
theorem sc__law_take : FnScope N__law_take ["_law_stream_here", "_law_many"] (defScope st__law_take) := ⟨rfl, rfl, rfl, by decide +kernel, rfl, by decide +kernel, by decide +kernel⟩
theorem ok__law_take (T : Tx K mg) (F : Fun K "_law_take" "_law_take" st__law_take fa fd) : FnOk P w K mg base (L2.CX P w) 1 fa fd ["_law_stream_here", "_law_many"] (spM K mg f__law_take) :=
  okM (N := N__law_take) (m := b__law_take) F sc__law_take fun cdv A outer s H E hr =>
    (qss_cons (qs_if (qt_cmp opm_gt (qe_ix (qe_var 0) qe_int (fun _ _ => rfl)) qe_int (nomark _)) (qss_cons (qs_set (i := 2) (qe_bin opm_mod (qe_callTy cm_int (by rfl) T.z_int (by decide +kernel) (qa_cons (qe_ix (qe_var 0) qe_int (fun _ _ => rfl)) qa_nil)) (qe_var 1)) sc__law_take.nd rfl (Or.inl rfl))
      (qss_cons (qs_setL (qe_bin opm_div (qe_ix (qe_var 0) qe_int (fun _ _ => rfl)) (qe_var 1)) (qe_var 0) qe_int)
      (qss_one (qs_ret (qe_var 2))))) qss_nil)
      (qss_cons (qs_setL (qe_bin opm_mod (qe_callTy cm_int (by rfl) T.z_int (by decide +kernel) (qa_cons (qe_bin opm_add (qe_bin opm_mul (qe_ix (qe_var 0) qe_int (fun _ _ => rfl)) qe_int) qe_int) qa_nil)) qe_int) (qe_var 0) qe_int)
      (qss_one (qs_ret (qe_bin opm_mod (qe_callTy cm_int (by rfl) T.z_int (by decide +kernel) (qa_cons (qe_bin opm_add (qe_bin opm_div (qe_bin opm_mul (qe_ix (qe_var 0) qe_int (fun _ _ => rfl)) (qe_ix (qe_var 0) qe_int (fun _ _ => rfl))) qe_int) (qe_bin opm_div (qe_ix (qe_var 0) qe_int (fun _ _ => rfl)) qe_int)) qa_nil)) (qe_var 1))))))
theorem sc__law_says : FnScope N__law_says ["_law_actual", "_law_expected"] (defScope st__law_says) := ⟨rfl, rfl, rfl, by decide +kernel, rfl, by decide +kernel, by decide +kernel⟩
theorem ok__law_says (T : Tx K mg) (F : Fun K "_law_says" "_law_says" st__law_says fa fd) : FnOk P w K mg base (L2.CX P w) 1 fa fd ["_law_actual", "_law_expected"] (spM K mg f__law_says) :=
  okM (N := N__law_says) (m := b__law_says) F sc__law_says fun cdv A outer s H E hr =>
    (qss_one (qs_ret (qe_and (qe_isi .bool (by decide) (qe_var 0) (by rfl) T.z_isinstance (by rfl) T.z_bool (by decide +kernel)) (qe_one (qe_cmp (opm_eq hr.units) (qe_var 0) (qe_var 1) (nomark _))))))
theorem sc__law_part_matches : FnScope N__law_part_matches ["_law_wanted", "_law_part_here"] (defScope st__law_part_matches) := ⟨rfl, rfl, rfl, by decide +kernel, rfl, by decide +kernel, by decide +kernel⟩
theorem ok__law_part_matches (T : Tx K mg) (F : Fun K "_law_part_matches" "_law_part_matches" st__law_part_matches fa fd) : FnOk P w K mg base (L2.CX P w) 1 fa fd ["_law_wanted", "_law_part_here"] (spM K mg f__law_part_matches) :=
  okM (N := N__law_part_matches) (m := b__law_part_matches) F sc__law_part_matches fun cdv A outer s H E hr =>
    (qss_cons (qs_setLc (i := 2) (t := (.nm 7)) (own := [("_law_k", 7)]) (by decide) rfl sc__law_part_matches.nd rfl rfl (sw_true rfl rfl rfl (by decide +kernel)) (qi_range1 (by rfl) T.z_range (qa_cons (qe_bin opm_add (qe_callB cm_len (by rfl) T.z_len (by decide +kernel) (qa_cons (qe_var 1) qa_nil)) qe_int) qa_nil)) (blkOk_by (own := [("_law_k", 7)]) (N := N__law_part_matches) (sc := defScope st__law_part_matches) (by decide +kernel)) (fun _ _ _ _ _ => (pg_name (i := 7) sc__law_part_matches.nd rfl (Or.inl rfl))) (fun _ _ _ _ _ => qts_nil) (fun _ _ _ _ _ => (qe_cmp (opm_eq hr.units) (qe_var 7) (qe_callB cm_len (by rfl) T.z_len (by decide +kernel) (qa_cons (qe_var 1) qa_nil)) (nomark _))))
      (qss_cons (qs_for (t := (.nm 3)) (by exact passes_of rfl) rfl (qi_range1 (by rfl) T.z_range (qa_cons (qe_callB cm_len (by rfl) T.z_len (by decide +kernel) (qa_cons (qe_var 0) qa_nil)) qa_nil)) (pg_name (i := 3) sc__law_part_matches.nd rfl (Or.inl rfl)) (qss_cons (qs_set (i := 4) (qe_ix (qe_var 0) (qe_bin opm_sub (qe_bin opm_sub (qe_callB cm_len (by rfl) T.z_len (by decide +kernel) (qa_cons (qe_var 0) qa_nil)) qe_int) (qe_var 3)) (fun _ _ => rfl)) sc__law_part_matches.nd rfl (Or.inl rfl))
      (qss_cons (qs_setLc (i := 5) (t := (.nm 7)) (own := [("_law_k", 7)]) (by decide) rfl sc__law_part_matches.nd rfl rfl (sw_true rfl rfl rfl (by decide +kernel)) (qi_range1 (by rfl) T.z_range (qa_cons (qe_bin opm_add (qe_callB cm_len (by rfl) T.z_len (by decide +kernel) (qa_cons (qe_var 1) qa_nil)) qe_int) qa_nil)) (blkOk_by (own := [("_law_k", 7)]) (N := N__law_part_matches) (sc := defScope st__law_part_matches) (by decide +kernel)) (fun _ _ _ _ _ => (pg_name (i := 7) sc__law_part_matches.nd rfl (Or.inl rfl))) (fun _ _ _ _ _ => qts_nil) (fun _ _ _ _ _ => qe_bl))
      (qss_cons (qs_for (t := (.nm 6)) (by exact passes_of rfl) rfl (qi_range1 (by rfl) T.z_range (qa_cons (qe_bin opm_add (qe_callB cm_len (by rfl) T.z_len (by decide +kernel) (qa_cons (qe_var 1) qa_nil)) qe_int) qa_nil)) (pg_name (i := 6) sc__law_part_matches.nd rfl (Or.inl rfl)) (qss_cons (qs_set (i := 7) (qe_bin opm_sub (qe_callB cm_len (by rfl) T.z_len (by decide +kernel) (qa_cons (qe_var 1) qa_nil)) (qe_var 6)) sc__law_part_matches.nd rfl (Or.inl rfl))
      (qss_one (qs_if (qt_cmp (opm_eq hr.units) (qe_var 4) (qe_str (x := "*")) (nomark _)) (qss_one (qs_setL (qe_or (qe_ix (qe_var 2) (qe_var 7) (fun _ _ => rfl)) (qe_one (qe_and (qe_cmp opm_gt (qe_var 6) qe_int (nomark _)) (qe_one (qe_ix (qe_var 5) (qe_bin opm_add (qe_var 7) qe_int) (fun _ _ => rfl)))))) (qe_var 5) (qe_var 7))) (qss_one (qs_if (qt_cmp opm_gt (qe_var 6) qe_int (nomark _)) (qss_one (qs_setL (qe_and (qe_cmp (opm_eq hr.units) (qe_ix (qe_var 1) (qe_var 7) (fun _ _ => rfl)) (qe_var 4) (nomark _)) (qe_one (qe_ix (qe_var 2) (qe_bin opm_add (qe_var 7) qe_int) (fun _ _ => rfl)))) (qe_var 5) (qe_var 7))) qss_nil))))))
      (qss_one (qs_set (i := 2) (qe_var 5) sc__law_part_matches.nd rfl (Or.inl rfl)))))))
      (qss_one (qs_ret (qe_ix (qe_var 2) qe_int (fun _ _ => rfl))))))
theorem sc__law_part : FnScope N__law_part ["_law_stream_here", "_law_most", "_law_chars"] (defScope st__law_part) := ⟨rfl, rfl, rfl, by decide +kernel, rfl, by decide +kernel, by decide +kernel⟩
theorem ok__law_part (T : Tx K mg) (F : Fun K "_law_part" "_law_part" st__law_part fa fd) (c__law_take : CalM P w K mg base 1 "_law_take" f__law_take) : FnOk P w K mg base (L2.CX P w) 2 fa fd ["_law_stream_here", "_law_most", "_law_chars"] (spM K mg f__law_part) :=
  okM (N := N__law_part) (m := b__law_part) F sc__law_part fun cdv A outer s H E hr =>
    (qss_cons (qs_set (i := 3) (qe_bin opm_add qe_int (qe_call c__law_take (hr.mono (by decide)) (by exact takes_of rfl rfl rfl rfl) (by rfl) (qa_cons (qe_var 0) (qa_cons (qe_var 1) qa_nil)))) sc__law_part.nd rfl (Or.inl rfl))
      (qss_one (qs_ret (qe_join (qe_str (x := "")) (qe_lc (t := (.nm 4)) (own := [("_law_k", 4)]) (by decide) rfl sc__law_part.nd (qi_range1 (by rfl) T.z_range (qa_cons (qe_var 3) qa_nil)) (blkOk_by (own := [("_law_k", 4)]) (N := N__law_part) (sc := defScope st__law_part) (by decide +kernel)) (fun _ _ _ _ _ => (pg_name (i := 4) sc__law_part.nd rfl (Or.inl rfl))) (fun _ _ _ _ _ => qts_nil) (fun _ _ _ _ _ => (qe_ix (qe_var 2) (qe_call c__law_take (hr.mono (by decide)) takes0 (by rfl) (qa_cons (qe_var 0) (qa_cons (qe_callB cm_len (by rfl) T.z_len (by decide +kernel) (qa_cons (qe_var 2) qa_nil)) qa_nil))) (fun _ _ => rfl))))))))
theorem sc__law_like : FnScope N__law_like ["_law_stream_here", "_law_part_here", "_law_chars"] (defScope st__law_like) := ⟨rfl, rfl, rfl, by decide +kernel, rfl, by decide +kernel, by decide +kernel⟩
theorem ok__law_like (T : Tx K mg) (F : Fun K "_law_like" "_law_like" st__law_like fa fd) (c__law_take : CalM P w K mg base 1 "_law_take" f__law_take) : FnOk P w K mg base (L2.CX P w) 2 fa fd ["_law_stream_here", "_law_part_here", "_law_chars"] (spM K mg f__law_like) :=
  okM (N := N__law_like) (m := b__law_like) F sc__law_like fun cdv A outer s H E hr =>
    (qss_cons (qs_set (i := 3) (qe_str (x := "")) sc__law_like.nd rfl (Or.inl rfl))
      (qss_cons (qs_for (t := (.nm 4)) (by exact passes_of rfl) rfl (qi_any (qe_var 1)) (pg_name (i := 4) sc__law_like.nd rfl (Or.inl rfl)) (qss_one (qs_if (qt_cmp (opm_ne hr.units) (qe_var 4) (qe_str (x := "*")) (nomark _)) (qss_one (qs_set (i := 3) (qe_bin opm_add (qe_var 3) (qe_var 4)) sc__law_like.nd rfl (Or.inl rfl))) (qss_one (qs_if (qt_cmp (opm_eq hr.units) (qe_call c__law_take (hr.mono (by decide)) (by exact takes_of rfl rfl rfl rfl) (by rfl) (qa_cons (qe_var 0) (qa_cons qe_int qa_nil))) qe_int (nomark _)) (qss_one (qs_set (i := 3) (qe_bin opm_add (qe_var 3) (qe_ix (qe_var 2) (qe_call c__law_take (hr.mono (by decide)) (by exact takes_of rfl rfl rfl rfl) (by rfl) (qa_cons (qe_var 0) (qa_cons (qe_callB cm_len (by rfl) T.z_len (by decide +kernel) (qa_cons (qe_var 2) qa_nil)) qa_nil))) (fun _ _ => rfl))) sc__law_like.nd rfl (Or.inl rfl))) qss_nil)))))
      (qss_cons (qs_if (qt_w (qw_and (qt_cmp (opm_eq hr.units) (qe_call c__law_take (hr.mono (by decide)) (by exact takes_of rfl rfl rfl rfl) (by rfl) (qa_cons (qe_var 0) (qa_cons qe_int qa_nil))) qe_int (nomark _)) (qw_and1 (qt_cmp opm_gt (qe_callB cm_len (by rfl) T.z_len (by decide +kernel) (qa_cons (qe_var 3) qa_nil)) qe_int (nomark _))))) (qss_cons (qs_set (i := 5) (qe_call c__law_take (hr.mono (by decide)) (by exact takes_of rfl rfl rfl rfl) (by rfl) (qa_cons (qe_var 0) (qa_cons (qe_callB cm_len (by rfl) T.z_len (by decide +kernel) (qa_cons (qe_var 3) qa_nil)) qa_nil))) sc__law_like.nd rfl (Or.inl rfl))
      (qss_one (qs_set (i := 3) (qe_bin opm_add (qe_bin opm_add (qe_sl (qe_var 3) qo_none (qo_some (qe_var 5))) (qe_ix (qe_var 2) (qe_call c__law_take (hr.mono (by decide)) (by exact takes_of rfl rfl rfl rfl) (by rfl) (qa_cons (qe_var 0) (qa_cons (qe_callB cm_len (by rfl) T.z_len (by decide +kernel) (qa_cons (qe_var 2) qa_nil)) qa_nil))) (fun _ _ => rfl))) (qe_sl (qe_var 3) (qo_some (qe_bin opm_add (qe_var 5) qe_int)) qo_none)) sc__law_like.nd rfl (Or.inl rfl)))) qss_nil)
      (qss_cons (qs_if (qt_cmp (opm_eq hr.units) (qe_var 3) (qe_str (x := "")) (nomark _)) (qss_one (qs_ret (qe_str (x := "a")))) qss_nil)
      (qss_one (qs_ret (qe_var 3)))))))
theorem sc_law : FnScope N_law ["_law_script"] (defScope st_law) := ⟨rfl, rfl, rfl, by decide +kernel, rfl, by decide +kernel, by decide +kernel⟩
theorem ok_law (T : Tx K mg) (F : Fun K "law" "law" st_law fa fd) (c__law_cell : CalM P w K mg base 1 "_law_cell" f__law_cell) (c__law_like : CalM P w K mg base 2 "_law_like" f__law_like) (c__law_part : CalM P w K mg base 2 "_law_part" f__law_part) (c__law_part_matches : CalM P w K mg base 1 "_law_part_matches" f__law_part_matches) (c__law_says : CalM P w K mg base 1 "_law_says" f__law_says) (c__law_stream : CalM P w K mg base 1 "_law_stream" f__law_stream) (c__law_take : CalM P w K mg base 1 "_law_take" f__law_take) (c_matches : CalM P w K mg base 3 "matches" f_matches) : FnOk P w K mg base (L2.CX P w) 4 fa fd ["_law_script"] (spM K mg f_law) :=
  okM (N := N_law) (m := b_law) F sc_law fun cdv A outer s H E hr =>
    (qss_cons (qs_set (i := 1) (qe_call c__law_stream (hr.mono (by decide)) (by exact takes_of rfl rfl rfl rfl) (by rfl) (qa_cons (qe_call c__law_cell (hr.mono (by decide)) (by exact takes_of rfl rfl rfl rfl) (by rfl) (qa_cons (qe_var 0) (qa_cons qe_int qa_nil))) qa_nil)) sc_law.nd rfl (Or.inr rfl))
      (qss_cons (qs_set (i := 2) (qe_ix (qe_lst (qa_cons (qe_str (x := "ab")) (qa_cons (qe_str (x := "a.b")) (qa_cons (qe_str (x := "abcdefghijklmnopqrstuvwxyz0123456789.-_")) qa_nil)))) (qe_call c__law_take (hr.mono (by decide)) (by exact takes_of rfl rfl rfl rfl) (by rfl) (qa_cons (qe_var 1) (qa_cons qe_int qa_nil))) (fun _ _ => rfl)) sc_law.nd rfl (Or.inr rfl))
      (qss_cons (qs_set (i := 3) (qe_lst qa_nil) sc_law.nd rfl (Or.inl rfl))
      (qss_cons (qs_for (t := (.nm 4)) (by exact passes_of rfl) rfl (qi_range1 (by rfl) T.z_range (qa_cons (qe_bin opm_add qe_int (qe_call c__law_take (hr.mono (by decide)) (by exact takes_of rfl rfl rfl rfl) (by rfl) (qa_cons (qe_var 1) (qa_cons qe_int qa_nil)))) qa_nil)) (pg_name (i := 4) sc_law.nd rfl (Or.inl rfl)) (qss_one (qs_expr (qe_append (qe_var 3) (qe_call c__law_part (hr.mono (by decide)) (by exact takes_of rfl rfl rfl rfl) (by rfl) (qa_cons (qe_var 1) (qa_cons qe_int (qa_cons (qe_bin opm_add (qe_var 2) (qe_str (x := "*"))) qa_nil))))))))
      (qss_cons (qs_if (qt_cmp (opm_eq hr.units) (qe_call c__law_take (hr.mono (by decide)) (by exact takes_of rfl rfl rfl rfl) (by rfl) (qa_cons (qe_var 1) (qa_cons qe_int qa_nil))) qe_int (nomark _)) (qss_one (qs_setL (qe_call c__law_part (hr.mono (by decide)) (by exact takes_of rfl rfl rfl rfl) (by rfl) (qa_cons (qe_var 1) (qa_cons qe_int (qa_cons (qe_bin opm_add (qe_var 2) (qe_str (x := "**"))) qa_nil)))) (qe_var 3) qe_int)) qss_nil)
      (qss_cons (qs_if (qt_cmp (opm_eq hr.units) (qe_call c__law_take (hr.mono (by decide)) (by exact takes_of rfl rfl rfl rfl) (by rfl) (qa_cons (qe_var 1) (qa_cons qe_int qa_nil))) qe_int (nomark _)) (qss_one (qs_setLc (i := 5) (t := (.nm 7)) (own := [("_law_part_here", 7)]) (by decide) rfl sc_law.nd rfl rfl (sw_true rfl rfl rfl (by decide +kernel)) (qi_any (qe_var 3)) (blkOk_by (own := [("_law_part_here", 7)]) (N := N_law) (sc := defScope st_law) (by decide +kernel)) (fun _ _ _ _ _ => (pg_name (i := 7) sc_law.nd rfl (Or.inl rfl))) (fun _ _ _ _ _ => qts_nil) (fun _ _ _ _ _ => (qe_call c__law_like (hr.mono (by decide)) takes0 (by rfl) (qa_cons (qe_var 1) (qa_cons (qe_var 7) (qa_cons (qe_var 2) qa_nil))))))) (qss_one (qs_setLc (i := 5) (t := (.nm 4)) (own := [("_law_k", 4)]) (by decide) rfl sc_law.nd rfl rfl (sw_true rfl rfl rfl (by decide +kernel)) (qi_range1 (by rfl) T.z_range (qa_cons (qe_bin opm_add qe_int (qe_call c__law_take (hr.mono (by decide)) (by exact takes_of rfl rfl rfl rfl) (by rfl) (qa_cons (qe_var 1) (qa_cons qe_int qa_nil)))) qa_nil)) (blkOk_by (own := [("_law_k", 4)]) (N := N_law) (sc := defScope st_law) (by decide +kernel)) (fun _ _ _ _ _ => (pg_name (i := 4) sc_law.nd rfl (Or.inl rfl))) (fun _ _ _ _ _ => qts_nil) (fun _ _ _ _ _ => (qe_call c__law_part (hr.mono (by decide)) takes0 (by rfl) (qa_cons (qe_var 1) (qa_cons qe_int (qa_cons (qe_var 2) qa_nil))))))))
      (qss_cons (qs_set (i := 6) (qe_cmp (opm_eq hr.units) (qe_callB cm_len (by rfl) T.z_len (by decide +kernel) (qa_cons (qe_var 3) qa_nil)) (qe_callB cm_len (by rfl) T.z_len (by decide +kernel) (qa_cons (qe_var 5) qa_nil)) (nomark _)) sc_law.nd rfl (Or.inl rfl))
      (qss_cons (qs_for (t := (.nm 4)) (by exact passes_of rfl) rfl (qi_range1 (by rfl) T.z_range (qa_cons (qe_callB (cm_min2 rfl) (by rfl) T.z_min (by decide +kernel) (qa_cons (qe_callB cm_len (by rfl) T.z_len (by decide +kernel) (qa_cons (qe_var 3) qa_nil)) (qa_cons (qe_callB cm_len (by rfl) T.z_len (by decide +kernel) (qa_cons (qe_var 5) qa_nil)) qa_nil))) qa_nil)) (pg_name (i := 4) sc_law.nd rfl (Or.inl rfl)) (qss_one (qs_set (i := 6) (qe_and (qe_var 6) (qe_one (qe_call c__law_part_matches (hr.mono (by decide)) (by exact takes_of rfl rfl rfl rfl) (by rfl) (qa_cons (qe_ix (qe_var 3) (qe_var 4) (fun _ _ => rfl)) (qa_cons (qe_ix (qe_var 5) (qe_var 4) (fun _ _ => rfl)) qa_nil))))) sc_law.nd rfl (Or.inl rfl))))
      (qss_one (qs_ret (qe_call c__law_says (hr.mono (by decide)) (by exact takes_of rfl rfl rfl rfl) (by rfl) (qa_cons (qe_call c_matches (hr.mono (by decide)) (by exact takes_of rfl rfl rfl rfl) (by rfl) (qa_cons (qe_join (qe_str (x := "/")) (qe_var 3)) (qa_cons (qe_join (qe_str (x := "/")) (qe_var 5)) qa_nil))) (qa_cons (qe_var 6) qa_nil)))))))))))))
end
/-! ### the end -/
theorem all_mk {P : Program} {w : World} {K : PySem.W.Frag} {h : Heap} {mg : Str → Option Value} {fa f0 f1 f2 f3 f4 f5 f6 f7 f8 f9 f10 : Addr} (X : K.In h) (G : h.Ns mainGlobals mg) (hfa : mg "law" = some (.ref fa))
    {od0 an0 od1 an1 od2 an2 od3 an3 od4 an4 od5 an5 od6 an6 od7 an7 od8 an8 od9 an9 od10 an10 : Option Addr} {sl0 sl1 sl2 sl3 sl4 sl5 sl6 sl7 sl8 sl9 sl10 : Array (Option Value)} {oc0 kV0 dc0 pm0 cd0 ct0 oc1 kV1 dc1 pm1 cd1 ct1 oc2 kV2 dc2 pm2 cd2 ct2 oc3 kV3 dc3 pm3 cd3 ct3 oc4 kV4 dc4 pm4 cd4 ct4 oc5 kV5 dc5 pm5 cd5 ct5 oc6 kV6 dc6 pm6 cd6 ct6 oc7 kV7 dc7 pm7 cd7 ct7 oc8 kV8 dc8 pm8 cd8 ct8 oc9 kV9 dc9 pm9 cd9 ct9 oc10 kV10 dc10 pm10 cd10 ct10 : Value}
    (a0 : PySem.W.nsIn K mainGlobals "ends_behind" = some (some (.ref f0))) (l0 : K.lookup f0 = some ⟨oc0, od0, .func (PySem.W.fnOf "ends_behind" "ends_behind" (defArgs st_ends_behind) (defBody st_ends_behind) (defScope st_ends_behind) .none kV0 dc0 pm0 an0 cd0 ct0), sl0⟩) (c0 : PySem.W.codeIn K cd0 "ends_behind" = true) (k0 : PySem.W.keepIn K (.ref f0) = true)
    (a1 : PySem.W.nsIn K mainGlobals "part_matches" = some (some (.ref f1))) (l1 : K.lookup f1 = some ⟨oc1, od1, .func (PySem.W.fnOf "part_matches" "part_matches" (defArgs st_part_matches) (defBody st_part_matches) (defScope st_part_matches) .none kV1 dc1 pm1 an1 cd1 ct1), sl1⟩) (c1 : PySem.W.codeIn K cd1 "part_matches" = true) (k1 : PySem.W.keepIn K (.ref f1) = true)
    (a2 : PySem.W.nsIn K mainGlobals "matches" = some (some (.ref f2))) (l2 : K.lookup f2 = some ⟨oc2, od2, .func (PySem.W.fnOf "matches" "matches" (defArgs st_matches) (defBody st_matches) (defScope st_matches) .none kV2 dc2 pm2 an2 cd2 ct2), sl2⟩) (c2 : PySem.W.codeIn K cd2 "matches" = true) (k2 : PySem.W.keepIn K (.ref f2) = true)
    (a3 : PySem.W.nsIn K mainGlobals "_law_cell" = some (some (.ref f3))) (l3 : K.lookup f3 = some ⟨oc3, od3, .func (PySem.W.fnOf "_law_cell" "_law_cell" (defArgs st__law_cell) (defBody st__law_cell) (defScope st__law_cell) .none kV3 dc3 pm3 an3 cd3 ct3), sl3⟩) (c3 : PySem.W.codeIn K cd3 "_law_cell" = true) (k3 : PySem.W.keepIn K (.ref f3) = true)
    (a4 : PySem.W.nsIn K mainGlobals "_law_stream" = some (some (.ref f4))) (l4 : K.lookup f4 = some ⟨oc4, od4, .func (PySem.W.fnOf "_law_stream" "_law_stream" (defArgs st__law_stream) (defBody st__law_stream) (defScope st__law_stream) .none kV4 dc4 pm4 an4 cd4 ct4), sl4⟩) (c4 : PySem.W.codeIn K cd4 "_law_stream" = true) (k4 : PySem.W.keepIn K (.ref f4) = true)
    (a5 : PySem.W.nsIn K mainGlobals "_law_take" = some (some (.ref f5))) (l5 : K.lookup f5 = some ⟨oc5, od5, .func (PySem.W.fnOf "_law_take" "_law_take" (defArgs st__law_take) (defBody st__law_take) (defScope st__law_take) .none kV5 dc5 pm5 an5 cd5 ct5), sl5⟩) (c5 : PySem.W.codeIn K cd5 "_law_take" = true) (k5 : PySem.W.keepIn K (.ref f5) = true)
    (a6 : PySem.W.nsIn K mainGlobals "_law_says" = some (some (.ref f6))) (l6 : K.lookup f6 = some ⟨oc6, od6, .func (PySem.W.fnOf "_law_says" "_law_says" (defArgs st__law_says) (defBody st__law_says) (defScope st__law_says) .none kV6 dc6 pm6 an6 cd6 ct6), sl6⟩) (c6 : PySem.W.codeIn K cd6 "_law_says" = true) (k6 : PySem.W.keepIn K (.ref f6) = true)
    (a7 : PySem.W.nsIn K mainGlobals "_law_part_matches" = some (some (.ref f7))) (l7 : K.lookup f7 = some ⟨oc7, od7, .func (PySem.W.fnOf "_law_part_matches" "_law_part_matches" (defArgs st__law_part_matches) (defBody st__law_part_matches) (defScope st__law_part_matches) .none kV7 dc7 pm7 an7 cd7 ct7), sl7⟩) (c7 : PySem.W.codeIn K cd7 "_law_part_matches" = true) (k7 : PySem.W.keepIn K (.ref f7) = true)
    (a8 : PySem.W.nsIn K mainGlobals "_law_part" = some (some (.ref f8))) (l8 : K.lookup f8 = some ⟨oc8, od8, .func (PySem.W.fnOf "_law_part" "_law_part" (defArgs st__law_part) (defBody st__law_part) (defScope st__law_part) .none kV8 dc8 pm8 an8 cd8 ct8), sl8⟩) (c8 : PySem.W.codeIn K cd8 "_law_part" = true) (k8 : PySem.W.keepIn K (.ref f8) = true)
    (a9 : PySem.W.nsIn K mainGlobals "_law_like" = some (some (.ref f9))) (l9 : K.lookup f9 = some ⟨oc9, od9, .func (PySem.W.fnOf "_law_like" "_law_like" (defArgs st__law_like) (defBody st__law_like) (defScope st__law_like) .none kV9 dc9 pm9 an9 cd9 ct9), sl9⟩) (c9 : PySem.W.codeIn K cd9 "_law_like" = true) (k9 : PySem.W.keepIn K (.ref f9) = true)
    (a10 : PySem.W.nsIn K mainGlobals "law" = some (some (.ref f10))) (l10 : K.lookup f10 = some ⟨oc10, od10, .func (PySem.W.fnOf "law" "law" (defArgs st_law) (defBody st_law) (defScope st_law) .none kV10 dc10 pm10 an10 cd10 ct10), sl10⟩) (c10 : PySem.W.codeIn K cd10 "law" = true) (k10 : PySem.W.keepIn K (.ref f10) = true)
    (z_bool : PySem.W.nsIn K mainGlobals "bool" = some none)
    (z_int : PySem.W.nsIn K mainGlobals "int" = some none)
    (z_isinstance : PySem.W.nsIn K mainGlobals "isinstance" = some none)
    (z_len : PySem.W.nsIn K mainGlobals "len" = some none)
    (z_list : PySem.W.nsIn K mainGlobals "list" = some none)
    (z_min : PySem.W.nsIn K mainGlobals "min" = some none)
    (z_range : PySem.W.nsIn K mainGlobals "range" = some none)
    : ∃ fd : FuncData, (∀ (s : Shared) (v : Value), BindsTo s fd ⟨[v], []⟩ [("_law_script", v)]) ∧ ∀ base : Heap, K.In base → base.Ns mainGlobals mg → FnOk P w K mg base (L2.CX P w) 4 fa fd ["_law_script"] (spM K mg f_law) := by
  have e := hfa.symm.trans (PySem.W.mg_of X G a10)
  cases e
  have T : Tx K mg := ⟨PySem.W.mg_none_of X G z_bool, PySem.W.mg_none_of X G z_int, PySem.W.mg_none_of X G z_isinstance, PySem.W.mg_none_of X G z_len, PySem.W.mg_none_of X G z_list, PySem.W.mg_none_of X G z_min, PySem.W.mg_none_of X G z_range⟩
  have F0 := fun_mk (st := st_ends_behind) l0 c0 k0
  have F1 := fun_mk (st := st_part_matches) l1 c1 k1
  have F2 := fun_mk (st := st_matches) l2 c2 k2
  have F3 := fun_mk (st := st__law_cell) l3 c3 k3
  have F4 := fun_mk (st := st__law_stream) l4 c4 k4
  have F5 := fun_mk (st := st__law_take) l5 c5 k5
  have F6 := fun_mk (st := st__law_says) l6 c6 k6
  have F7 := fun_mk (st := st__law_part_matches) l7 c7 k7
  have F8 := fun_mk (st := st__law_part) l8 c8 k8
  have F9 := fun_mk (st := st__law_like) l9 c9 k9
  have F10 := fun_mk (st := st_law) l10 c10 k10
  refine ⟨PySem.W.fnOf "law" "law" (defArgs st_law) (defBody st_law) (defScope st_law) .none kV10 dc10 pm10 an10 cd10 ct10, fun s v => .of_eq rfl, fun base hb1 hb2 => ?_⟩
  have c_ends_behind : CalM P w K mg base 1 "ends_behind" f_ends_behind := ⟨_, _, ["ends", "char", "part"], PySem.W.mg_of X G a0, k0, F0.binds (ps := ["ends", "char", "part"]) (fun _ _ _ _ _ _ us hl => match us, hl with | [_, _, _], _ => rfl), ok_ends_behind T F0 ⟩
  have c_part_matches : CalM P w K mg base 2 "part_matches" f_part_matches := ⟨_, _, ["wanted", "part"], PySem.W.mg_of X G a1, k1, F1.binds (ps := ["wanted", "part"]) (fun _ _ _ _ _ _ us hl => match us, hl with | [_, _], _ => rfl), ok_part_matches T F1 c_ends_behind⟩
  have c_matches : CalM P w K mg base 3 "matches" f_matches := ⟨_, _, ["pattern", "path"], PySem.W.mg_of X G a2, k2, F2.binds (ps := ["pattern", "path"]) (fun _ _ _ _ _ _ us hl => match us, hl with | [_, _], _ => rfl), ok_matches T F2 c_part_matches⟩
  have c__law_cell : CalM P w K mg base 1 "_law_cell" f__law_cell := ⟨_, _, ["_law_script", "_law_k"], PySem.W.mg_of X G a3, k3, F3.binds (ps := ["_law_script", "_law_k"]) (fun _ _ _ _ _ _ us hl => match us, hl with | [_, _], _ => rfl), ok__law_cell T F3 ⟩
  have c__law_stream : CalM P w K mg base 1 "_law_stream" f__law_stream := ⟨_, _, ["_law_cell_here"], PySem.W.mg_of X G a4, k4, F4.binds (ps := ["_law_cell_here"]) (fun _ _ _ _ _ _ us hl => match us, hl with | [_], _ => rfl), ok__law_stream T F4 ⟩
  have c__law_take : CalM P w K mg base 1 "_law_take" f__law_take := ⟨_, _, ["_law_stream_here", "_law_many"], PySem.W.mg_of X G a5, k5, F5.binds (ps := ["_law_stream_here", "_law_many"]) (fun _ _ _ _ _ _ us hl => match us, hl with | [_, _], _ => rfl), ok__law_take T F5 ⟩
  have c__law_says : CalM P w K mg base 1 "_law_says" f__law_says := ⟨_, _, ["_law_actual", "_law_expected"], PySem.W.mg_of X G a6, k6, F6.binds (ps := ["_law_actual", "_law_expected"]) (fun _ _ _ _ _ _ us hl => match us, hl with | [_, _], _ => rfl), ok__law_says T F6 ⟩
  have c__law_part_matches : CalM P w K mg base 1 "_law_part_matches" f__law_part_matches := ⟨_, _, ["_law_wanted", "_law_part_here"], PySem.W.mg_of X G a7, k7, F7.binds (ps := ["_law_wanted", "_law_part_here"]) (fun _ _ _ _ _ _ us hl => match us, hl with | [_, _], _ => rfl), ok__law_part_matches T F7 ⟩
  have c__law_part : CalM P w K mg base 2 "_law_part" f__law_part := ⟨_, _, ["_law_stream_here", "_law_most", "_law_chars"], PySem.W.mg_of X G a8, k8, F8.binds (ps := ["_law_stream_here", "_law_most", "_law_chars"]) (fun _ _ _ _ _ _ us hl => match us, hl with | [_, _, _], _ => rfl), ok__law_part T F8 c__law_take⟩
  have c__law_like : CalM P w K mg base 2 "_law_like" f__law_like := ⟨_, _, ["_law_stream_here", "_law_part_here", "_law_chars"], PySem.W.mg_of X G a9, k9, F9.binds (ps := ["_law_stream_here", "_law_part_here", "_law_chars"]) (fun _ _ _ _ _ _ us hl => match us, hl with | [_, _, _], _ => rfl), ok__law_like T F9 c__law_take⟩
  exact ok_law T F10 c__law_cell c__law_like c__law_part c__law_part_matches c__law_says c__law_stream c__law_take c_matches
theorem walk {l : PySem.W.OpenLaw} {q : Program} {loose : List Str} {XP : (Str → Option Value) → Heap → Prop} {YP : World → Heap → Prop} {d : DefRec} {K : Params → PySem.W.Frag} (L : LawOk f_law) (hn : l.most = some 63) (hdf : d.params.defaults = [])
    (hY : ∀ (w : World) (h : Heap), YP w h → (K w.params).In h)
    (F : ∀ (w : World) (mg : Str → Option Value) (fa : Addr) (h : Heap), (K w.params).In h → h.Ns mainGlobals mg → mg d.name = some (.ref fa) →
      ∃ fd : FuncData, (∀ (s : Shared) (u : Value), BindsTo s fd ⟨[u], []⟩ [("_law_script", u)]) ∧ ∀ base : Heap, (K w.params).In base → base.Ns mainGlobals mg → FnOk l.prog w (K w.params) mg base (L2.CX l.prog w) 4 fa fd ["_law_script"] (spM (K w.params) mg f_law)) :
    PySem.W.WalkO q loose XP YP l.row.toRowW d [] (fun f vs => PySem.call f vs) :=
  HM.walk_M (k := 4) (x := "_law_script") L hn hdf ⟨rfl, by decide, by decide⟩ hY F
end G
set_option Elab.async false
set_option linter.all false
set_option maxRecDepth 100000
set_option maxHeartbeats 4000000
local macro_rules | `(tactic| walk_at "nx") => `(tactic| first | rfl | exact ⟨rfl, rfl⟩)
namespace G
open PySem L2 HM
def n47 (s : List Nat) : Prop := ∀ c ∈ s, c ≠ 47
theorem n47.app {a b : List Nat} (x : n47 a) (y : n47 b) : n47 (a ++ b) := fun c hc => (List.mem_append.mp hc).elim (x c) (y c)
theorem n47.one {c : Nat} (h : c ≠ 47) : n47 [c] := fun d hd => by rw [List.mem_singleton.mp hd]; exact h
theorem n47.take {a : List Nat} (x : n47 a) (k : Nat) : n47 (a.take k) := fun c hc => x c (List.mem_of_mem_take hc)
theorem n47.drop {a : List Nat} (x : n47 a) (k : Nat) : n47 (a.drop k) := fun c hc => x c (List.mem_of_mem_drop hc)
theorem part6_ok {h : LH} {r : Nat} {cs : List Nat} {most : Int} (s : StrAt h r) (hm : 0 < most) (hl : most ≤ 100) (hc : 0 < cs.length) (hc2 : cs.length ≤ 1000) :
    ∃ z h', f__law_part [.ref r, .int most, .str cs] h = .ok (.str z) h' ∧ (z.length : Int) ≤ most ∧ (∀ c ∈ z, c ∈ cs) ∧ SF r h h' := by
  obtain ⟨v, h1, e1, v0, v1, F1, l1⟩ := take_ok (m := most) s (by omega) (by omega)
  have hcs : cs.length ≤ 16777216 := by omega
  obtain ⟨z, h2, e2, e2', zl, zc, F2⟩ := joinR_ok (n := (1 + v).toNat) (i := 4) (P := fun c => c ∈ cs) (e := [some (.ref r), some (.int most), some (.str cs), some (.int (1 + v)), none])
    (y := mOp dIx (mVar 2) (mApp L.f__law_take (mCons (mVar 0) (mCons (mApp dLen (mCons (mVar 2) mNil)) mNil)))) F1.st (by omega) (fun g j F hj => by
      obtain ⟨ch, w, g2, ew, ei, hmem, G⟩ := pick_ok (cs := cs) (m := cs.length) F.st (by omega) (by omega) hcs
      exact ⟨ch, g2, by simp [dLen_str hcs, ew, ei], hmem, G⟩)
  refine ⟨z, h2, ?_, by omega, zc, F1.trans F2⟩
  unfold f__law_part
  rw [mkF_eq (by rfl)]
  unfold b__law_part
  rw [S_nil] at e2'
  simp only [ev_seq]
  simp [dAdd_int, e1, ev_rng1, show -4611686018427387904 ≤ 1 + v ∧ 1 + v < 4611686018427387904 from ⟨by omega, by omega⟩, wipeM, S_nil, isStr, e2, e2']
def lkB : MS := (sIf (mTst (mOp dNe (mVar 4) (mC (S "*")))) (sSet 3 (mOp dAdd (mVar 3) (mVar 4))) (sIf (mTst (mOp dEq (mApp L.f__law_take (mCons (mVar 0) (mCons (mC (.int 2)) mNil))) (mC (.int 0)))) (sSet 3 (mOp dAdd (mVar 3) (mOp dIx (mVar 2) (mApp L.f__law_take (mCons (mVar 0) (mCons (mApp dLen (mCons (mVar 2) mNil)) mNil)))))) sNil))
theorem like_ok {h : LH} {r : Nat} {p cs : List Nat} (s : StrAt h r) (hp : n47 p) (hc : n47 cs) (pl : p.length ≤ 100) (c0 : 0 < cs.length) (c1 : cs.length ≤ 1000) :
    ∃ z h', L.f__law_like [.ref r, .str p, .str cs] h = .ok (.str z) h' ∧ z.length ≤ 101 ∧ n47 z ∧ SF r h h' := by
  have hcs : cs.length ≤ 16777216 := by omega
  have est := S_eq "*"
  simp at est
  unfold L.f__law_like
  rw [mkF_eq (by rfl)]
  unfold L.b__law_like
  have key := loopF_list (t := .nm 4) (body := lkB) (xs := p.map fun c => D.str [c])
    (fun j e g => SF r h g ∧ ∃ (t : List Nat) (v : Option D), e = [some (.ref r), some (.str p), some (.str cs), some (.str t), v, none] ∧ n47 t ∧ t.length ≤ j)
    (fun q => ∃ (t : List Nat) (v : Option D) (g : LH), q = .next [some (.ref r), some (.str p), some (.str cs), some (.str t), v, none] g ∧ SF r h g ∧ n47 t ∧ t.length ≤ p.length)
    (fun j d e g hd ⟨F, t, v, he, ht, tl⟩ => by
      subst he
      have hjl := lt_of_get hd
      rw [List.length_map] at hjl
      rw [List.getElem?_map] at hd
      cases es : p[j]? with
      | none => rw [es] at hd; cases hd
      | some ch =>
        rw [es] at hd
        cases hd
        have h47 := hp ch (List.mem_of_getElem? es)
        refine ⟨[some (.ref r), some (.str p), some (.str cs), some (.str t), some (.str [ch]), none], rfl, ?_⟩
        by_cases q : ch = 42
        · obtain ⟨v2, g1, e1, v0, v1, F1, _⟩ := take_ok (m := 2) F.st (by decide) (by decide)
          by_cases q2 : v2 = 0
          · obtain ⟨c2, w, g2, ew, ei, hmem, G⟩ := pick_ok (cs := cs) (m := cs.length) F1.st (by omega) (by omega) hcs
            have eb : lkB [some (.ref r), some (.str p), some (.str cs), some (.str t), some (.str [ch]), none] g = .next [some (.ref r), some (.str p), some (.str cs), some (.str (t ++ [c2])), some (.str [ch]), none] g2 := by
              unfold lkB
              have ea : dAdd (.str t) (.str [c2]) g2 = .ok (.str (t ++ [c2])) g2 := dAdd_str (by simp; omega)
              simp [est, dNe_str, q, e1, q2, dEq_int, dLen_str hcs, ew, ei, ea]
            rw [eb]
            exact ⟨(F.trans F1).trans G, _, _, rfl, ht.app (n47.one (hc c2 hmem)), by simp; omega⟩
          · have eb : lkB [some (.ref r), some (.str p), some (.str cs), some (.str t), some (.str [ch]), none] g = .next [some (.ref r), some (.str p), some (.str cs), some (.str t), some (.str [ch]), none] g1 := by
              unfold lkB
              simp [est, dNe_str, q, e1, q2, dEq_int]
            rw [eb]
            exact ⟨F.trans F1, _, _, rfl, ht, by omega⟩
        · have eb : lkB [some (.ref r), some (.str p), some (.str cs), some (.str t), some (.str [ch]), none] g = .next [some (.ref r), some (.str p), some (.str cs), some (.str (t ++ [ch])), some (.str [ch]), none] g := by
            unfold lkB
            have ea : dAdd (.str t) (.str [ch]) g = .ok (.str (t ++ [ch])) g := dAdd_str (by simp; omega)
            simp [est, dNe_str, q, ea]
          rw [eb]
          exact ⟨F, _, _, rfl, ht.app (n47.one h47), by simp; omega⟩)
    (fun e g ⟨F, t, v, he, ht, tl⟩ => ⟨t, v, g, by rw [he], F, ht, by rw [List.length_map] at tl; exact tl⟩) (e := [some (.ref r), some (.str p), some (.str cs), some (.str []), none, none]) (h := h)
    ⟨SF.refl s, [], none, rfl, (fun _ h => nomatch h), Nat.le_refl _⟩
  rw [List.length_map] at key
  obtain ⟨t, v, g, er, F, ht, tl⟩ := key
  unfold lkB at er
  obtain ⟨v3, g1, e3, v0, v1, F1, _⟩ := take_ok (m := 3) F.st (by decide) (by decide)
  have hts : t.length ≤ 16777216 := by omega
  -- the changed sign
  obtain ⟨z, v5, g2, ez, F2, hz, zl⟩ : ∃ (z : List Nat) (v5 : Option D) (g2 : LH), (sIf (mTAnd (mTst (mOp dEq (mApp L.f__law_take (mCons (mVar 0) (mCons (mC (.int 3)) mNil))) (mC (.int 0)))) (mTst (mOp dGt (mApp dLen (mCons (mVar 3) mNil)) (mC (.int 0))))) (sSeq (sSet 5 (mApp L.f__law_take (mCons (mVar 0) (mCons (mApp dLen (mCons (mVar 3) mNil)) mNil))))
      (sSet 3 (mOp dAdd (mOp dAdd (mSl (mVar 3) mNoP (mPart (mVar 5))) (mOp dIx (mVar 2) (mApp L.f__law_take (mCons (mVar 0) (mCons (mApp dLen (mCons (mVar 2) mNil)) mNil))))) (mSl (mVar 3) (mPart (mOp dAdd (mVar 5) (mC (.int 1)))) mNoP)))) sNil)
      [some (.ref r), some (.str p), some (.str cs), some (.str t), v, none] g = .next [some (.ref r), some (.str p), some (.str cs), some (.str z), v, v5] g2 ∧ SF r g g2 ∧ n47 z ∧ z.length ≤ 101 := by
    by_cases q : v3 = 0 ∧ (0 : Int) < t.length
    · obtain ⟨k, g2, e2, k0, k1, F2, _⟩ := take_ok (m := t.length) F1.st (by omega) (by omega)
      obtain ⟨c2, w, g3, ew, ei, hmem, G⟩ := pick_ok (cs := cs) (m := cs.length) F2.st (by omega) (by omega) hcs
      refine ⟨t.take k.toNat ++ [c2] ++ t.drop (k + 1).toNat, some (.int k), g3, ?_, (F1.trans F2).trans G, ((ht.take _).app (n47.one (hc c2 hmem))).app (ht.drop _), by simp; omega⟩
      have q2 : (0 : Int) < t.length := q.2
      simp only [ev_if, ev_tAnd, ev_tst, ev_op, ev_app, ev_cons, ev_nil, ev_var, ev_c]
      simp [e3, q.1, dEq_int, dLen_str hts, dGt_int]
      rw [if_pos (by omega)]
      simp only [ev_seq]
      simp [dLen_str hts, e2, dSl_str hts, cut_to k0, cut_from (show 0 ≤ k + 1 by omega), dLen_str hcs, ew, ei, dAdd_int]
      rw [dAdd_str (by simp <;> omega)]
      simp [dSl_str hts, cut_from (show 0 ≤ k + 1 by omega)]
      rw [dAdd_str (by simp <;> omega)]
      simp
    · refine ⟨t, none, g1, ?_, F1, ht, by omega⟩
      by_cases q1 : v3 = 0
      · have : ¬ (0 : Int) < t.length := fun z => q ⟨q1, z⟩
        have ht0 : t = [] := by
          cases t with
          | nil => rfl
          | cons a b => simp at this <;> omega
        subst ht0
        simp [e3, q1, dEq_int, dLen_str, dGt_int]
      · simp [e3, q1, dEq_int]
  rw [ev_seq]
  simp [S_nil]
  rw [ev_seq]
  simp [er]
  rw [ev_seq, ez]
  have ea := S_eq "a"
  simp at ea
  by_cases q : z = []
  · exact ⟨[97], g2, by simp [ev_seq, S_nil, dEq_str, q, ea], by simp, n47.one (by decide), F.trans F2⟩
  · exact ⟨z, g2, by simp [ev_seq, S_nil, dEq_str, q], zl, hz, F.trans F2⟩
theorem compS {it : IT} {h : LH} {r i n : Nat} {e : EN} {y : M D} {P : List Nat → Prop} (q : Nat → D) (s : StrAt h r) (hn : n ≤ 16777216)
    (hg : ∀ j g, SF r h g → j ≤ n → it g j = some (if j < n then some (q j) else none))
    (hy : ∀ g j, SF r h g → j < n → ∃ c g2, y (e.set i (some (q j))) g = .ok (.str c) g2 ∧ P c ∧ SF r g g2) :
    ∃ (z : List (List Nat)) (h' : LH), loopC it (.nm i) mYes y e h.length n 0 (h ++ [.lst []]) = .ok (.ref h.length) h' ∧ h'[h.length]? = some (.lst (z.map D.str)) ∧ z.length = n ∧ (∀ c ∈ z, P c) ∧ SF r h h' := by
  have hne : h.length ≠ r := by
    obtain ⟨a, b, e⟩ := s
    have := lt_of_get e
    omega
  have hloop := loopC_gen (g := it) (t := .nm i) (c := mYes) (y := y) (e := e) (k := h.length) (N := n) q
    (fun j acc g => SF r h g ∧ g[h.length]? = some (.lst acc) ∧ acc.length = j ∧ ∃ z : List (List Nat), acc = z.map D.str ∧ ∀ c ∈ z, P c)
    (fun j acc g hj hi => hg j g hi.1 hj) (fun j acc g hj hi => hi.2.1) (by
      rintro j acc g hj ⟨F, ek, el, z, rfl, hz⟩
      refine ⟨_, rfl, .inr ?_⟩
      obtain ⟨c, g2, eu, hc, F2⟩ := hy g j F hj
      have ek2 := F2.get hne ek
      refine ⟨g, .str c, g2, z.map D.str, rfl, eu, ek2, by omega, ?_, ?_, by simp at el ⊢; exact el, z ++ [c], by simp, ?_⟩
      · have F3 := F.trans F2
        obtain ⟨a, b, e⟩ := F3.st
        refine ⟨by simpa using F3.le, fun i hi hr => ?_, a, b, ?_⟩
        · rw [List.getElem?_set_ne (by omega)]; exact F3.keep i hi hr
        · rw [List.getElem?_set_ne hne]; exact e
      · rw [List.getElem?_set_self (lt_of_get ek2)]
      · intro c' hc'
        rcases List.mem_append.mp hc' with hc' | hc'
        · exact hz c' hc'
        · rw [List.mem_singleton.mp hc']; exact hc) n 0 [] (h ++ [.lst []]) (by omega) ⟨SF.push s, by simp, rfl, [], rfl, by simp⟩
  obtain ⟨acc, h2, e2, F2, ek, el, z, rfl, hz⟩ := hloop
  exact ⟨z, h2, e2, ek, by simpa using el, hz, F2⟩
def ok6 (m : Nat) (ws : List (List Nat)) : Prop := ∀ s ∈ ws, n47 s ∧ s.length ≤ m
theorem law_ok : LawOk f_law := by
  refine law_of fun ns hn hb => ?_
  unfold b_law
  obtain ⟨c0, h0, e00, e0, s0, l0⟩ := start_ok ns
  refine wseq (by simp [e00, e0]; walk_at "nx") ?_
  have eab := S_eq "ab"
  simp at eab
  have eadb := S_eq "a.b"
  simp at eadb
  have est := S_eq "*"
  simp at est
  have est2 := S_eq "**"
  simp at est2
  have esl := S_eq "/"
  simp at esl
  refine wseqP (fun e g => ∃ cs, e = [some (.scr ns), some (.ref 0), some (.str cs), none, none, none, none, none] ∧ n47 cs ∧ 0 < cs.length ∧ cs.length ≤ 900 ∧ StrAt g 0) ?_ ?_
  · obtain ⟨v, h1, e1, v0, v1, F1, _⟩ := take_ok (m := 3) (SF.push (o := .lst [.str [97, 98], .str [97, 46, 98], .str pcC]) s0).st (by decide) (by decide)
    obtain ⟨cs, em, m, m0, m1⟩ : ∃ cs : List Nat, atI [D.str [97, 98], D.str [97, 46, 98], D.str pcC] v = some (.str cs) ∧ n47 cs ∧ 0 < cs.length ∧ cs.length ≤ 900 := by
      have : v = 0 ∨ v = 1 ∨ v = 2 := by omega
      rcases this with rfl | rfl | rfl
      · exact ⟨[97, 98], rfl, (by decide : ∀ c ∈ [97, 98], c ≠ 47), by decide, by decide⟩
      · exact ⟨[97, 46, 98], rfl, (by decide : ∀ c ∈ [97, 46, 98], c ≠ 47), by decide, by decide⟩
      · exact ⟨_, rfl, fun c hc hz => pc_sl (hz ▸ hc), by rw [pc_len]; decide, by rw [pc_len]; decide⟩
    have hix : dIx (.ref h0.length) (.int v) h1 = .ok (.str cs) h1 := dIx_ref (F1.get (by omega) (by simp)) em
    exact ⟨_, h1, by simp [eab, eadb, S_ofP, e1, hix], cs, rfl, m, m0, m1, F1.st⟩
  rintro _ g ⟨cs, rfl, hc, c0, c1, sg⟩
  have hR : g.length ≠ 0 := (SF.refl sg).ne
  refine wseq (by simp; walk_at "nx") ?_
  -- the pattern's parts
  have cst : ∀ h, dAdd (.str cs) (.str [42]) h = .ok (.str (cs ++ [42])) h := fun h => dAdd_str (by simp; omega)
  have cst2 : ∀ h, dAdd (.str cs) (.str [42, 42]) h = .ok (.str (cs ++ [42, 42])) h := fun h => dAdd_str (by simp; omega)
  have hc1 : n47 (cs ++ [42]) := hc.app (n47.one (by decide))
  have hc2 : n47 (cs ++ [42, 42]) := hc.app (by decide : ∀ c ∈ [42, 42], c ≠ 47)
  refine wseqP (fun e h => ∃ (v4 : Option D) (ws : List (List Nat)), e = [some (.scr ns), some (.ref 0), some (.str cs), some (.ref g.length), v4, none, none, none] ∧ ok6 19 ws ∧ 1 ≤ ws.length ∧ ws.length ≤ 3 ∧ h[g.length]? = some (.lst (ws.map D.str)) ∧ StrAt h 0) ?_ ?_
  · obtain ⟨v, h1, e1, v0, v1, F1, _⟩ := take_ok (m := 3) (SF.push (o := .lst []) sg).st (by decide) (by decide)
    have q1 : h1[g.length]? = some (.lst []) := F1.get hR (by simp)
    have key := loopF_gen (g := itN (1 + v).toNat) (t := .nm 4) (body := sExpr (mMet isLst dAppend (mVar 3) (mCons (mApp f__law_part (mCons (mVar 1) (mCons (mC (.int 7)) (mCons (mOp dAdd (mVar 2) (mC (S "*"))) mNil)))) mNil))) (N := (1 + v).toNat) (fun j => .int (j : Nat))
      (fun j e h => StrAt h 0 ∧ ∃ (v4 : Option D) (ws : List (List Nat)), e = [some (.scr ns), some (.ref 0), some (.str cs), some (.ref g.length), v4, none, none, none] ∧ ok6 19 ws ∧ ws.length = j ∧ h[g.length]? = some (.lst (ws.map D.str)))
      (fun r => ∃ (v4 : Option D) (ws : List (List Nat)) (h : LH), r = .next [some (.scr ns), some (.ref 0), some (.str cs), some (.ref g.length), v4, none, none, none] h ∧ ok6 19 ws ∧ ws.length = (1 + v).toNat ∧ h[g.length]? = some (.lst (ws.map D.str)) ∧ StrAt h 0)
      (fun j e g hj hi => rfl) (by
        rintro j e h hj ⟨st, v4, ws, rfl, ok, wl, hw⟩
        refine ⟨[some (.scr ns), some (.ref 0), some (.str cs), some (.ref g.length), some (.int (j : Nat)), none, none, none], rfl, ?_⟩
        obtain ⟨z, h2, ez, zl, zc, F⟩ := part6_ok (most := 7) (cs := cs ++ [42]) st (by decide) (by decide) (by simp) (by simp; omega)
        have hw2 := F.get hR hw
        have hap : dAppend (.ref g.length) [.str z] h2 = .ok .non (h2.set g.length (.lst (ws.map D.str ++ [.str z]))) := dAppend_ref hw2 (by rw [List.length_map]; omega)
        have eb : (sExpr (mMet isLst dAppend (mVar 3) (mCons (mApp f__law_part (mCons (mVar 1) (mCons (mC (.int 7)) (mCons (mOp dAdd (mVar 2) (mC (S "*"))) mNil)))) mNil))) [some (.scr ns), some (.ref 0), some (.str cs), some (.ref g.length), some (.int (j : Nat)), none, none, none] h = .next [some (.scr ns), some (.ref 0), some (.str cs), some (.ref g.length), some (.int (j : Nat)), none, none, none] (h2.set g.length (.lst (ws.map D.str ++ [.str z]))) := by
          simp [est, cst, isLst_ref hw, ez, hap]
        rw [eb]
        refine ⟨SF.setO F.st hR, _, ws ++ [z], rfl, ?_, by simp [wl], by rw [List.getElem?_set_self (lt_of_get hw2)]; simp⟩
        intro x hx
        rcases List.mem_append.mp hx with hx | hx
        · exact ok x hx
        · rw [List.mem_singleton.mp hx]
          exact ⟨fun c hc' => hc1 c (zc c hc'), by omega⟩)
      (fun e h ⟨st, v4, ws, he, ok, wl, hw⟩ => ⟨v4, ws, h, by rw [he], ok, wl, hw, st⟩) (1 + v).toNat 0 [some (.scr ns), some (.ref 0), some (.str cs), some (.ref g.length), none, none, none, none] h1 (by omega)
      ⟨F1.st, none, [], rfl, (fun _ h => nomatch h), rfl, q1⟩
    obtain ⟨v4, ws, h, er, ok, wl, hw, st⟩ := key
    refine ⟨_, h, ?_, v4, ws, rfl, ok, by omega, by omega, hw, st⟩
    simp [e1, dAdd_int, ev_rng1, show -4611686018427387904 ≤ 1 + v ∧ 1 + v < 4611686018427387904 from ⟨by omega, by omega⟩, er]
  rintro _ h ⟨v4, ws, rfl, ok, w1, w3, hw, st⟩
  refine wseqP (fun e h => ∃ (ws : List (List Nat)), e = [some (.scr ns), some (.ref 0), some (.str cs), some (.ref g.length), v4, none, none, none] ∧ ok6 19 ws ∧ 1 ≤ ws.length ∧ ws.length ≤ 3 ∧ h[g.length]? = some (.lst (ws.map D.str)) ∧ StrAt h 0) ?_ ?_
  · obtain ⟨v, h1, e1, v0, v1, F1, _⟩ := take_ok (m := 4) st (by decide) (by decide)
    by_cases q : v = 0
    · obtain ⟨z, h2, ez, zl, zc, F⟩ := part6_ok (most := 19) (cs := cs ++ [42, 42]) F1.st (by decide) (by decide) (by simp) (by simp; omega)
      have hw2 := (F1.trans F).get hR hw
      have hs : setL (.ref g.length) (.int 0) (.str z) h2 = some (h2.set g.length (.lst ((ws.map D.str).set 0 (.str z)))) := setL_ref hw2 (by
        unfold ixN
        rw [List.length_map, if_pos (by decide), if_pos (by omega)]
        rfl)
      refine ⟨_, h2.set g.length (.lst ((ws.map D.str).set 0 (.str z))), ?_, ws.set 0 z, rfl, ?_, by simpa using w1, by simpa using w3, ?_, SF.setO F.st hR⟩
      · simp [e1, q, dEq_int, est2, cst2, ez, hs]
      · intro x hx
        rcases List.mem_or_eq_of_mem_set hx with hx | hx
        · exact ok x hx
        · rw [hx]
          exact ⟨fun c hc' => hc2 c (zc c hc'), by omega⟩
      · rw [List.getElem?_set_self (lt_of_get hw2), List.map_set]
    · exact ⟨_, h1, by simp [e1, q, dEq_int], ws, rfl, ok, w1, w3, F1.get hR hw, F1.st⟩
  clear hw ok w1 w3 ws st h
  rintro _ h ⟨ws, rfl, ok, w1, w3, hw, st⟩
  -- the path's parts
  refine wseqP (fun e h' => ∃ (v4 : Option D) (Q : Nat) (ps : List (List Nat)), e = [some (.scr ns), some (.ref 0), some (.str cs), some (.ref g.length), v4, some (.ref Q), none, none] ∧ ok6 101 ps ∧ 1 ≤ ps.length ∧ ps.length ≤ 3 ∧ h'[g.length]? = some (.lst (ws.map D.str)) ∧ h'[Q]? = some (.lst (ps.map D.str))) ?_ ?_
  · obtain ⟨v, h1, e1, v0, v1, F1, _⟩ := take_ok (m := 2) st (by decide) (by decide)
    have hw1 := F1.get hR hw
    by_cases q : v = 0
    · obtain ⟨ps, h2, e2, p2, pl, pc, F2⟩ := compS (it := itO g.length) (i := 7) (n := ws.length) (h := h1) (P := fun z => n47 z ∧ z.length ≤ 101) (y := mApp L.f__law_like (mCons (mVar 1) (mCons (mVar 7) (mCons (mVar 2) mNil))))
        (e := [some (.scr ns), some (.ref 0), some (.str cs), some (.ref g.length), v4, none, none, none]) (fun j => .str (ws.getD j [])) F1.st (by omega) (fun j g' F hj => by
          rw [itO_get (F.get hR hw1), List.getElem?_map]
          by_cases c : j < ws.length
          · rw [if_pos c, List.getD_eq_getElem?_getD, List.getElem?_eq_getElem c]; rfl
          · rw [if_neg c, List.getElem?_eq_none (by omega)]; rfl) (fun g' j F hj => by
          have hm : ws.getD j [] ∈ ws := by
            rw [List.getD_eq_getElem?_getD, List.getElem?_eq_getElem hj]
            exact List.getElem_mem hj
          obtain ⟨z, g2, ez, zl, zn, F3⟩ := like_ok (p := ws.getD j []) (cs := cs) F.st (ok _ hm).1 hc (by have := (ok _ hm).2; omega) c0 (by omega)
          generalize ws.getD j [] = w at *
          exact ⟨z, g2, by simp [ez], ⟨zn, zl⟩, F3⟩)
      refine ⟨_, h2, ?_, v4, h1.length, ps, rfl, pc, by omega, by omega, F2.get hR hw1, p2⟩
      simp [e1, q, dEq_int, hw1, wipeM, e2]
    · obtain ⟨u, h2, e2, u0, u1, F2, _⟩ := take_ok (m := 3) F1.st (by decide) (by decide)
      have hw2 := F2.get hR hw1
      obtain ⟨ps, h3, e3, p3, pl, pc, F3⟩ := compS (it := itN (1 + u).toNat) (i := 4) (n := (1 + u).toNat) (h := h2) (P := fun z => n47 z ∧ z.length ≤ 101) (y := mApp f__law_part (mCons (mVar 1) (mCons (mC (.int 7)) (mCons (mVar 2) mNil))))
        (e := [some (.scr ns), some (.ref 0), some (.str cs), some (.ref g.length), none, none, none, none]) (fun j => .int (j : Nat)) F2.st (by omega) (fun j g' F hj => rfl) (fun g' j F hj => by
          obtain ⟨z, g2, ez, zl, zc, F3⟩ := part6_ok (most := 7) (cs := cs) F.st (by decide) (by decide) c0 (by omega)
          exact ⟨z, g2, by simp [ez], ⟨fun c hc' => hc c (zc c hc'), by omega⟩, F3⟩)
      refine ⟨_, h3, ?_, v4, h2.length, ps, rfl, pc, by omega, by omega, F3.get hR hw2, p3⟩
      simp [e1, q, dEq_int, e2, dAdd_int, ev_rng1, show -4611686018427387904 ≤ 1 + u ∧ 1 + u < 4611686018427387904 from ⟨by omega, by omega⟩, wipeM, e3]
  clear st hw h v4
  rintro _ h ⟨v4, Q, ps, rfl, okp, p1, p3, hw, hp⟩
  have lw : ∀ h', Kp h h' → dLen [.ref g.length] h' = .ok (.int ws.length) h' := fun h' k => by rw [dLen_ref (k.get hw), List.length_map]
  have lp : ∀ h', Kp h h' → dLen [.ref Q] h' = .ok (.int ps.length) h' := fun h' k => by rw [dLen_ref (k.get hp), List.length_map]
  have ecast : decide ((ws.length : Int) = ps.length) = decide (ws.length = ps.length) := decide_eq_decide.mpr (by omega)
  refine wseq (by simp [lw h (Kp.refl h), lp h (Kp.refl h), dEq_int, ecast]; walk_at "nx") ?_
  -- the law's own answer
  refine wseqP (fun e h' => ∃ v4, e = [some (.scr ns), some (.ref 0), some (.str cs), some (.ref g.length), v4, some (.ref Q), some (.bl (mts ws ps)), none] ∧ Kp h h') ?_ ?_
  · obtain ⟨m, hm⟩ : ∃ m, min ws.length ps.length = m := ⟨_, rfl⟩
    obtain ⟨B, hB⟩ : ∃ B : MS, B = sSet 6 (mAnd (mVar 6) (mApp L.f__law_part_matches (mCons (mOp dIx (mVar 3) (mVar 4)) (mCons (mOp dIx (mVar 5) (mVar 4)) mNil)))) := ⟨_, rfl⟩
    have key := loopF_gen (g := itN m) (t := .nm 4) (body := B) (N := m) (fun j => .int (j : Nat))
      (fun j e h' => Kp h h' ∧ ∃ v4 b, e = [some (.scr ns), some (.ref 0), some (.str cs), some (.ref g.length), v4, some (.ref Q), some (.bl b), none] ∧ (ws.length ≠ ps.length → b = false) ∧ (b && mts (ws.drop j) (ps.drop j)) = mts ws ps)
      (fun r => ∃ v4 h', r = .next [some (.scr ns), some (.ref 0), some (.str cs), some (.ref g.length), v4, some (.ref Q), some (.bl (mts ws ps)), none] h' ∧ Kp h h')
      (fun j e g hj hi => rfl) (by
        rintro j e h' hj ⟨K, v4, b, rfl, hb0, hb⟩
        refine ⟨[some (.scr ns), some (.ref 0), some (.str cs), some (.ref g.length), some (.int (j : Nat)), some (.ref Q), some (.bl b), none], rfl, ?_⟩
        have jw : j < ws.length := by omega
        have jp : j < ps.length := by omega
        cases b with
        | false =>
          have eb : B [some (.scr ns), some (.ref 0), some (.str cs), some (.ref g.length), some (.int (j : Nat)), some (.ref Q), some (.bl false), none] h' = .next [some (.scr ns), some (.ref 0), some (.str cs), some (.ref g.length), some (.int (j : Nat)), some (.ref Q), some (.bl false), none] h' := by
            subst hB
            simp
          rw [eb]
          exact ⟨K, _, false, rfl, fun _ => rfl, by rw [← hb]; rfl⟩
        | true =>
          have ix1 : dIx (.ref g.length) (.int (j : Nat)) h' = .ok (.str ws[j]) h' := dIx_ref (K.get hw) (atI_of (by omega) (by
            rw [show ((j : Int)).toNat = j by omega, List.getElem?_map, List.getElem?_eq_getElem jw]; rfl))
          have ix2 : dIx (.ref Q) (.int (j : Nat)) h' = .ok (.str ps[j]) h' := dIx_ref (K.get hp) (atI_of (by omega) (by
            rw [show ((j : Int)).toNat = j by omega, List.getElem?_map, List.getElem?_eq_getElem jp]; rfl))
          obtain ⟨h2, e2, K2⟩ := tab_ok (w := ws[j]) (p := ps[j]) (h := h') (by have := (ok _ (List.getElem_mem jw)).2; omega) (by have := (okp _ (List.getElem_mem jp)).2; omega)
          have eb : B [some (.scr ns), some (.ref 0), some (.str cs), some (.ref g.length), some (.int (j : Nat)), some (.ref Q), some (.bl true), none] h' = .next [some (.scr ns), some (.ref 0), some (.str cs), some (.ref g.length), some (.int (j : Nat)), some (.ref Q), some (.bl (mt ws[j] ps[j])), none] h2 := by
            subst hB
            simp [ix1, ix2, e2]
          rw [eb]
          refine ⟨K.trans K2, _, _, rfl, fun hne => ?_, ?_⟩
          · have := hb0 hne
            cases this
          · rw [← hb, Bool.true_and, List.drop_eq_getElem_cons jw, List.drop_eq_getElem_cons jp]
            rfl)
      (fun e h' ⟨K, v4, b, he, hb0, hb⟩ => by
        refine ⟨v4, h', ?_, K⟩
        rw [he]
        have : b = mts ws ps := by
          by_cases q : ws.length = ps.length
          · rw [List.drop_of_length_le (by omega), List.drop_of_length_le (by omega)] at hb
            rw [← hb]
            simp [mts]
          · rw [hb0 q, mts_no q]
        rw [this]) m 0 [some (.scr ns), some (.ref 0), some (.str cs), some (.ref g.length), v4, some (.ref Q), some (.bl (decide (ws.length = ps.length))), none] h (by omega)
      ⟨Kp.refl h, v4, _, rfl, fun hne => decide_eq_false hne, by
        rw [List.drop_zero, List.drop_zero]
        by_cases q : ws.length = ps.length
        · rw [decide_eq_true q, Bool.true_and]
        · rw [decide_eq_false q, mts_no q]; rfl⟩
    obtain ⟨v4', h', er, K⟩ := key
    subst hB
    have emin : dMin2 [.int ws.length, .int ps.length] h = .ok (.int m) h := by
      show Res.ok (D.int (if (ps.length : Int) < ws.length then (ps.length : Int) else ws.length)) h = _
      have : (if (ps.length : Int) < ws.length then (ps.length : Int) else ws.length) = (m : Nat) := by
        split <;> omega
      rw [this]
    have er1 := rng1_nat (n := m) (a := mCons (mApp dMin2 (mCons (mApp dLen (mCons (mVar 3) mNil)) (mCons (mApp dLen (mCons (mVar 5) mNil)) mNil))) mNil) (e := [some (.scr ns), some (.ref 0), some (.str cs), some (.ref g.length), v4, some (.ref Q), some (.bl (decide (ws.length = ps.length))), none]) (h := h) (h1 := h) (by simp [lw h (Kp.refl h), lp h (Kp.refl h), emin]) (by omega)
    exact ⟨_, h', by simp only [ev_for, er1, rs_ok]; exact er, v4', rfl, K⟩
  rintro _ h' ⟨v4', rfl, K⟩
  obtain ⟨jw, llw⟩ := joinP (K.get hw) (fun s hs => (ok s hs).2) (by omega) (by decide)
  obtain ⟨jp, llp⟩ := joinP (K.get hp) (fun s hs => (okp s hs).2) (by omega) (by decide)
  have wne : ws ≠ [] := by intro z; rw [z] at w1; simp at w1
  have pne : ps ≠ [] := by intro z; rw [z] at p1; simp at p1
  have cw := cut_join wne (fun p hp h47 => (ok p hp).1 47 h47 rfl)
  have cp := cut_join pne (fun p hp h47 => (okp p hp).1 47 h47 rfl)
  have hW : (TL.joinL [47] ws).length ≤ 800 := by
    have : ws.length * 19 ≤ 3 * 19 := Nat.mul_le_mul w3 (Nat.le_refl _)
    omega
  have hP : (TL.joinL [47] ps).length ≤ 800 := by
    have : ps.length * 101 ≤ 3 * 101 := Nat.mul_le_mul p3 (Nat.le_refl _)
    omega
  obtain ⟨h2, m2, _⟩ := matches_ok (h := h') hW hP
  rw [cw, cp] at m2
  rw [esl] at jw jp
  exact ⟨h2, by simp [esl, isStr, jw, jp, m2, says_eq]⟩
end G
set_option Elab.async false
set_option linter.all false
set_option maxRecDepth 100000
set_option maxHeartbeats 4000000
open PySem PySem.W PyProof.Rows
set_option maxRecDepth 100000 in
set_option maxHeartbeats 0 in
theorem PySem.Challenge.cw_sealchart_k06_matches_by_a_table_holds : PySem.Challenge.rw_sealchart_k06_matches_by_a_table.Holds := by
  w_on; o_law; k_head; (case hw => w_witness2)
  k_fill
  refine G.walk (l := PySem.Challenge.rw_sealchart_k06_matches_by_a_table) G.law_ok rfl rfl (fun w h Y => PySem.W.kIn_of Y) ?F
  case F =>
    intro w mg fa h KX GG hmg
    refine' G.all_mk KX GG hmg ?a0 ?l0 ?c0 ?k0 ?a1 ?l1 ?c1 ?k1 ?a2 ?l2 ?c2 ?k2 ?a3 ?l3 ?c3 ?k3 ?a4 ?l4 ?c4 ?k4 ?a5 ?l5 ?c5 ?k5 ?a6 ?l6 ?c6 ?k6 ?a7 ?l7 ?c7 ?k7 ?a8 ?l8 ?c8 ?k8 ?a9 ?l9 ?c9 ?k9 ?a10 ?l10 ?c10 ?k10 ?z_bool ?z_int ?z_isinstance ?z_len ?z_list ?z_min ?z_range
    (case a0 => k_is); (case l0 => k_is); (case c0 => k_is); (case k0 => k_is); (case a1 => k_is); (case l1 => k_is)
    (case c1 => k_is); (case k1 => k_is); (case a2 => k_is); (case l2 => k_is); (case c2 => k_is); (case k2 => k_is)
    (case a3 => k_is); (case l3 => k_is); (case c3 => k_is); (case k3 => k_is); (case a4 => k_is); (case l4 => k_is)
    (case c4 => k_is); (case k4 => k_is); (case a5 => k_is); (case l5 => k_is); (case c5 => k_is); (case k5 => k_is)
    (case a6 => k_is); (case l6 => k_is); (case c6 => k_is); (case k6 => k_is); (case a7 => k_is); (case l7 => k_is)
    (case c7 => k_is); (case k7 => k_is); (case a8 => k_is); (case l8 => k_is); (case c8 => k_is); (case k8 => k_is)
    (case a9 => k_is); (case l9 => k_is); (case c9 => k_is); (case k9 => k_is); (case a10 => k_is); (case l10 => k_is)
    (case c10 => k_is); (case k10 => k_is); (case z_bool => k_is); (case z_int => k_is); (case z_isinstance => k_is); (case z_len => k_is)
    (case z_list => k_is); (case z_min => k_is); (case z_range => k_is)
