import PyProof.Rows.All
import Wide.All
import OpenK.AllK
import Wide.FinOn
import HandS.ForMost
import HandS.ForExc
import HandS.Flow
import HandS.TupAny
import HandS.TupMul
import HandS.IsInst
import HandS.Style
import HandS.Wide
import HandS.WideMore
import HandS.Deep
import KE.SortData
import HandS.Set
import HandS.SetFor
import KE.GoesMore
import HandS.Ends
import PySem.Challenge.RW_endstell_k03_nets
set_option Elab.async false
set_option linter.all false
set_option maxRecDepth 100000
set_option maxHeartbeats 4000000
/-! Det, part A: values, small heap, readings by deterministic functions. -/
namespace Det
open PySem PySem.Spec PyProof.Rows L2

/-- a pure value; ref: the place of an object in the small heap -/
inductive D where
  | non | bl (b : Bool) | int (i : Int) | str (s : Str) | ty (n : String) | tup (xs : List D) | rol (xs : List D) | ref (n : Nat)
/-- an object of the small heap: a list, a dict by ints and texts, a dict by tuples -/
inductive Ob where
  | lst (xs : List D) | dk (kvs : List (Key × D)) | dt (kvs : List (List Key × D))
abbrev MH := List Ob
structure Exn where
  c : Str
  fs : List (Str × D)
inductive Res (α : Type) where
  | ok (a : α) (h : MH) | ex (x : Exn) (h : MH) | no
def Res.bind {α β : Type} (r : Res α) (k : α → MH → Res β) : Res β := match r with
  | .ok a h => k a h
  | .ex x h => .ex x h
  | .no => .no
def Res.ofO {α : Type} : Option (α × MH) → Res α
  | some (a, h) => .ok a h
  | none => .no
abbrev Nv := List (Option D)
inductive SRes where
  | nx (e : Nv) (h : MH) | bk (e : Nv) (h : MH) | ct (e : Nv) (h : MH) | rt (d : D) (h : MH) | ex (x : Exn) (e : Nv) (h : MH) | no

/-! ### relations -/
/-- a list that is only read -/
def RoL (K : PySem.W.Frag) (H : Hp) (a : Addr) (xs : List V) : Prop := (∃ o, H a = some (.frz o (.lst xs))) ∨
  ∃ (o : Obj) (its : Array Value) (n : Nat), K.lookup a = some o ∧ o.cls = .type "list" ∧ o.dict = none ∧ o.data = .seq its n ∧ its.size ≤ sizeLine ∧ Vals xs its.toList
theorem RoL.seq {K : PySem.W.Frag} {H : Hp} {a : Addr} {xs : List V} (h : RoL K H a xs) : SqL K H a xs := by
  rcases h with ⟨o, h⟩ | h
  · exact .inl (.inr ⟨o, h⟩)
  · exact .inr h
mutual
inductive RelD (K : PySem.W.Frag) (φ : List Addr) (H : Hp) : D → V → Prop
  | non : RelD K φ H .non .non
  | bl (b : Bool) : RelD K φ H (.bl b) (.bl b)
  | int (i : Int) : RelD K φ H (.int i) (.int i)
  | str (x : Str) : RelD K φ H (.str x) (.str x)
  | ty (n : String) : RelD K φ H (.ty n) (.ty n)
  | ref {n : Nat} {a : Addr} : φ[n]? = some a → RelD K φ H (.ref n) (.ref a)
  | tup {a : Addr} {ds : List D} {vs : List V} : SqT K H a vs → RelDs K φ H ds vs → RelD K φ H (.tup ds) (.ref a)
  | rol {a : Addr} {ds : List D} {vs : List V} : RoL K H a vs → RelDs K φ H ds vs → RelD K φ H (.rol ds) (.ref a)
inductive RelDs (K : PySem.W.Frag) (φ : List Addr) (H : Hp) : List D → List V → Prop
  | nil : RelDs K φ H [] []
  | cons {d : D} {v : V} {ds : List D} {vs : List V} : RelD K φ H d v → RelDs K φ H ds vs → RelDs K φ H (d :: ds) (v :: vs)
end
/-- what stands for good -/
def Sta : HO → Prop
  | .tup _ => True
  | .frz _ (.lst _) => True
  | .frz _ (.tup _) => True
  | .xd _ => True
  | _ => False
def Kp (H H' : Hp) : Prop := ∀ a o, H a = some o → Sta o → H' a = some o
theorem Kp.refl (H : Hp) : Kp H H := fun _ _ h _ => h
theorem Kp.trans {H H1 H2 : Hp} (a : Kp H H1) (b : Kp H1 H2) : Kp H H2 := fun c o h s => b c o (a c o h s) s
theorem Kp.new {H : Hp} {p : Addr} {o : HO} (h : H p = none) : Kp H (upd H p o) := fun a u e _ => by
  rw [upd_ne (ne_of_none e h)]; exact e
theorem Kp.mut {H : Hp} {p : Addr} {o u : HO} (h : H p = some u) (s : ¬ Sta u) : Kp H (upd H p o) := fun a v e sv => by
  have : a ≠ p := fun z => by subst z; rw [h] at e; cases e; exact s sv
  rw [upd_ne this]; exact e
theorem Kp.seqT {K : PySem.W.Frag} {H H' : Hp} {a : Addr} {xs : List V} (k : Kp H H') (h : SqT K H a xs) : SqT K H' a xs := by
  rcases h with (h | ⟨o, h⟩) | h
  · exact .inl (.inl (k _ _ h trivial))
  · exact .inl (.inr ⟨o, k _ _ h trivial⟩)
  · exact .inr h
theorem Kp.roL {K : PySem.W.Frag} {H H' : Hp} {a : Addr} {xs : List V} (k : Kp H H') (h : RoL K H a xs) : RoL K H' a xs := by
  rcases h with ⟨o, h⟩ | h
  · exact .inl ⟨o, k _ _ h trivial⟩
  · exact .inr h
abbrev Px (φ φ' : List Addr) : Prop := ∃ t, φ' = φ ++ t
theorem Px.refl (φ : List Addr) : Px φ φ := ⟨[], by simp⟩
theorem Px.trans {φ φ1 φ2 : List Addr} (a : Px φ φ1) (b : Px φ1 φ2) : Px φ φ2 := by
  obtain ⟨s, rfl⟩ := a; obtain ⟨t, rfl⟩ := b; exact ⟨s ++ t, by simp⟩
theorem Px.get {φ φ' : List Addr} {n : Nat} {a : Addr} (p : Px φ φ') (h : φ[n]? = some a) : φ'[n]? = some a := by
  obtain ⟨t, rfl⟩ := p
  have := (List.getElem?_eq_some_iff.mp h).1
  rw [List.getElem?_append_left this]; exact h
theorem Px.le {φ φ' : List Addr} (p : Px φ φ') : φ.length ≤ φ'.length := by
  obtain ⟨t, rfl⟩ := p; simp
section
variable {K : PySem.W.Frag} {φ φ' : List Addr} {H H' : Hp}
mutual
theorem RelD.mono (p : Px φ φ') (k : Kp H H') : ∀ {d : D} {v : V}, RelD K φ H d v → RelD K φ' H' d v
  | _, _, .non => .non
  | _, _, .bl b => .bl b
  | _, _, .int i => .int i
  | _, _, .str x => .str x
  | _, _, .ty n => .ty n
  | _, _, .ref h => .ref (p.get h)
  | _, _, .tup h hs => .tup (k.seqT h) (RelDs.mono p k hs)
  | _, _, .rol h hs => .rol (k.roL h) (RelDs.mono p k hs)
theorem RelDs.mono (p : Px φ φ') (k : Kp H H') : ∀ {ds : List D} {vs : List V}, RelDs K φ H ds vs → RelDs K φ' H' ds vs
  | _, _, .nil => .nil
  | _, _, .cons h t => .cons (RelD.mono p k h) (RelDs.mono p k t)
end
theorem RelDs.length : ∀ {ds : List D} {vs : List V}, RelDs K φ H ds vs → ds.length = vs.length
  | _, _, .nil => rfl
  | _, _, .cons _ t => by simp [RelDs.length t]
theorem RelDs.get : ∀ {ds : List D} {vs : List V} {i : Nat} {d : D}, RelDs K φ H ds vs → ds[i]? = some d → ∃ v, vs[i]? = some v ∧ RelD K φ H d v
  | _, _, _, _, .nil, e => by simp at e
  | _, _, 0, _, .cons h _, e => by simp at e; subst e; exact ⟨_, rfl, h⟩
  | _, _, i + 1, d, .cons _ t, e => by
    obtain ⟨v, h1, h2⟩ := RelDs.get (i := i) (d := d) t (by simpa using e)
    exact ⟨v, by simpa using h1, h2⟩
theorem RelDs.append : ∀ {ds es : List D} {vs us : List V}, RelDs K φ H ds vs → RelDs K φ H es us → RelDs K φ H (ds ++ es) (vs ++ us)
  | _, _, _, _, .nil, s => s
  | _, _, _, _, .cons h t, s => .cons h (RelDs.append t s)
theorem RelDs.set {d : D} {v : V} (r : RelD K φ H d v) : ∀ {ds : List D} {vs : List V} (i : Nat), RelDs K φ H ds vs → RelDs K φ H (ds.set i d) (vs.set i v)
  | _, _, _, .nil => .nil
  | _, _, 0, .cons _ t => .cons r t
  | _, _, i + 1, .cons q t => .cons q (RelDs.set r i t)
theorem RelDs.take : ∀ {ds : List D} {vs : List V} (n : Nat), RelDs K φ H ds vs → RelDs K φ H (ds.take n) (vs.take n)
  | _, _, 0, _ => .nil
  | _, _, _ + 1, .nil => .nil
  | _, _, n + 1, .cons h t => .cons h (RelDs.take n t)
theorem RelDs.drop : ∀ {ds : List D} {vs : List V} (n : Nat), RelDs K φ H ds vs → RelDs K φ H (ds.drop n) (vs.drop n)
  | _, _, 0, r => r
  | _, _, _ + 1, .nil => .nil
  | _, _, n + 1, .cons _ t => RelDs.drop n t
theorem RelDs.erase : ∀ {ds : List D} {vs : List V} (n : Nat), RelDs K φ H ds vs → RelDs K φ H (ds.eraseIdx n) (vs.eraseIdx n)
  | _, _, _, .nil => .nil
  | _, _, 0, .cons _ t => t
  | _, _, n + 1, .cons h t => .cons h (RelDs.erase n t)
theorem RelDs.rev {ds : List D} {vs : List V} (r : RelDs K φ H ds vs) : RelDs K φ H ds.reverse vs.reverse := by
  induction ds generalizing vs with
  | nil => cases r; exact .nil
  | cons d ds ih =>
    cases r with
    | cons h t => rw [List.reverse_cons, List.reverse_cons]; exact (ih t).append (.cons h .nil)
end

/-! ### the small heap stands -/
def RelK {κ : Type} (K : PySem.W.Frag) (φ : List Addr) (H : Hp) (kds : List (κ × D)) (kvs : List (κ × V)) : Prop := kds.map (·.1) = kvs.map (·.1) ∧ RelDs K φ H (kds.map (·.2)) (kvs.map (·.2))
def RelO (K : PySem.W.Frag) (φ : List Addr) (H : Hp) (a : Addr) : Ob → Prop
  | .lst ds => ∃ vs, H a = some (.lst vs) ∧ RelDs K φ H ds vs
  | .dk kds => ∃ kvs, H a = some (.dK kvs) ∧ RelK K φ H kds kvs
  | .dt kds => ∃ kvs, H a = some (.dT kvs) ∧ RelK K φ H kds kvs
structure HR (K : PySem.W.Frag) (φ : List Addr) (mh : MH) (H : Hp) : Prop where
  len : φ.length = mh.length
  nd : φ.Nodup
  ob : ∀ (n : Nat) (a : Addr) (o : Ob), φ[n]? = some a → mh[n]? = some o → RelO K φ H a o
section
variable {K : PySem.W.Frag} {φ φ' : List Addr} {H H' : Hp} {mh : MH} {a p : Addr} {o : Ob} {n : Nat}
theorem RelK.mono {κ : Type} {kds : List (κ × D)} {kvs : List (κ × V)} (x : Px φ φ') (k : Kp H H') (r : RelK K φ H kds kvs) : RelK K φ' H' kds kvs := ⟨r.1, r.2.mono x k⟩
/-- an object told by H at a alone (and the values in it) -/
theorem RelO.mono (x : Px φ φ') (k : Kp H H') (e : ∀ u, H a = some u → H' a = some u) (r : RelO K φ H a o) : RelO K φ' H' a o := by
  cases o with
  | lst ds => obtain ⟨vs, h, r⟩ := r; exact ⟨vs, e _ h, r.mono x k⟩
  | dk kds => obtain ⟨vs, h, r⟩ := r; exact ⟨vs, e _ h, r.mono x k⟩
  | dt kds => obtain ⟨vs, h, r⟩ := r; exact ⟨vs, e _ h, r.mono x k⟩
theorem HR.at (r : HR K φ mh H) (h : mh[n]? = some o) : ∃ a, φ[n]? = some a ∧ RelO K φ H a o := by
  have h1 := (List.getElem?_eq_some_iff.mp h).1
  have h2 : n < φ.length := by rw [r.len]; exact h1
  exact ⟨φ[n], by simp [h2], r.ob n _ o (by simp [h2]) h⟩
theorem HR.lt (r : HR K φ mh H) (h : φ[n]? = some a) : n < mh.length := by
  rw [← r.len]; exact (List.getElem?_eq_some_iff.mp h).1
theorem nodup_ix' {l : List Addr} (hN : l.Nodup) {i j : Nat} {x : Addr} (a : l[i]? = some x) (b : l[j]? = some x) : i = j := by
  obtain ⟨h1, e1⟩ := List.getElem?_eq_some_iff.mp a
  obtain ⟨h2, e2⟩ := List.getElem?_eq_some_iff.mp b
  exact (List.getElem_inj hN).mp (e1.trans e2.symm)
theorem HR.inj (r : HR K φ mh H) {i j : Nat} (h1 : φ[i]? = some a) (h2 : φ[j]? = some a) : i = j := nodup_ix' r.nd h1 h2
/-- an object that the small heap knows and that may change stands in H -/
theorem RelO.there (r : RelO K φ H a o) : ∃ u, H a = some u ∧ ¬ Sta u := by
  cases o with
  | lst ds => obtain ⟨vs, h, _⟩ := r; exact ⟨_, h, fun z => z⟩
  | dk kds => obtain ⟨vs, h, _⟩ := r; exact ⟨_, h, fun z => z⟩
  | dt kds => obtain ⟨vs, h, _⟩ := r; exact ⟨_, h, fun z => z⟩
/-- the heap grew by an object that the small heap does not tell -/
theorem HR.grow (r : HR K φ mh H) {u : HO} (hp : H p = none) : HR K φ mh (upd H p u) := by
  refine ⟨r.len, r.nd, fun n a o h1 h2 => (r.ob n a o h1 h2).mono (Px.refl φ) (Kp.new hp) fun v e => ?_⟩
  rw [upd_ne (ne_of_none e hp)]; exact e
/-- a new object, told -/
theorem HR.push (r : HR K φ mh H) {u : HO} (hp : H p = none) (hn : p ∉ φ) (ho : RelO K (φ ++ [p]) (upd H p u) p o) : HR K (φ ++ [p]) (mh ++ [o]) (upd H p u) := by
  refine ⟨by simp [r.len], ?_, fun n a ob h1 h2 => ?_⟩
  · rw [List.nodup_append]
    exact ⟨r.nd, by simp, fun x hx y hy e => by simp at hy; subst hy; subst e; exact hn hx⟩
  · by_cases hlt : n < φ.length
    · rw [List.getElem?_append_left hlt] at h1
      rw [List.getElem?_append_left (by rw [← r.len]; exact hlt)] at h2
      refine (r.ob n a ob h1 h2).mono ⟨[p], rfl⟩ (Kp.new hp) fun v e => ?_
      rw [upd_ne (ne_of_none e hp)]; exact e
    · have e1 : n = φ.length := by
        have := (List.getElem?_eq_some_iff.mp h1).1
        simp at this; omega
      subst e1
      simp at h1
      rw [r.len] at h2
      simp at h2
      subst h1; subst h2
      exact ho
/-- an object changed -/
theorem HR.put (r : HR K φ mh H) {u u' : HO} {o' : Ob} (hn : φ[n]? = some p) (hu : H p = some u') (hs : ¬ Sta u') (ho : RelO K φ (upd H p u) p o') : HR K φ (mh.set n o') (upd H p u) := by
  refine ⟨by simp [r.len], r.nd, fun m a ob h1 h2 => ?_⟩
  by_cases hm : m = n
  · subst hm
    rw [hn] at h1; cases h1
    rw [List.getElem?_set_self (r.lt hn)] at h2
    cases h2
    exact ho
  · rw [List.getElem?_set_ne (Ne.symm hm)] at h2
    have hne : a ≠ p := fun z => hm (r.inj h1 (z ▸ hn))
    refine (r.ob m a ob h1 h2).mono (Px.refl φ) (Kp.mut hu hs) fun v e => ?_
    rw [upd_ne hne]; exact e
theorem HR.there (r : HR K φ mh H) (h : a ∈ φ) : ∃ u, H a = some u ∧ ¬ Sta u := by
  obtain ⟨n, hn, e⟩ := List.mem_iff_getElem.mp h
  have h1 : φ[n]? = some a := by simp [hn, e]
  have h2 : n < mh.length := by rw [← r.len]; exact hn
  exact (r.ob n a mh[n] h1 (by simp [h2])).there
theorem HR.fresh (r : HR K φ mh H) (h : H p = none) : p ∉ φ := fun z => by
  obtain ⟨u, e, _⟩ := r.there z
  rw [h] at e; cases e
/-- a new object, told, by its content -/
theorem HR.new (r : HR K φ mh H) {ds : List D} {vs : List V} (hp : H p = none) (h : RelDs K φ H ds vs) : HR K (φ ++ [p]) (mh ++ [.lst ds]) (upd H p (.lst vs)) :=
  r.push hp (r.fresh hp) ⟨vs, upd_same, h.mono ⟨[p], rfl⟩ (Kp.new hp)⟩
theorem px1 : Px φ (φ ++ [p]) := ⟨[p], rfl⟩
theorem HR.last (r : HR K φ mh H) : (φ ++ [p])[mh.length]? = some p := by rw [← r.len]; simp
theorem HR.lst (r : HR K φ mh H) (hn : φ[n]? = some a) {ds : List D} (h : mh[n]? = some (.lst ds)) : ∃ vs, H a = some (.lst vs) ∧ RelDs K φ H ds vs := r.ob n a _ hn h
/-- a list changed -/
theorem HR.setL (r : HR K φ mh H) {vs vs' : List V} {ds' : List D} (hn : φ[n]? = some a) (hu : H a = some (.lst vs)) (h : RelDs K φ H ds' vs') : HR K φ (mh.set n (.lst ds')) (upd H a (.lst vs')) :=
  r.put hn hu (fun z => z) ⟨vs', upd_same, h.mono (Px.refl φ) (Kp.mut hu fun z => z)⟩
end
end Det
/-! Det, part B: readings given by functions, the combinators' soundness. -/
namespace Det
open PySem PySem.Spec PyProof.Rows L2

abbrev MGl := Str → Option Value
/-- an exception: its class by name, its fields -/
def RelX (K : PySem.W.Frag) (mg : MGl) (φ : List Addr) (H : Hp) (x : Exn) (cls : Value) (d : Option Addr) : Prop :=
  ∃ (C dx : Addr) (fv : List (Str × V)), mg x.c = some (.ref C) ∧ cls = .ref C ∧ d = some dx ∧ H dx = some (.xd fv) ∧ ∀ f y, x.fs.lookup f = some y → ∃ v, fv.lookup f = some v ∧ RelD K φ H y v
structure RelE (K : PySem.W.Frag) (φ : List Addr) (H : Hp) (env : Nv) (σ : L2.St) : Prop where
  len : env.length = σ.length
  at' : ∀ (i : Nat) (d : D), env[i]? = some (some d) → ∃ v, σ[i]? = some (some v) ∧ RelD K φ H d v
abbrev Rl (α β : Type) := List Addr → Hp → α → β → Prop
/-- what is wanted behind r -/
def post {α β : Type} (K : PySem.W.Frag) (mg : MGl) (W : WX) (R : Rl α β) (σ : L2.St) (φ : List Addr) (H : Hp) (r : Res α) (Q : β → Hp → Prop) : Prop := match r with
  | .ok a mh' => ∀ φ' b H', Px φ φ' → Kp H H' → HR K φ' mh' H' → R φ' H' a b → Q b H'
  | .ex x mh' => ∀ φ' c d H', Px φ φ' → Kp H H' → HR K φ' mh' H' → RelX K mg φ' H' x c d → W c d σ H'
  | .no => False
section
variable {K : PySem.W.Frag} {mg : MGl} {W : WX} {σ : L2.St} {φ φ' : List Addr} {H H' : Hp} {env : Nv}
theorem RelE.mono (p : Px φ φ') (k : Kp H H') (r : RelE K φ H env σ) : RelE K φ' H' env σ := ⟨r.len, fun i d e => by
  obtain ⟨v, h1, h2⟩ := r.at' i d e
  exact ⟨v, h1, h2.mono p k⟩⟩
theorem RelE.set {d : D} {v : V} (r : RelE K φ H env σ) (h : RelD K φ H d v) (i : Nat) : RelE K φ H (env.set i (some d)) (σ.set i (some v)) := by
  refine ⟨by simp [r.len], fun j e q => ?_⟩
  by_cases hj : j = i
  · subst hj
    by_cases hl : j < env.length
    · rw [List.getElem?_set_self hl] at q
      cases q
      exact ⟨v, List.getElem?_set_self (by rw [← r.len]; exact hl), h⟩
    · rw [List.getElem?_eq_none (by simpa using hl)] at q; cases q
  · rw [List.getElem?_set_ne (Ne.symm hj)] at q
    obtain ⟨u, h1, h2⟩ := r.at' j e q
    exact ⟨u, by rw [List.getElem?_set_ne (Ne.symm hj)]; exact h1, h2⟩
theorem post_mono {α β : Type} {R : Rl α β} {r : Res α} {Q Q' : β → Hp → Prop} (p : Px φ φ') (k : Kp H H') (h : post K mg W R σ φ H r Q) (hq : ∀ b H2, Q b H2 → Q' b H2) : post K mg W R σ φ' H' r Q' := by
  cases r with
  | ok a mh => exact fun φ2 b H2 p2 k2 hr hR => hq _ _ (h φ2 b H2 (p.trans p2) (k.trans k2) hr hR)
  | ex x mh => exact fun φ2 c d H2 p2 k2 hr hx => h φ2 c d H2 (p.trans p2) (k.trans k2) hr hx
  | no => exact h
theorem post_bind {α β γ δ : Type} {R1 : Rl α β} {R2 : Rl γ δ} {r : Res α} {k : α → MH → Res γ} {Q : δ → Hp → Prop} (h : post K mg W R2 σ φ H (r.bind k) Q) :
    post K mg W R1 σ φ H r fun b H1 => ∃ φ1 a mh1, Px φ φ1 ∧ Kp H H1 ∧ HR K φ1 mh1 H1 ∧ R1 φ1 H1 a b ∧ post K mg W R2 σ φ1 H1 (k a mh1) Q := by
  cases r with
  | ok a mh => exact fun φ2 b H2 p2 k2 hr hR => ⟨φ2, a, mh, p2, k2, hr, hR, post_mono p2 k2 h fun _ _ q => q⟩
  | ex x mh => exact h
  | no => exact h
end

/-! ### expressions -/
abbrev ME := Nv → MH → Res D
abbrev MT := Nv → MH → Res Bool
abbrev MA := Nv → MH → Res (List D)
def iE (K : PySem.W.Frag) (mg : MGl) (W : WX) (f : ME) : TE := fun σ H Q => ∃ φ env mh, RelE K φ H env σ ∧ HR K φ mh H ∧ post K mg W (RelD K) σ φ H (f env mh) Q
def RB : Rl Bool Bool := fun _ _ a b => a = b
def iT (K : PySem.W.Frag) (mg : MGl) (W : WX) (f : MT) : TT := fun σ H Q => ∃ φ env mh, RelE K φ H env σ ∧ HR K φ mh H ∧ post K mg W RB σ φ H (f env mh) Q
def iA (K : PySem.W.Frag) (mg : MGl) (W : WX) (f : MA) : TA := fun σ H Q => ∃ φ env mh, RelE K φ H env σ ∧ HR K φ mh H ∧ post K mg W (RelDs K) σ φ H (f env mh) Q
theorem _root_.L2.PE.imp {X : Cx} {e : Expr} {t t' : TE} (h : PE X e t) (w : ∀ σ H Q, t' σ H Q → t σ H Q) : PE X e t' := ⟨fun pins s σ H Q I q => h.run pins s σ H Q I (w σ H Q q)⟩
theorem _root_.L2.PT.imp {X : Cx} {e : Expr} {t t' : TT} (h : PT X e t) (w : ∀ σ H Q, t' σ H Q → t σ H Q) : PT X e t' := ⟨fun pins s σ H Q I q => h.run pins s σ H Q I (w σ H Q q)⟩
theorem _root_.L2.PW.imp {X : Cx} {e : Expr} {t t' : TT} (h : PW X e t) (w : ∀ σ H Q, t' σ H Q → t σ H Q) : PW X e t' := ⟨fun wh pins s σ H Q I q => h.run wh pins s σ H Q I (w σ H Q q)⟩
theorem _root_.L2.PA.imp {X : Cx} {e : List Expr} {t t' : TA} (h : PA X e t) (w : ∀ σ H Q, t' σ H Q → t σ H Q) : PA X e t' := ⟨fun po pins s σ H Q I q => h.run po pins s σ H Q I (w σ H Q q)⟩
theorem _root_.L2.PS.imp {X : Cx} {st : Stmt} {t t' : TS} (h : PS X st t) (w : ∀ D σ H, t' D σ H → t D σ H) : PS X st t' := ⟨fun pins s σ H D I q => h.run pins s σ H D I (w D σ H q)⟩
theorem _root_.L2.PSs.imp {X : Cx} {st : List Stmt} {t t' : TS} (h : PSs X st t) (w : ∀ D σ H, t' D σ H → t D σ H) : PSs X st t' := ⟨fun pins s σ H D I q => h.run pins s σ H D I (w D σ H q)⟩
abbrev SE (X : Cx) (W : WX) (e : Expr) (f : ME) : Prop := PE X e (iE X.K X.mg W f)
abbrev ST (X : Cx) (W : WX) (e : Expr) (f : MT) : Prop := PT X e (iT X.K X.mg W f)
abbrev SW (X : Cx) (W : WX) (e : Expr) (f : MT) : Prop := PW X e (iT X.K X.mg W f)
abbrev SA (X : Cx) (W : WX) (es : List Expr) (f : MA) : Prop := PA X es (iA X.K X.mg W f)

/-! #### the combinators -/
def vr (i : Nat) : ME := fun env mh => match env[i]? with | some (some d) => .ok d mh | _ => .no
def kn (d : D) : ME := fun _ mh => .ok d mh
def anil : MA := fun _ mh => .ok [] mh
def acons (f : ME) (g : MA) : MA := fun env mh => (f env mh).bind fun d mh1 => (g env mh1).bind fun ds mh2 => .ok (d :: ds) mh2
/-- an operation on values -/
abbrev Op1 := D → MH → Option (D × MH)
abbrev Op2 := D → D → MH → Option (D × MH)
abbrev OpA := List D → MH → Option (D × MH)
def un (o : Op1) (f : ME) : ME := fun env mh => (f env mh).bind fun a mh1 => .ofO (o a mh1)
def bi (o : Op2) (f g : ME) : ME := fun env mh => (f env mh).bind fun a mh1 => (g env mh1).bind fun b mh2 => .ofO (o a b mh2)
def ap (o : OpA) (f : MA) : ME := fun env mh => (f env mh).bind fun a mh1 => .ofO (o a mh1)
/-- a test of a value -/
def truD : D → MH → Option Bool
  | .non, _ => some false
  | .bl b, _ => some b
  | .int i, _ => some (i != 0)
  | .str s, _ => if s.length ≤ sizeLine then some ((s.length : Int) != 0) else none
  | .tup xs, _ => some (!xs.isEmpty)
  | .ref n, mh => match mh[n]? with
    | some (.lst xs) => some (!xs.isEmpty)
    | some (.dk xs) => some (!xs.isEmpty)
    | _ => none
  | _, _ => none
def tru (f : ME) : MT := fun env mh => (f env mh).bind fun a mh1 => match truD a mh1 with | some b => .ok b mh1 | none => .no
def tb (f : ME) : MT := fun env mh => (f env mh).bind fun a mh1 => match a with | .bl b => .ok b mh1 | _ => .no
def tand (f g : MT) : MT := fun env mh => (f env mh).bind fun b mh1 => if b = true then g env mh1 else .ok false mh1
def tor (f g : MT) : MT := fun env mh => (f env mh).bind fun b mh1 => if b = true then .ok true mh1 else g env mh1
def tnot (f : MT) : MT := fun env mh => (f env mh).bind fun b mh1 => .ok (!b) mh1
def eand (f g : ME) : ME := fun env mh => (f env mh).bind fun a mh1 => match truD a mh1 with | some b => if b = true then g env mh1 else .ok a mh1 | none => .no
def eor (f g : ME) : ME := fun env mh => (f env mh).bind fun a mh1 => match truD a mh1 with | some b => if b = true then .ok a mh1 else g env mh1 | none => .no
def enot (f : ME) : ME := fun env mh => (f env mh).bind fun a mh1 => match truD a mh1 with | some b => .ok (.bl (!b)) mh1 | none => .no
def eif (c : MT) (f g : ME) : ME := fun env mh => (c env mh).bind fun b mh1 => if b = true then f env mh1 else g env mh1
abbrev Fn := List D → MH → Res D
def cal (n : Nat) (F : Fn) (f : MA) : ME := fun env mh => (f env mh).bind fun ds mh1 => if ds.length = n then F ds mh1 else .no

/-- what an operation's values reading is -/
def postO {α β : Type} (K : PySem.W.Frag) (R : Rl α β) (φ : List Addr) (H : Hp) (r : Option (α × MH)) (Q : β → Hp → Prop) : Prop := match r with
  | some (a, mh') => ∀ φ' b H', Px φ φ' → Kp H H' → HR K φ' mh' H' → R φ' H' a b → Q b H'
  | none => False
def iR1 (K : PySem.W.Frag) (o : Op1) : V → Hp → VK → Prop := fun x H Q => ∃ φ mh a, RelD K φ H a x ∧ HR K φ mh H ∧ postO K (RelD K) φ H (o a mh) Q
def iR2 (K : PySem.W.Frag) (o : Op2) : R2 := fun x y H Q => ∃ φ mh a b, RelD K φ H a x ∧ RelD K φ H b y ∧ HR K φ mh H ∧ postO K (RelD K) φ H (o a b mh) Q
def iRA (K : PySem.W.Frag) (o : OpA) : List V → Hp → VK → Prop := fun xs H Q => ∃ φ mh as, RelDs K φ H as xs ∧ HR K φ mh H ∧ postO K (RelD K) φ H (o as mh) Q
theorem post_ofO {α β : Type} {K : PySem.W.Frag} {mg : MGl} {W : WX} {R : Rl α β} {σ : L2.St} {φ : List Addr} {H : Hp} {r : Option (α × MH)} {Q : β → Hp → Prop} (h : post K mg W R σ φ H (.ofO r) Q) : postO K R φ H r Q := by
  cases r with
  | none => exact h
  | some p => obtain ⟨a, mh⟩ := p; exact h
section
variable {X : Cx} {W : WX} {e a b c : Expr} {es : List Expr} {f g : ME} {fa : MA} {ft gt : MT} {pos : Pos}
theorem imp1 {o : Op1} {r : V → Hp → VK → Prop} {t : TE} (hr : ∀ x H Q, iR1 X.K o x H Q → r x H Q) : ∀ σ H Q, iE X.K X.mg W (un o f) σ H Q → tUn r (iE X.K X.mg W f) σ H Q := by
  rintro σ H Q ⟨φ, env, mh, re, hh, p⟩
  refine ⟨φ, env, mh, re, hh, post_mono (Px.refl φ) (Kp.refl H) (post_bind (R1 := RelD X.K) p) ?_⟩
  rintro x H1 ⟨φ1, d, mh1, p1, k1, h1, r1, q⟩
  exact hr _ _ _ ⟨φ1, mh1, d, r1, h1, post_ofO q⟩
theorem imp2 {o : Op2} {r : R2} (hr : ∀ x y H Q, iR2 X.K o x y H Q → r x y H Q) : ∀ σ H Q, iE X.K X.mg W (bi o f g) σ H Q → tOp r (iE X.K X.mg W f) (iE X.K X.mg W g) σ H Q := by
  rintro σ H Q ⟨φ, env, mh, re, hh, p⟩
  refine ⟨φ, env, mh, re, hh, post_mono (Px.refl φ) (Kp.refl H) (post_bind (R1 := RelD X.K) p) ?_⟩
  rintro x H1 ⟨φ1, d, mh1, p1, k1, h1, r1, q⟩
  refine ⟨φ1, env, mh1, re.mono p1 k1, h1, post_mono (Px.refl φ1) (Kp.refl H1) (post_bind (R1 := RelD X.K) q) ?_⟩
  rintro y H2 ⟨φ2, d2, mh2, p2, k2, h2, r2, q2⟩
  exact hr _ _ _ _ ⟨φ2, mh2, d, d2, r1.mono p2 k2, r2, h2, post_ofO q2⟩
theorem impA {o : OpA} {r : List V → Hp → VK → Prop} (hr : ∀ x H Q, iRA X.K o x H Q → r x H Q) : ∀ σ H Q, iE X.K X.mg W (ap o fa) σ H Q → (fun σ H Q => iA X.K X.mg W fa σ H fun xs H1 => r xs H1 Q : TE) σ H Q := by
  rintro σ H Q ⟨φ, env, mh, re, hh, p⟩
  refine ⟨φ, env, mh, re, hh, post_mono (Px.refl φ) (Kp.refl H) (post_bind (R1 := RelDs X.K) p) ?_⟩
  rintro x H1 ⟨φ1, d, mh1, p1, k1, h1, r1, q⟩
  exact hr _ _ _ ⟨φ1, mh1, d, r1, h1, post_ofO q⟩

theorem sv (i : Nat) {x : Str} {pos : Pos} (hN : X.N[i]? = some x := by rfl) (hv : Vis X.env.scope x := by first | exact Or.inl rfl | exact Or.inr (Or.inl rfl) | exact Or.inr (Or.inr rfl)) (hd : (x == ("__debug__" : Str)) = false := by decide)
    (hcd : (x == ("__classdict__" : Str)) = false := by decide) : SE X W (.Name x pos) (vr i) := by
  refine (pe_var (i := i) hN hv hd hcd).imp ?_
  rintro σ H Q ⟨φ, env, mh, re, hh, p⟩
  unfold vr at p
  cases h : env[i]? with
  | none => rw [h] at p; exact p.elim
  | some o =>
    cases o with
    | none => rw [h] at p; exact p.elim
    | some d =>
      rw [h] at p
      obtain ⟨v, h1, h2⟩ := re.at' i d h
      exact ⟨v, h1, p φ v H (Px.refl φ) (Kp.refl H) hh h2⟩
theorem skn {v : V} {d : D} (h : PE X e (tC v)) (r : ∀ φ H, RelD X.K φ H d v) : SE X W e (kn d) := by
  refine h.imp ?_
  rintro σ H Q ⟨φ, env, mh, re, hh, p⟩
  exact p φ v H (Px.refl φ) (Kp.refl H) hh (r φ H)
theorem sint {i : Int} {j : Nat} {pos : Pos} : SE X W (.Constant (.int i) j pos) (kn (.int i)) := skn pe_int fun _ _ => .int i
theorem sbl {i : Bool} {j : Nat} {pos : Pos} : SE X W (.Constant (.bool i) j pos) (kn (.bl i)) := skn pe_bl fun _ _ => .bl i
theorem snon {j : Nat} {pos : Pos} : SE X W (.Constant .none j pos) (kn .non) := skn pe_non fun _ _ => .non
theorem sstr {i : Str} {j : Nat} {pos : Pos} : SE X W (.Constant (.str i) j pos) (kn (.str i)) := skn pe_str fun _ _ => .str i
theorem sa_nil : SA X W [] anil := pa_nil.imp (by
  rintro σ H Q ⟨φ, env, mh, re, hh, p⟩
  exact p φ [] H (Px.refl φ) (Kp.refl H) hh .nil)
theorem sa_cons (ha : SE X W e f) (hr : SA X W es fa) (hs : starEach (e :: es) X.env = (false, eval e X.env) :: starEach es X.env := by rfl) : SA X W (e :: es) (acons f fa) := (pa_cons ha hr hs).imp (by
  rintro σ H Q ⟨φ, env, mh, re, hh, p⟩
  refine ⟨φ, env, mh, re, hh, post_mono (Px.refl φ) (Kp.refl H) (post_bind (R1 := RelD X.K) p) ?_⟩
  rintro x H1 ⟨φ1, d, mh1, p1, k1, h1, r1, q⟩
  refine ⟨φ1, env, mh1, re.mono p1 k1, h1, post_mono (Px.refl φ1) (Kp.refl H1) (post_bind (R1 := RelDs X.K) q) ?_⟩
  rintro xs H2 ⟨φ2, ds, mh2, p2, k2, h2, r2, q2⟩
  exact q2 φ2 (x :: xs) H2 (Px.refl φ2) (Kp.refl H2) h2 (.cons (r1.mono p2 k2) r2))
/-- operators, by their rules -/
theorem sbin {op : Operator} {r : R2} {o : Op2} (ho : OpR X (binaryOp op) r) (hr : ∀ x y H Q, iR2 X.K o x y H Q → r x y H Q) (ha : SE X W a f) (hb : SE X W b g) : SE X W (.BinOp a op b pos) (bi o f g) := (pe_op ho ha hb).imp (imp2 hr)
theorem sun {op : UnaryOp} {r : V → Hp → VK → Prop} {o : Op1} (ho : UnR X (unaryOp op) r) (hr : ∀ x H Q, iR1 X.K o x H Q → r x H Q) (ha : SE X W a f) : SE X W (.UnaryOp op a pos) (un o f) := (pe_un ho ha).imp (imp1 (t := tC .non) hr)
theorem scmp {op : CmpOp} {r : R2} {o : Op2} (ho : OpR X (compareOp op) r) (hr : ∀ x y H Q, iR2 X.K o x y H Q → r x y H Q) (ha : SE X W a f) (hb : SE X W b g) (hm : behindInMarks op b = false) : SE X W (.Compare a [op] [b] pos) (bi o f g) := (pe_cmpR ho ha hb hm).imp (imp2 hr)
theorem imp_tb : ∀ σ H Q, iT X.K X.mg W (tb f) σ H Q → tTest (iE X.K X.mg W f) σ H Q := by
  rintro σ H Q ⟨φ, env, mh, re, hh, p⟩
  refine ⟨φ, env, mh, re, hh, post_mono (Px.refl φ) (Kp.refl H) (post_bind (R1 := RelD X.K) p) ?_⟩
  rintro x H1 ⟨φ1, d, mh1, p1, k1, h1, r1, q⟩
  cases r1 with
  | bl b => exact ⟨b, rfl, q φ1 b H1 (Px.refl φ1) (Kp.refl H1) h1 rfl⟩
  | _ => exact q.elim
theorem tcmp {op : CmpOp} {r : R2} {o : Op2} (ho : OpR X (compareOp op) r) (hr : ∀ x y H Q, iR2 X.K o x y H Q → r x y H Q) (ha : SE X W a f) (hb : SE X W b g) (hm : behindInMarks op b = false) : ST X W (.Compare a [op] [b] pos) (tb (bi o f g)) :=
  (pt_cmpR ho ha hb hm).imp (by
    intro σ H Q h
    obtain ⟨φ, env, mh, re, hh, p⟩ := imp_tb (f := bi o f g) σ H Q h
    exact imp2 hr σ H _ ⟨φ, env, mh, re, hh, p⟩)
theorem truV_of {d : D} {v : V} {φ : List Addr} {mh : MH} {H : Hp} {k : Bool} (r : RelD X.K φ H d v) (hh : HR X.K φ mh H) (h : truD d mh = some k) : TruV X.K v H k := by
  cases r with
  | non => simp only [truD, Option.some.injEq] at h; exact h.symm
  | bl b => simp only [truD, Option.some.injEq] at h; exact h.symm
  | int i => simp only [truD, Option.some.injEq] at h; exact h.symm
  | str s =>
    simp only [truD] at h
    split at h
    · rename_i hl; simp only [Option.some.injEq] at h; exact ⟨hl, h.symm⟩
    · cases h
  | ty n => simp [truD] at h
  | ref e =>
    simp only [truD] at h
    split at h
    · rename_i xs hx
      simp only [Option.some.injEq] at h
      obtain ⟨vs, h1, h2⟩ := hh.lst e hx
      refine .inl ⟨vs, SqL.of h1, ?_⟩
      rw [← h]
      have := h2.length
      cases xs <;> cases vs <;> simp_all
    · rename_i xs hx
      simp only [Option.some.injEq] at h
      obtain ⟨vs, h1, h2⟩ := hh.ob _ _ _ e hx
      refine .inr (.inr ⟨vs, h1, ?_⟩)
      rw [← h]
      have := h2.2.length
      cases xs <;> cases vs <;> simp_all
    · cases h
  | tup e es =>
    simp only [truD, Option.some.injEq] at h
    refine .inr (.inl ⟨_, e, ?_⟩)
    rw [← h]
    have := es.length
    rename_i ds vs
    cases ds <;> cases vs <;> simp_all
  | rol e es => simp [truD] at h
theorem stru (ha : SE X W a f) (he : ∀ whole, isTrue a X.env whole = (do let v ← whole; standAt a.pos; holding [v] (truthy v)) := by intro _; rfl) : ST X W a (tru f) := (pt_truth ha he).imp (by
  rintro σ H Q ⟨φ, env, mh, re, hh, p⟩
  refine ⟨φ, env, mh, re, hh, post_mono (Px.refl φ) (Kp.refl H) (post_bind (R1 := RelD X.K) p) ?_⟩
  rintro x H1 ⟨φ1, d, mh1, p1, k1, h1, r1, q⟩
  cases hd : truD d mh1 with
  | none => rw [hd] at q; exact q.elim
  | some k =>
    rw [hd] at q
    exact ⟨k, truV_of r1 h1 hd, q φ1 k H1 (Px.refl φ1) (Kp.refl H1) h1 rfl⟩)
theorem st_not (ha : ST X W a ft) : ST X W (.UnaryOp .Not a pos) (tnot ft) := (pt_not ha).imp (by
  rintro σ H Q ⟨φ, env, mh, re, hh, p⟩
  refine ⟨φ, env, mh, re, hh, post_mono (Px.refl φ) (Kp.refl H) (post_bind (R1 := RB) p) ?_⟩
  rintro x H1 ⟨φ1, d, mh1, p1, k1, h1, r1, q⟩
  have e1 : d = x := r1
  subst e1
  exact q φ1 (!d) H1 (Px.refl φ1) (Kp.refl H1) h1 rfl)
theorem imp_and : ∀ σ H Q, iT X.K X.mg W (tand ft gt) σ H Q → tAnd (iT X.K X.mg W ft) (iT X.K X.mg W gt) σ H Q := by
  rintro σ H Q ⟨φ, env, mh, re, hh, p⟩
  refine ⟨φ, env, mh, re, hh, post_mono (Px.refl φ) (Kp.refl H) (post_bind (R1 := RB) p) ?_⟩
  rintro x H1 ⟨φ1, d, mh1, p1, k1, h1, r1, q⟩
  have e1 : d = x := r1
  subst e1
  cases d with
  | true => exact ⟨φ1, env, mh1, re.mono p1 k1, h1, q⟩
  | false => exact q φ1 false H1 (Px.refl φ1) (Kp.refl H1) h1 rfl
theorem imp_or : ∀ σ H Q, iT X.K X.mg W (tor ft gt) σ H Q → tOr (iT X.K X.mg W ft) (iT X.K X.mg W gt) σ H Q := by
  rintro σ H Q ⟨φ, env, mh, re, hh, p⟩
  refine ⟨φ, env, mh, re, hh, post_mono (Px.refl φ) (Kp.refl H) (post_bind (R1 := RB) p) ?_⟩
  rintro x H1 ⟨φ1, d, mh1, p1, k1, h1, r1, q⟩
  have e1 : d = x := r1
  subst e1
  cases d with
  | true => exact q φ1 true H1 (Px.refl φ1) (Kp.refl H1) h1 rfl
  | false => exact ⟨φ1, env, mh1, re.mono p1 k1, h1, q⟩
theorem sw_and1 (ha : ST X W a ft) : SW X W (.BoolOp .And [a] pos) ft := pw_and1 ha
theorem sw_or1 (ha : ST X W a ft) : SW X W (.BoolOp .Or [a] pos) ft := pw_or1 ha
theorem sw_and {rest : List Expr} (ha : ST X W a ft) (hb : SW X W (.BoolOp .And (b :: rest) pos) gt) : SW X W (.BoolOp .And (a :: b :: rest) pos) (tand ft gt) := (pw_and ha hb).imp imp_and
theorem sw_or {rest : List Expr} (ha : ST X W a ft) (hb : SW X W (.BoolOp .Or (b :: rest) pos) gt) : SW X W (.BoolOp .Or (a :: b :: rest) pos) (tor ft gt) := (pw_or ha hb).imp imp_or
theorem se_one {op : BoolOp} (h : SE X W a f) : SE X W (.BoolOp op [a] pos) f := pe_one h
theorem se_and {rest : List Expr} (ha : SE X W a f) (hb : SE X W (.BoolOp .And (b :: rest) pos) g) : SE X W (.BoolOp .And (a :: b :: rest) pos) (eand f g) := (pe_andT ha hb).imp (by
  rintro σ H Q ⟨φ, env, mh, re, hh, p⟩
  refine ⟨φ, env, mh, re, hh, post_mono (Px.refl φ) (Kp.refl H) (post_bind (R1 := RelD X.K) p) ?_⟩
  rintro x H1 ⟨φ1, d, mh1, p1, k1, h1, r1, q⟩
  cases hd : truD d mh1 with
  | none => rw [hd] at q; exact q.elim
  | some k =>
    rw [hd] at q
    refine ⟨k, truV_of r1 h1 hd, ?_⟩
    cases k with
    | true => exact ⟨φ1, env, mh1, re.mono p1 k1, h1, q⟩
    | false => exact q φ1 x H1 (Px.refl φ1) (Kp.refl H1) h1 r1)
theorem se_or {rest : List Expr} (ha : SE X W a f) (hb : SE X W (.BoolOp .Or (b :: rest) pos) g) : SE X W (.BoolOp .Or (a :: b :: rest) pos) (eor f g) := (pe_orT ha hb).imp (by
  rintro σ H Q ⟨φ, env, mh, re, hh, p⟩
  refine ⟨φ, env, mh, re, hh, post_mono (Px.refl φ) (Kp.refl H) (post_bind (R1 := RelD X.K) p) ?_⟩
  rintro x H1 ⟨φ1, d, mh1, p1, k1, h1, r1, q⟩
  cases hd : truD d mh1 with
  | none => rw [hd] at q; exact q.elim
  | some k =>
    rw [hd] at q
    refine ⟨k, truV_of r1 h1 hd, ?_⟩
    cases k with
    | false => exact ⟨φ1, env, mh1, re.mono p1 k1, h1, q⟩
    | true => exact q φ1 x H1 (Px.refl φ1) (Kp.refl H1) h1 r1)
theorem se_not (ha : SE X W a f) : SE X W (.UnaryOp .Not a pos) (enot f) := (pe_notT ha).imp (by
  rintro σ H Q ⟨φ, env, mh, re, hh, p⟩
  refine ⟨φ, env, mh, re, hh, post_mono (Px.refl φ) (Kp.refl H) (post_bind (R1 := RelD X.K) p) ?_⟩
  rintro x H1 ⟨φ1, d, mh1, p1, k1, h1, r1, q⟩
  cases hd : truD d mh1 with
  | none => rw [hd] at q; exact q.elim
  | some k =>
    rw [hd] at q
    exact ⟨k, truV_of r1 h1 hd, q φ1 _ H1 (Px.refl φ1) (Kp.refl H1) h1 (.bl _)⟩)
theorem se_if (hc : ST X W c ft) (ha : SE X W a f) (hb : SE X W b g) : SE X W (.IfExp c a b pos) (eif ft f g) := (pe_ifExp hc ha hb).imp (by
  rintro σ H Q ⟨φ, env, mh, re, hh, p⟩
  refine ⟨φ, env, mh, re, hh, post_mono (Px.refl φ) (Kp.refl H) (post_bind (R1 := RB) p) ?_⟩
  rintro x H1 ⟨φ1, d, mh1, p1, k1, h1, r1, q⟩
  have e1 : d = x := r1
  subst e1
  cases d with
  | true => exact ⟨φ1, env, mh1, re.mono p1 k1, h1, q⟩
  | false => exact ⟨φ1, env, mh1, re.mono p1 k1, h1, q⟩)
end
end Det
/-! Det, part C: statements, loops, comprehensions, defs. -/
namespace Det
open PySem PySem.Spec PyProof.Rows L2

abbrev MS := Nv → MH → SRes
def lift {α : Type} (r : Res α) (env : Nv) (k : α → MH → SRes) : SRes := match r with
  | .ok a h => k a h
  | .ex x h => .ex x env h
  | .no => .no
def nop : MS := fun env mh => .nx env mh
def sq (s t : MS) : MS := fun env mh => match s env mh with
  | .nx e h => t e h
  | r => r
def sst (i : Nat) (f : ME) : MS := fun env mh => lift (f env mh) env fun d mh1 => .nx (env.set i (some d)) mh1
def drp (f : ME) : MS := fun env mh => lift (f env mh) env fun _ mh1 => .nx env mh1
def ret (f : ME) : MS := fun env mh => lift (f env mh) env fun d mh1 => .rt d mh1
def retN : MS := fun _ mh => .rt .non mh
def sif (c : MT) (s t : MS) : MS := fun env mh => lift (c env mh) env fun b mh1 => if b = true then s env mh1 else t env mh1
def brk : MS := fun env mh => .bk env mh
def cnt : MS := fun env mh => .ct env mh
def whl (c : MT) (b : MS) : Nat → MS
  | 0 => fun _ _ => .no
  | n + 1 => fun env mh => lift (c env mh) env fun t mh1 => if t = true then (match b env mh1 with
    | .nx e h => whl c b n e h
    | .ct e h => whl c b n e h
    | .bk e h => .nx e h
    | r => r) else .nx env mh1
/-- targets -/
inductive Pat where
  | nm (i : Nat) | tp (is : List Nat)
def Pat.ix : Pat → List Nat
  | .nm i => [i]
  | .tp is => is
def setMany : List Nat → List D → Nv → Nv
  | i :: is, d :: ds, env => setMany is ds (env.set i (some d))
  | _, _, env => env
def setP : Pat → D → Nv → Option Nv
  | .nm i, d, env => some (env.set i (some d))
  | .tp is, .tup ds, env => if ds.length = is.length then some (setMany is ds env) else none
  | _, _, _ => none
def asg (p : Pat) (f : ME) : MS := fun env mh => lift (f env mh) env fun d mh1 => match setP p d env with | some e => .nx e mh1 | none => .no
/-- what a for walks over -/
structure ItD where
  items : List D
  chk : MH → Bool
abbrev MI := Nv → MH → Res ItD
def loopF (chk : MH → Bool) (p : Pat) (body : MS) : List D → MS
  | [], env, mh => if chk mh = true then .nx env mh else .no
  | d :: ds, env, mh => if chk mh = true then (match setP p d env with
    | some e => (match body e mh with
      | .nx e h => loopF chk p body ds e h
      | .ct e h => loopF chk p body ds e h
      | .bk e h => .nx e h
      | r => r)
    | none => .no) else .no
def sfor (fi : MI) (p : Pat) (body : MS) : MS := fun env mh => lift (fi env mh) env fun it mh1 => loopF it.chk p body it.items env mh1
def Res.nox {α : Type} : Res α → Res α
  | .ex _ _ => .no
  | r => r
def wipeD (env : Nv) : List Nat → Nv
  | [] => env
  | v :: vs => (wipeD env vs).set v none
def loopC (n : Nat) (chk : MH → Bool) (p : Pat) (test : MT) (elt : ME) (env : Nv) : List D → MH → Res D
  | [], mh => if chk mh = true then .ok (.ref n) mh else .no
  | d :: ds, mh => if chk mh = true then (match setP p d env with
    | some e => ((test e mh).nox).bind fun b mh2 => if b = true then ((elt e mh2).nox).bind fun y mh3 => (match mh3[n]? with
        | some (.lst acc) => if acc.length < sizeLine then loopC n chk p test elt env ds (mh3.set n (.lst (acc ++ [y]))) else .no
        | _ => .no) else loopC n chk p test elt env ds mh2
    | none => .no) else .no
def lc (fi : MI) (p : Pat) (test : MT) (elt : ME) (vs : List Nat) : ME := fun env mh => (fi env mh).bind fun it mh1 =>
  loopC mh1.length it.chk p test elt (wipeD env vs) it.items (mh1 ++ [.lst []])
def yes : MT := fun _ mh => .ok true mh
/-- a def's function -/
def runF (n : Nat) (body : MS) : Fn := fun ds mh => match body (ds.map some ++ List.replicate (n - ds.length) none) mh with
  | .nx _ h => .ok .non h
  | .rt d h => .ok d h
  | .ex x _ h => .ex x h
  | _ => .no

/-! ### readings -/
def postS (K : PySem.W.Frag) (mg : MGl) (W : WX) (φ : List Addr) (H : Hp) (r : SRes) (D : Ends) : Prop := match r with
  | .nx e mh' => ∀ φ' σ' H', Px φ φ' → Kp H H' → HR K φ' mh' H' → RelE K φ' H' e σ' → D.nx σ' H'
  | .bk e mh' => ∀ φ' σ' H', Px φ φ' → Kp H H' → HR K φ' mh' H' → RelE K φ' H' e σ' → D.bk σ' H'
  | .ct e mh' => ∀ φ' σ' H', Px φ φ' → Kp H H' → HR K φ' mh' H' → RelE K φ' H' e σ' → D.ct σ' H'
  | .rt d mh' => ∀ φ' v H', Px φ φ' → Kp H H' → HR K φ' mh' H' → RelD K φ' H' d v → D.rt v H'
  | .ex x e mh' => ∀ φ' c d σ' H', Px φ φ' → Kp H H' → HR K φ' mh' H' → RelE K φ' H' e σ' → RelX K mg φ' H' x c d → W c d σ' H'
  | .no => False
def iS (K : PySem.W.Frag) (mg : MGl) (W : WX) (f : MS) : TS := fun D σ H => ∃ φ env mh, RelE K φ H env σ ∧ HR K φ mh H ∧ postS K mg W φ H (f env mh) D
abbrev SS (X : Cx) (W : WX) (st : Stmt) (f : MS) : Prop := PS X st (iS X.K X.mg W f)
abbrev SSs (X : Cx) (W : WX) (sts : List Stmt) (f : MS) : Prop := PSs X sts (iS X.K X.mg W f)
section
variable {K : PySem.W.Frag} {mg : MGl} {W : WX} {σ : L2.St} {φ φ' : List Addr} {H H' : Hp} {env : Nv} {D D' : Ends}
theorem postS_mono {r : SRes} (p : Px φ φ') (k : Kp H H') (h : postS K mg W φ H r D) (h1 : ∀ σ H, D.nx σ H → D'.nx σ H) (h2 : ∀ v H, D.rt v H → D'.rt v H) (h3 : ∀ σ H, D.bk σ H → D'.bk σ H) (h4 : ∀ σ H, D.ct σ H → D'.ct σ H) : postS K mg W φ' H' r D' := by
  cases r with
  | nx e mh => exact fun φ2 s H2 p2 k2 hr he => h1 _ _ (h φ2 s H2 (p.trans p2) (k.trans k2) hr he)
  | bk e mh => exact fun φ2 s H2 p2 k2 hr he => h3 _ _ (h φ2 s H2 (p.trans p2) (k.trans k2) hr he)
  | ct e mh => exact fun φ2 s H2 p2 k2 hr he => h4 _ _ (h φ2 s H2 (p.trans p2) (k.trans k2) hr he)
  | rt d mh => exact fun φ2 s H2 p2 k2 hr he => h2 _ _ (h φ2 s H2 (p.trans p2) (k.trans k2) hr he)
  | ex x e mh => exact fun φ2 c d s H2 p2 k2 hr he hx => h φ2 c d s H2 (p.trans p2) (k.trans k2) hr he hx
  | no => exact h
theorem postS_up {r : SRes} (p : Px φ φ') (k : Kp H H') (h : postS K mg W φ H r D) : postS K mg W φ' H' r D := postS_mono p k h (fun _ _ q => q) (fun _ _ q => q) (fun _ _ q => q) (fun _ _ q => q)
theorem post_lift {α β : Type} {R : Rl α β} {r : Res α} {k : α → MH → SRes} (re : RelE K φ H env σ) (h : postS K mg W φ H (lift r env k) D) :
    post K mg W R σ φ H r fun b H1 => ∃ φ1 a mh1, Px φ φ1 ∧ Kp H H1 ∧ HR K φ1 mh1 H1 ∧ R φ1 H1 a b ∧ postS K mg W φ1 H1 (k a mh1) D := by
  cases r with
  | ok a mh => exact fun φ2 b H2 p2 k2 hr hR => ⟨φ2, a, mh, p2, k2, hr, hR, postS_up p2 k2 h⟩
  | ex x mh => exact fun φ2 c d H2 p2 k2 hr hx => h φ2 c d σ H2 p2 k2 hr (re.mono p2 k2) hx
  | no => exact h
theorem RelE.none (r : RelE K φ H env σ) (v : Nat) : RelE K φ H (env.set v none) (σ.set v none) := by
  refine ⟨by simp [r.len], fun j e q => ?_⟩
  by_cases hj : j = v
  · subst hj
    by_cases hl : j < env.length
    · rw [List.getElem?_set_self hl] at q; cases q
    · rw [List.getElem?_eq_none (by simpa using hl)] at q; cases q
  · rw [List.getElem?_set_ne (Ne.symm hj)] at q ⊢
    exact r.at' j e q
theorem RelE.wipe (r : RelE K φ H env σ) : ∀ vs : List Nat, RelE K φ H (wipeD env vs) (L2.wipe σ vs)
  | [] => r
  | v :: vs => (RelE.wipe r vs).none v
end
section
variable {X : Cx} {W : WX} {e c : Expr} {f : ME} {ft : MT} {s t : MS} {st : Stmt} {rest body body2 : List Stmt} {pos : Pos}
theorem ss_nil : SSs X W [] nop := pss_nil.imp (by
  rintro D σ H ⟨φ, env, mh, re, hh, p⟩
  exact p φ σ H (Px.refl φ) (Kp.refl H) hh re)
theorem ss_pass : SS X W (.Pass pos) nop := ps_pass.imp (by
  rintro D σ H ⟨φ, env, mh, re, hh, p⟩
  exact p φ σ H (Px.refl φ) (Kp.refl H) hh re)
theorem ss_brk : SS X W (.Break pos) brk := ps_break.imp (by
  rintro D σ H ⟨φ, env, mh, re, hh, p⟩
  exact p φ σ H (Px.refl φ) (Kp.refl H) hh re)
theorem ss_cnt : SS X W (.Continue pos) cnt := ps_continue.imp (by
  rintro D σ H ⟨φ, env, mh, re, hh, p⟩
  exact p φ σ H (Px.refl φ) (Kp.refl H) hh re)
theorem ss_retN : SS X W (.Return none pos) retN := ps_retN.imp (by
  rintro D σ H ⟨φ, env, mh, re, hh, p⟩
  exact p φ .non H (Px.refl φ) (Kp.refl H) hh .non)
theorem ss_one (h1 : SS X W st s) : SSs X W [st] s := pss_one h1
theorem ss_cons (h1 : SS X W st s) (h2 : SSs X W rest t) : SSs X W (st :: rest) (sq s t) := (pss_cons h1 h2).imp (by
  rintro D σ H ⟨φ, env, mh, re, hh, p⟩
  refine ⟨φ, env, mh, re, hh, ?_⟩
  unfold sq at p
  cases h : s env mh with
  | nx e h1 => rw [h] at p; exact fun φ2 s2 H2 p2 k2 hr he => ⟨φ2, e, h1, he, hr, postS_up p2 k2 p⟩
  | bk e h1 => rw [h] at p; exact p
  | ct e h1 => rw [h] at p; exact p
  | rt e h1 => rw [h] at p; exact p
  | ex x e h1 => rw [h] at p; exact p
  | no => rw [h] at p; exact p)
theorem ss_drop (he : SE X W e f) (hs : swapsWith e none pos.line X.env = pure false := by rfl) : SS X W (.Expr e pos) (drp f) := (ps_expr he hs).imp (by
  rintro D σ H ⟨φ, env, mh, re, hh, p⟩
  refine ⟨φ, env, mh, re, hh, post_mono (Px.refl φ) (Kp.refl H) (post_lift (R := RelD X.K) re p) ?_⟩
  rintro x H1 ⟨φ1, d, mh1, p1, k1, h1, r1, q⟩
  exact q φ1 σ H1 (Px.refl φ1) (Kp.refl H1) h1 (re.mono p1 k1))
theorem ss_ret (he : SE X W e f) : SS X W (.Return (some e) pos) (ret f) := (ps_ret he).imp (by
  rintro D σ H ⟨φ, env, mh, re, hh, p⟩
  refine ⟨φ, env, mh, re, hh, post_mono (Px.refl φ) (Kp.refl H) (post_lift (R := RelD X.K) re p) ?_⟩
  rintro x H1 ⟨φ1, d, mh1, p1, k1, h1, r1, q⟩
  exact q φ1 x H1 (Px.refl φ1) (Kp.refl H1) h1 r1)
theorem imp_set {i : Nat} : ∀ D σ H, iS X.K X.mg W (sst i f) D σ H → tAsg (iE X.K X.mg W f) (gName i) D σ H := by
  rintro D σ H ⟨φ, env, mh, re, hh, p⟩
  refine ⟨φ, env, mh, re, hh, post_mono (Px.refl φ) (Kp.refl H) (post_lift (R := RelD X.K) re p) ?_⟩
  rintro x H1 ⟨φ1, d, mh1, p1, k1, h1, r1, q⟩
  exact q φ1 _ H1 (Px.refl φ1) (Kp.refl H1) h1 ((re.mono p1 k1).set r1 i)
theorem ss_set {i : Nat} {x : Str} {pos' : Pos} (he : SE X W e f) (hN : X.N.Nodup) (hi : X.N[i]? = some x := by rfl) (hx : Loc X.env.scope x := by first | exact Or.inl rfl | exact Or.inr rfl)
    (hs : swapsWith e (some (.Name x pos')) pos.line X.env = pure false := by rfl) (hf : X.fn x = true ∨ X.env.scope.names.lookup x = some .local := by first | exact .inl rfl | exact .inr rfl) :
    SS X W (.Assign [.Name x pos'] e pos) (sst i f) := (ps_set hN hi hx he hs hf).imp imp_set
theorem ss_if (hc : ST X W c ft) (ha : SSs X W body s) (hb : SSs X W body2 t) : SS X W (.If c body body2 pos) (sif ft s t) := (ps_if hc ha hb).imp (by
  rintro D σ H ⟨φ, env, mh, re, hh, p⟩
  refine ⟨φ, env, mh, re, hh, post_mono (Px.refl φ) (Kp.refl H) (post_lift (R := RB) re p) ?_⟩
  rintro x H1 ⟨φ1, d, mh1, p1, k1, h1, r1, q⟩
  have e1 : d = x := r1
  subst e1
  cases d with
  | true => exact ⟨φ1, env, mh1, re.mono p1 k1, h1, q⟩
  | false => exact ⟨φ1, env, mh1, re.mono p1 k1, h1, q⟩)
theorem ss_while (fuel : Nat) (hp : PassesOwn (model X.prog X.w) X.A X.env X.xe) (hc : ST X W c ft) (hb : SSs X W body s) : SS X W (.While c body [] pos) (whl ft s fuel) := (ps_while hp hc hb).imp (by
  rintro D σ H ⟨φ, env, mh, re, hh, p⟩
  refine ⟨fun m σ H => ∃ φ env mh, RelE X.K φ H env σ ∧ HR X.K φ mh H ∧ postS X.K X.mg W φ H (whl ft s m env mh) D, ⟨fuel, φ, env, mh, re, hh, p⟩, ?_⟩
  rintro m σ H ⟨φ, env, mh, re, hh, p⟩
  cases m with
  | zero => exact p.elim
  | succ m =>
    refine ⟨φ, env, mh, re, hh, post_mono (Px.refl φ) (Kp.refl H) (post_lift (R := RB) re p) ?_⟩
    rintro x H1 ⟨φ1, d, mh1, p1, k1, h1, r1, q⟩
    have e1 : d = x := r1
    subst e1
    cases d with
    | false => exact q φ1 σ H1 (Px.refl φ1) (Kp.refl H1) h1 (re.mono p1 k1)
    | true =>
      refine ⟨fun σ' H' => ∃ φ env mh, RelE X.K φ H' env σ' ∧ HR X.K φ mh H' ∧ postS X.K X.mg W φ H' (whl ft s m env mh) D, fun σ' H' h => ⟨m, Nat.lt_succ_self m, h⟩, ?_⟩
      refine ⟨φ1, env, mh1, re.mono p1 k1, h1, ?_⟩
      cases hb : s env mh1 with
      | nx e h => simp only [hb, if_true] at q; exact fun φ2 s2 H2 p2 k2 hr he => ⟨φ2, e, h, he, hr, postS_up p2 k2 q⟩
      | ct e h => simp only [hb, if_true] at q; exact fun φ2 s2 H2 p2 k2 hr he => ⟨φ2, e, h, he, hr, postS_up p2 k2 q⟩
      | bk e h => simp only [hb, if_true] at q; exact q
      | rt e h => simp only [hb, if_true] at q; exact q
      | ex x e h => simp only [hb, if_true] at q; exact q
      | no => simp only [hb, if_true] at q; exact q)

/-! ### targets -/
def iG (K : PySem.W.Frag) (p : Pat) : TG := fun v σ H Q => ∃ φ env mh d env', RelE K φ H env σ ∧ HR K φ mh H ∧ RelD K φ H d v ∧ setP p d env = some env' ∧
  ∀ σ', RelE K φ H env' σ' → (∀ vs, (∀ j ∈ p.ix, j ∈ vs) → wipe σ' vs = wipe σ vs) → Q σ' H
abbrev SG (X : Cx) (tg : Expr) (p : Pat) : Prop := PG X tg (iG X.K p)
theorem _root_.L2.PG.imp {X : Cx} {e : Expr} {t t' : TG} (h : PG X e t) (w : ∀ v σ H Q, t' v σ H Q → t v σ H Q) : PG X e t' := ⟨fun pins s σ H v u Q I r q => h.run pins s σ H v u Q I r (w v σ H Q q)⟩
theorem wipe_set {σ : L2.St} {j : Nat} {o : Option V} : ∀ {vs : List Nat}, j ∈ vs → wipe (σ.set j o) vs = wipe σ vs
  | v :: vs, h => by
    show (wipe (σ.set j o) vs).set v none = (wipe σ vs).set v none
    by_cases hv : j ∈ vs
    · rw [wipe_set hv]
    · have e : j = v := by
        rcases List.mem_cons.mp h with e | e
        · exact e
        · exact absurd e hv
      subst e
      have : ∀ (us : List Nat), j ∉ us → (wipe (σ.set j o) us) = (wipe σ us).set j o := by
        intro us
        induction us with
        | nil => intro _; rfl
        | cons u us ih =>
          intro hu
          show (wipe (σ.set j o) us).set u none = ((wipe σ us).set u none).set j o
          rw [ih (fun z => hu (List.mem_cons_of_mem _ z)), List.set_comm]
          exact fun z => hu (by rw [z]; exact List.mem_cons_self)
      rw [this vs hv, List.set_set]
theorem sg_name {i : Nat} {x : Str} (hN : X.N.Nodup) (hi : X.N[i]? = some x := by rfl) (hx : Loc X.env.scope x := by first | exact Or.inl rfl | exact Or.inr rfl)
    (hf : X.fn x = true ∨ X.env.scope.names.lookup x = some .local := by first | exact .inl rfl | exact .inr rfl) : SG X (.Name x pos) (.nm i) := (pg_name hN hi hx hf).imp (by
  rintro v σ H Q ⟨φ, env, mh, d, env', re, hh, rd, e, q⟩
  simp only [setP, Option.some.injEq] at e
  subst e
  exact q _ (re.set rd i) fun vs h => wipe_set (h i (List.mem_singleton.mpr rfl)))
/-- several names -/
def iGs (K : PySem.W.Frag) (is : List Nat) : TGs := fun vs σ H Q => ∃ φ env mh ds, RelE K φ H env σ ∧ HR K φ mh H ∧ RelDs K φ H ds vs ∧ ds.length = is.length ∧
  ∀ σ', RelE K φ H (setMany is ds env) σ' → (∀ us, (∀ j ∈ is, j ∈ us) → wipe σ' us = wipe σ us) → Q σ' H
abbrev SGs (X : Cx) (ts : List Expr) (is : List Nat) : Prop := PGs X ts (iGs X.K is)
theorem sgs_nil : SGs X [] [] := ⟨fun pins s σ H vs us Q I r h => by
  obtain ⟨φ, env, mh, ds, re, hh, rd, e, q⟩ := h
  cases ds with
  | cons _ _ => simp at e
  | nil =>
    cases rd
    exact pgs_nil.run pins s σ H [] us Q I r ⟨rfl, q σ re fun _ _ => rfl⟩⟩
theorem sgs_cons {i : Nat} {is : List Nat} {x : Str} {es : List Expr} (h2 : SGs X es is) (hN : X.N.Nodup) (hi : X.N[i]? = some x := by rfl) (hx : Loc X.env.scope x := by first | exact Or.inl rfl | exact Or.inr rfl)
    (hf : X.fn x = true ∨ X.env.scope.names.lookup x = some .local := by first | exact .inl rfl | exact .inr rfl)
    (hs : (assignEach (.Name x pos :: es) X.env).map (·.2) = assign (.Name x pos) X.env :: (assignEach es X.env).map (·.2) := by rfl) : SGs X (.Name x pos :: es) (i :: is) := ⟨fun pins s σ H vs us Q I r h => by
  obtain ⟨φ, env, mh, ds, re, hh, rd, e, q⟩ := h
  cases ds with
  | nil => simp at e
  | cons d ds =>
    cases rd with
    | cons r1 r2 =>
      rename_i v vs
      refine (pgs_cons (t := gName i) (pg_name hN hi hx hf) h2 hs).run pins s σ H _ us Q I r ⟨v, vs, rfl, φ, env.set i (some d), mh, ds, re.set r1 i, hh, r2, by simpa using e, fun σ' he hw => q σ' he fun us hu => ?_⟩
      rw [hw us fun j hj => hu j (List.mem_cons_of_mem _ hj)]
      exact wipe_set (hu i List.mem_cons_self)⟩
theorem sg_tup {is : List Nat} {es : List Expr} {k : Nat} (hc : X.calm = true) (h : SGs X es is) (hn : (assignEach es X.env).length = is.length := by rfl) (hst : (assignEach es X.env).findIdx? (·.1) = none := by rfl) :
    SG X (.Tuple es k pos) (.tp is) := (pg_tup hc h hn hst).imp (by
  rintro v σ H Q ⟨φ, env, mh, d, env', re, hh, rd, e, q⟩
  cases rd with
  | tup hs r =>
    rename_i a ds vs
    simp only [setP] at e
    split at e
    · rename_i hl
      cases e
      exact ⟨a, vs, rfl, hs, by rw [← r.length]; exact hl, φ, env, mh, ds, re, hh, r, hl, q⟩
    · cases e
  | _ => simp [setP] at e)
theorem ss_asg {tg : Expr} {p : Pat} (he : SE X W e f) (hg : SG X tg p) (hs : swapsWithSole [tg] e pos.line X.env = pure false := by rfl) (hw : swappedStores [tg] e X.env = pure none := by rfl)
    (h1 : (assignEach [tg] X.env).map (·.2) = [assign tg X.env] := by rfl) : SS X W (.Assign [tg] e pos) (asg p f) := (ps_asg he hg hs hw h1).imp (by
  rintro D σ H ⟨φ, env, mh, re, hh, p⟩
  refine ⟨φ, env, mh, re, hh, post_mono (Px.refl φ) (Kp.refl H) (post_lift (R := RelD X.K) re p) ?_⟩
  rintro x H1 ⟨φ1, d, mh1, p1, k1, h1, r1, q⟩
  cases hd : setP ‹Pat› d env with
  | none => rw [hd] at q; exact q.elim
  | some e =>
    rw [hd] at q
    exact ⟨φ1, env, mh1, d, e, re.mono p1 k1, h1, r1, hd, fun σ' he _ => q φ1 σ' H1 (Px.refl φ1) (Kp.refl H1) h1 he⟩)

/-! ### for -/
def ItOk (K : PySem.W.Frag) (φ₀ : List Addr) (H₀ : Hp) (it : ItD) (J : It) : Prop := ∀ i φ mh H, Px φ₀ φ → Kp H₀ H → HR K φ mh H → it.chk mh = true →
  (∀ d, it.items[i]? = some d → J.go i H ∧ ∀ x H', J.yld i H x H' → Kp H H' ∧ HR K φ mh H' ∧ RelD K φ H' d x) ∧ (it.items.length ≤ i → J.stop i H)
theorem ItOk.mono {K : PySem.W.Frag} {φ φ' : List Addr} {H H' : Hp} {it : ItD} {J : It} (p : Px φ φ') (k : Kp H H') (h : ItOk K φ H it J) : ItOk K φ' H' it J := fun i φ2 mh2 H2 p2 k2 hh hc => h i φ2 mh2 H2 (p.trans p2) (k.trans k2) hh hc
def iI (K : PySem.W.Frag) (mg : MGl) (W : WX) (f : MI) : TI := fun σ H R => ∃ φ env mh, RelE K φ H env σ ∧ HR K φ mh H ∧ post K mg W (ItOk K) σ φ H (f env mh) R
abbrev SI (X : Cx) (W : WX) (tg iter : Expr) (f : MI) : Prop := PI X tg iter (iI X.K X.mg W f)
theorem _root_.L2.PI.imp {X : Cx} {tg e : Expr} {t t' : TI} (h : PI X tg e t) (w : ∀ σ H Q, t' σ H Q → t σ H Q) : PI X tg e t' := ⟨fun pins s σ H R I q => h.run pins s σ H R I (w σ H R q)⟩
theorem ss_for {tg iter : Expr} {p : Pat} {fi : MI} (hp : PassesOwn (model X.prog X.w) X.A X.env X.xe) (hc : X.calm = true) (hi : SI X W tg iter fi) (hg : SG X tg p) (hb : SSs X W body s)
    (hs : ∀ x, foldedSetIterable iter X.env x = pure x := by intro _; rfl) : SS X W (.For tg iter body [] pos) (sfor fi p s) := (ps_for hp hc hi hg hb hs).imp (by
  rintro D σ H ⟨φ, env, mh, re, hh, pq⟩
  refine ⟨φ, env, mh, re, hh, post_mono (Px.refl φ) (Kp.refl H) (post_lift (R := ItOk X.K) re pq) ?_⟩
  rintro J H1 ⟨φ1, it, mh1, p1, k1, h1, J1, q⟩
  refine ⟨fun i m σ H => m = it.items.length - i ∧ i ≤ it.items.length ∧ ∃ φ env mh, Px φ1 φ ∧ Kp H1 H ∧ RelE X.K φ H env σ ∧ HR X.K φ mh H ∧ postS X.K X.mg W φ H (loopF it.chk p s (it.items.drop i) env mh) D,
    ⟨_, rfl, Nat.zero_le _, φ1, env, mh1, Px.refl φ1, Kp.refl H1, re.mono p1 k1, h1, q⟩, ?_⟩
  rintro i m σ H ⟨rfl, hi, φ, env, mh, p2, k2, re, hh, q⟩
  by_cases hlt : i < it.items.length
  · have ed : it.items.drop i = it.items[i] :: it.items.drop (i + 1) := List.drop_eq_getElem_cons hlt
    rw [ed] at q
    unfold loopF at q
    by_cases hck : it.chk mh = true
    · rw [if_pos hck] at q
      obtain ⟨hgo, _⟩ := J1 i φ mh H p2 k2 hh hck
      obtain ⟨g1, g2⟩ := hgo it.items[i] (by simp [hlt])
      refine .inr ⟨g1, fun σ' H' => ∃ φ env mh, Px φ1 φ ∧ Kp H1 H' ∧ RelE X.K φ H' env σ' ∧ HR X.K φ mh H' ∧ postS X.K X.mg W φ H' (loopF it.chk p s (it.items.drop (i + 1)) env mh) D,
        fun σ' H' h => ⟨it.items.length - (i + 1), by omega, rfl, hlt, h⟩, fun x H' y => ?_⟩
      obtain ⟨k3, h3, r3⟩ := g2 x H' y
      cases hse : setP p it.items[i] env with
      | none => rw [hse] at q; exact q.elim
      | some e =>
        rw [hse] at q
        refine ⟨φ, env, mh, it.items[i], e, re.mono (Px.refl φ) k3, h3, r3, hse, fun σ' he _ => ⟨φ, e, mh, he, h3, ?_⟩⟩
        cases hb : s e mh with
        | nx e2 h2 => simp only [hb] at q; exact fun φ4 s4 H4 p4 k4 hr he4 => ⟨φ4, e2, h2, p2.trans p4, (k2.trans k3).trans k4, he4, hr, postS_up p4 (k3.trans k4) q⟩
        | ct e2 h2 => simp only [hb] at q; exact fun φ4 s4 H4 p4 k4 hr he4 => ⟨φ4, e2, h2, p2.trans p4, (k2.trans k3).trans k4, he4, hr, postS_up p4 (k3.trans k4) q⟩
        | bk e2 h2 => simp only [hb] at q; exact fun φ4 s4 H4 p4 k4 hr he4 => q φ4 s4 H4 p4 (k3.trans k4) hr he4
        | rt e2 h2 => simp only [hb] at q; exact fun φ4 s4 H4 p4 k4 hr he4 => q φ4 s4 H4 p4 (k3.trans k4) hr he4
        | ex x e2 h2 => simp only [hb] at q; exact fun φ4 c d s4 H4 p4 k4 hr he4 hx => q φ4 c d s4 H4 p4 (k3.trans k4) hr he4 hx
        | no => simp only [hb] at q; exact q.elim
    · rw [if_neg hck] at q; exact q.elim
  · have e : i = it.items.length := by omega
    subst e
    rw [List.drop_length] at q
    unfold loopF at q
    by_cases hck : it.chk mh = true
    · rw [if_pos hck] at q
      exact .inl ⟨(J1 _ φ mh H p2 k2 hh hck).2 (Nat.le_refl _), q φ σ H (Px.refl φ) (Kp.refl H) hh re⟩
    · rw [if_neg hck] at q; exact q.elim)

/-! ### comprehensions -/
abbrev W0 : WX := fun _ _ _ _ => False
abbrev STs (X : Cx) (W : WX) (ifs : List Expr) (f : MT) : Prop := PTs X ifs (iT X.K X.mg W f)
theorem sts_nil : STs X W [] yes := ⟨fun pins s σ H Q I h => by
  obtain ⟨φ, env, mh, re, hh, p⟩ := h
  exact pts_nil.run pins s σ H Q I (p φ true H (Px.refl φ) (Kp.refl H) hh rfl)⟩
theorem sts_one (h : ST X W c ft) : STs X W [c] ft := pts_one h
theorem post_nox {α β γ δ : Type} {K : PySem.W.Frag} {mg : MGl} {φ : List Addr} {H : Hp} {σ σ2 : L2.St} {R1 : Rl α β} {R2 : Rl γ δ} {r : Res α} {k : α → MH → Res γ} {Q : δ → Hp → Prop} (h : post K mg W R2 σ φ H (r.nox.bind k) Q) :
    post K mg W0 R1 σ2 φ H r fun b H1 => ∃ φ1 a mh1, Px φ φ1 ∧ Kp H H1 ∧ HR K φ1 mh1 H1 ∧ R1 φ1 H1 a b ∧ post K mg W R2 σ φ1 H1 (k a mh1) Q := by
  cases r with
  | ok a mh => exact fun φ2 b H2 p2 k2 hr hR => ⟨φ2, a, mh, p2, k2, hr, hR, post_mono p2 k2 h fun _ _ q => q⟩
  | ex x mh => exact (show False from h).elim
  | no => exact h
theorem imp_lc {fi : MI} {p : Pat} {elt : ME} {vs : List Nat} (hv : ∀ j ∈ p.ix, j ∈ vs) : ∀ σ H Q, iE X.K X.mg W (lc fi p ft elt vs) σ H Q →
    tLc (iI X.K X.mg W fi) (iG X.K p) (iT X.K X.mg W0 ft) (iE X.K X.mg W0 elt) vs σ H Q := by
  rintro σ H Q ⟨φ, env, mh, re, hh, pq⟩
  refine ⟨φ, env, mh, re, hh, post_mono (Px.refl φ) (Kp.refl H) (post_bind (R1 := ItOk X.K) pq) ?_⟩
  rintro J H1 ⟨φ1, it, mh1, p1, k1, h1, J1, q⟩ Dl hD
  have hnew := h1.new (ds := []) (vs := []) hD .nil
  refine ⟨fun i m H => m = it.items.length - i ∧ i ≤ it.items.length ∧ ∃ φ mh, Px (φ1 ++ [Dl]) φ ∧ Kp H1 H ∧ HR X.K φ mh H ∧ post X.K X.mg W (RelD X.K) σ φ H (loopC mh1.length it.chk p ft elt (wipeD env vs) (it.items.drop i) mh) Q,
    ⟨_, rfl, Nat.zero_le _, φ1 ++ [Dl], _, Px.refl _, Kp.new hD, hnew, post_mono px1 (Kp.new hD) q fun _ _ q => q⟩, ?_⟩
  rintro i m H ⟨rfl, hi, φ, mh, p2, k2, hh, q⟩
  have hat : φ[mh1.length]? = some Dl := p2.get h1.last
  by_cases hlt : i < it.items.length
  · have ed : it.items.drop i = it.items[i] :: it.items.drop (i + 1) := List.drop_eq_getElem_cons hlt
    rw [ed] at q
    unfold loopC at q
    by_cases hck : it.chk mh = true
    · rw [if_pos hck] at q
      obtain ⟨hgo, _⟩ := J1 i φ mh H (px1.trans p2) k2 hh hck
      obtain ⟨g1, g2⟩ := hgo it.items[i] (by simp [hlt])
      refine .inr ⟨g1, fun H' => ∃ φ mh, Px (φ1 ++ [Dl]) φ ∧ Kp H1 H' ∧ HR X.K φ mh H' ∧ post X.K X.mg W (RelD X.K) σ φ H' (loopC mh1.length it.chk p ft elt (wipeD env vs) (it.items.drop (i + 1)) mh) Q,
        fun H' h => ⟨it.items.length - (i + 1), by omega, rfl, hlt, h⟩, fun x H' y => ?_⟩
      obtain ⟨k3, h3, r3⟩ := g2 x H' y
      have re2 : RelE X.K φ H' (wipeD env vs) (wipe σ vs) := ((re.mono (p1.trans (px1.trans p2)) ((k1.trans k2).trans k3))).wipe vs
      cases hse : setP p it.items[i] (wipeD env vs) with
      | none => rw [hse] at q; exact q.elim
      | some e =>
        rw [hse] at q
        refine ⟨φ, wipeD env vs, mh, it.items[i], e, re2, h3, r3, hse, fun σ' he hw => ⟨?_, φ, e, mh, he, h3, ?_⟩⟩
        · rw [hw vs hv]
          have : ∀ us : List Nat, (∀ u ∈ us, u ∈ vs) → wipe (wipe σ vs) us = wipe σ vs := by
            intro us
            induction us with
            | nil => intro _; rfl
            | cons u us ih =>
              intro hu
              show (wipe (wipe σ vs) us).set u none = wipe σ vs
              rw [ih fun z hz => hu z (List.mem_cons_of_mem _ hz)]
              apply List.ext_getElem?
              intro j
              by_cases hj : j = u
              · subst hj
                by_cases hl : j < (wipe σ vs).length
                · rw [List.getElem?_set_self hl]
                  cases hx : (wipe σ vs)[j]? with
                  | none => rw [List.getElem?_eq_none_iff] at hx; omega
                  | some o =>
                    cases o with
                    | none => rfl
                    | some z => exact absurd (hu j List.mem_cons_self) (wipe_some hx).2
                · rw [List.getElem?_eq_none (by simpa using hl), List.getElem?_eq_none (by simpa using hl)]
              · rw [List.getElem?_set_ne (Ne.symm hj)]
          exact this vs fun _ h => h
        · refine post_mono (Px.refl φ) (Kp.refl H') (post_nox (R1 := RB) (post_mono (Px.refl φ) k3 q fun _ _ q => q)) ?_
          rintro b H4 ⟨φ4, b', mh4, p4, k4, h4, rb, q4⟩
          have e1 : b' = b := rb
          subst e1
          cases b' with
          | false => exact ⟨φ4, mh4, p2.trans p4, (k2.trans k3).trans k4, h4, q4⟩
          | true =>
            refine ⟨φ4, e, mh4, he.mono p4 k4, h4, post_mono (Px.refl φ4) (Kp.refl H4) (post_nox (R1 := RelD X.K) q4) ?_⟩
            rintro y H5 ⟨φ5, d5, mh5, p5, k5, h5, r5, q5⟩
            have hat5 : φ5[mh1.length]? = some Dl := p5.get (p4.get hat)
            cases hl : mh5[mh1.length]? with
            | none => simp only [hl] at q5; exact q5.elim
            | some ob =>
              cases ob with
              | lst acc =>
                simp only [hl] at q5
                by_cases hz : acc.length < sizeLine
                · rw [if_pos hz] at q5
                  obtain ⟨vs5, hv5, rv5⟩ := h5.lst hat5 hl
                  refine ⟨vs5, hv5, by rw [← rv5.length]; exact hz, φ5, _, (p2.trans p4).trans p5, (((k2.trans k3).trans k4).trans k5).trans (Kp.mut hv5 fun z => z), h5.setL hat5 hv5 (rv5.append (.cons r5 .nil)), post_mono (Px.refl φ5) (Kp.mut hv5 fun z => z) q5 fun _ _ q => q⟩
                · rw [if_neg hz] at q5; exact q5.elim
              | dk _ => simp only [hl] at q5; exact q5.elim
              | dt _ => simp only [hl] at q5; exact q5.elim
    · rw [if_neg hck] at q; exact q.elim
  · have e : i = it.items.length := by omega
    subst e
    rw [List.drop_length] at q
    unfold loopC at q
    by_cases hck : it.chk mh = true
    · rw [if_pos hck] at q
      exact .inl ⟨(J1 _ φ mh H (px1.trans p2) k2 hh hck).2 (Nat.le_refl _), q φ _ H (Px.refl φ) (Kp.refl H) hh (.ref hat)⟩
    · rw [if_neg hck] at q; exact q.elim
theorem se_lc {elt tg iter : Expr} {ifs : List Expr} {scope : Scope} {own : List (Str × Nat)} {fi : MI} {p : Pat} {fe : ME} (hc : X.calm = true) (hN : X.N.Nodup) (hi : SI X W tg iter fi) (ok : BlkOk X.N X.env.scope scope own)
    (hv : ∀ j ∈ p.ix, j ∈ own.map (·.2)) (hg : ∀ (s : Shared) (H : Hp) (C : Addr) (cl : List (Str × Addr)) (fp : List Addr), SG (X.blk s H scope (compEnvC scope cl C X.env) fp) tg p)
    (ht : ∀ (s : Shared) (H : Hp) (C : Addr) (cl : List (Str × Addr)) (fp : List Addr), STs (X.blk s H scope (compEnvC scope cl C X.env) fp) W0 ifs ft)
    (he : ∀ (s : Shared) (H : Hp) (C : Addr) (cl : List (Str × Addr)) (fp : List Addr), SE (X.blk s H scope (compEnvC scope cl C X.env) fp) W0 elt fe) (hs : ∀ x, foldedSetIterable iter X.env x = pure x := by intro _; rfl) :
    SE X W (.ListComp elt [⟨tg, iter, ifs, 0⟩] scope pos) (lc fi p ft fe (own.map (·.2))) := (pe_lc hc hN hi ok hg ht he hs).imp (imp_lc hv)
theorem ss_setLc {i : Nat} {y : Str} {py : Pos} {elt tg iter : Expr} {ifs : List Expr} {scope : Scope} {own : List (Str × Nat)} {spos : Pos} {fi : MI} {p : Pat} {fe : ME} (hc : X.calm = true) (hN : X.N.Nodup) (hi : SI X W tg iter fi) (ok : BlkOk X.N X.env.scope scope own)
    (hv : ∀ j ∈ p.ix, j ∈ own.map (·.2)) (hg : ∀ (s : Shared) (H : Hp) (C : Addr) (cl : List (Str × Addr)) (fp : List Addr), SG (X.blk s H scope (compEnvC scope cl C X.env) fp) tg p)
    (ht : ∀ (s : Shared) (H : Hp) (C : Addr) (cl : List (Str × Addr)) (fp : List Addr), STs (X.blk s H scope (compEnvC scope cl C X.env) fp) W0 ifs ft)
    (he : ∀ (s : Shared) (H : Hp) (C : Addr) (cl : List (Str × Addr)) (fp : List Addr), SE (X.blk s H scope (compEnvC scope cl C X.env) fp) W0 elt fe)
    (hy : X.N[i]? = some y := by rfl) (hyl : X.env.scope.names.lookup y = some .local := by rfl)
    (hsw : swapsWith (.ListComp elt [⟨tg, iter, ifs, 0⟩] scope pos) (some (.Name y py)) spos.line X.env = pure true) (hs : ∀ x, foldedSetIterable iter X.env x = pure x := by intro _; rfl) :
    SS X W (.Assign [.Name y py] (.ListComp elt [⟨tg, iter, ifs, 0⟩] scope pos) spos) (sst i (lc fi p ft fe (own.map (·.2)))) := (ps_setLc hc hN hy hyl hsw hi ok hg ht he hs).imp (by
  rintro D σ H ⟨φ, env, mh, re, hh, pq⟩
  refine imp_lc hv σ H _ ⟨φ, env, mh, re, hh, post_mono (Px.refl φ) (Kp.refl H) (post_lift (R := RelD X.K) re pq) ?_⟩
  rintro x H1 ⟨φ1, d, mh1, p1, k1, h1, r1, q⟩
  exact q φ1 _ H1 (Px.refl φ1) (Kp.refl H1) h1 ((re.mono p1 k1).set r1 i))

/-! ### defs and calls -/
def spF (K : PySem.W.Frag) (mg : MGl) (n : Nat) (F : Fn) : Sp := fun vs H Q E => ∃ φ mh ds, RelDs K φ H ds vs ∧ HR K φ mh H ∧ ds.length = n ∧ post K mg (fun c d _ H' => E c d H') (RelD K) [] φ H (F ds mh) Q
abbrev DOk (P : Program) (w : World) (K : PySem.W.Frag) (mg : MGl) (base : Heap) (k : Nat) (f : Addr) (fd : FuncData) (ps : List Str) (F : Fn) : Prop := FnOk P w K mg base (L2.CX P w) k f fd ps (spF K mg ps.length F)
theorem imp_cal {F : Fn} {n : Nat} {fa : MA} : ∀ σ H Q, iE X.K X.mg W (cal n F fa) σ H Q → iA X.K X.mg W fa σ H fun vs H1 => spF X.K X.mg n F vs H1 Q (WE W σ) := by
  rintro σ H Q ⟨φ, env, mh, re, hh, pq⟩
  refine ⟨φ, env, mh, re, hh, post_mono (Px.refl φ) (Kp.refl H) (post_bind (R1 := RelDs X.K) pq) ?_⟩
  rintro vs H1 ⟨φ1, ds, mh1, p1, k1, h1, r1, q⟩
  by_cases hl : ds.length = n
  · rw [if_pos hl] at q
    refine ⟨φ1, mh1, ds, r1, h1, hl, ?_⟩
    cases hF : F ds mh1 with
    | ok d mh2 => rw [hF] at q; exact q
    | ex x mh2 => rw [hF] at q; exact q
    | no => rw [hF] at q; exact q
  · rw [if_neg hl] at q; exact q.elim
theorem se_call {F : Fn} {k : Nat} {g : Addr} {fd : FuncData} {ps : List Str} {x : Str} {p : Pos} {es : List Expr} {fa : MA} (tk : Takes X W) (G : DOk X.prog X.w X.K X.mg X.base k g fd ps F) (hr : Room k X.A) (hm : X.mg x = some (.ref g)) (hk : PySem.W.keepIn X.K (.ref g) = true) (hb : Binds X.K fd ps [])
    (ha : SA X W (e :: es) fa) (hg : Gl X x := by rfl) (hdb : (x == ("__debug__" : Str)) = false := by decide) (he : starEach (e :: es) X.env = (false, eval e X.env) :: starEach es X.env := by rfl) (hpl : (backTo pos (starEach es X.env)).any (·.1) = false := by rfl) :
    SE X W (.Call (.Name x p) (e :: es) [] pos) (cal ps.length F fa) := (pe_callS G hr hg hm hk hb (fun σ => passAt tk σ) ha hdb he hpl).imp imp_cal
/-- f(), nothing raised -/
theorem se_call0 {F : Fn} {k : Nat} {g : Addr} {fd : FuncData} {x : Str} {p : Pos} (tk : Takes X W) (G : DOk X.prog X.w X.K X.mg X.base k g fd [] F) (hr : Room k X.A) (hm : X.mg x = some (.ref g)) (hk : PySem.W.keepIn X.K (.ref g) = true) (hb : Binds X.K fd [] [])
    (hg : Gl X x := by rfl) (hdb : (x == ("__debug__" : Str)) = false := by decide) :
    SE X W (.Call (.Name x p) [] [] pos) (cal 0 F anil) := by
  refine ⟨fun pins s σ H Q I h => ?_⟩
  obtain ⟨φ, env, mh, re, hh, pq⟩ := imp_cal σ H Q h
  refine wpAny_Call_Name_kw (ld_glob I hg hm ?_ hdb)
  exact PySem.W.callWith_K0 I.kIn hk (run_fnS (us := []) G hr hb (passAt tk σ) I .nil (pq φ [] H (Px.refl φ) (Kp.refl H) hh .nil))
/-- THE RULE of a def -/
theorem okF {P : Program} {w : World} {K : PySem.W.Frag} {mg : MGl} {base : Heap} {x qual : Str} {stt : Stmt} {fad : Addr} {fd : FuncData} {N ps : List Str} {k : Nat} {bd : MS} (F : Fun K x qual stt fad fd) (S : FnScope N ps (defScope stt)) (hle : ps.length ≤ N.length)
    (hb : ∀ (cdv : Value) (A : Around) (outer : List Env) (s : Shared) (H : Hp) (E : XK), Room k (A.deeper (envOfC qual (defScope stt) s.heap.objs.size fad cdv)) →
      SSs (cxOf (L2.CX P w) P w K mg base N qual (defScope stt) fad cdv A outer s H E) (fun c d _ H' => E c d H') (defBody stt) bd) : DOk P w K mg base (k + 1) fad fd ps (runF N.length bd) := by
  refine F.okX S (fun vs H Q E h => ?_) (fun cdv A outer s H vs Q E hr h => ⟨_, hb cdv A outer s H E hr, ?_⟩)
  · obtain ⟨φ, mh, ds, r, _, hl, _⟩ := h
    rw [← r.length]; exact hl
  · obtain ⟨φ, mh, ds, r, hh, hl, q⟩ := h
    have hlv : vs.length = ps.length := by rw [← r.length]; exact hl
    refine ⟨φ, ds.map some ++ List.replicate (N.length - ds.length) none, mh, ⟨?_, fun i d e => ?_⟩, hh, ?_⟩
    · unfold L2.start; simp [r.length]
    · have hi : i < ds.length := by
        by_cases h : i < ds.length
        · exact h
        · rw [List.getElem?_append_right (by simpa using h)] at e
          rw [List.getElem?_replicate] at e
          split at e <;> cases e
      rw [List.getElem?_append_left (by simpa using hi), List.getElem?_map] at e
      cases hd : ds[i]? with
      | none => rw [hd] at e; cases e
      | some d' =>
        rw [hd] at e
        cases e
        obtain ⟨v, h1, h2⟩ := r.get hd
        refine ⟨v, ?_, h2⟩
        have hiv : i < vs.length := by rw [← r.length]; exact hi
        show (vs.map some ++ List.replicate (N.length - vs.length) none)[i]? = some (some v)
        rw [List.getElem?_append_left (by simpa using hiv), List.getElem?_map, h1]
        rfl
    · unfold runF at q
      cases hbd : bd (ds.map some ++ List.replicate (N.length - ds.length) none) mh with
      | nx e h => rw [hbd] at q; exact fun φ2 s2 H2 p2 k2 hr _ => q φ2 .non H2 p2 k2 hr .non
      | rt e h => rw [hbd] at q; exact q
      | ex x e h => rw [hbd] at q; exact fun φ2 c d s2 H2 p2 k2 hr _ hx => q φ2 c d H2 p2 k2 hr hx
      | bk e h => rw [hbd] at q; exact q.elim
      | ct e h => rw [hbd] at q; exact q.elim
      | no => rw [hbd] at q; exact q.elim
end
end Det
/-! Det, part D: operations on values. -/
namespace Det
open PySem PySem.Spec PyProof.Rows L2

/-! ### operators -/
def oAdd : Op2 := fun a b mh => match a, b with
  | .int i, .int j => some (.int (i + j), mh)
  | .str x, .str y => if x.length + y.length ≤ sizeLine then some (.str (x ++ y), mh) else none
  | .tup xs, .tup ys => if xs.length + ys.length ≤ sizeLine then some (.tup (xs ++ ys), mh) else none
  | .ref m, .ref n => match mh[m]?, mh[n]? with
    | some (.lst xs), some (.lst ys) => if xs.length + ys.length ≤ sizeLine then some (.ref mh.length, mh ++ [.lst (xs ++ ys)]) else none
    | _, _ => none
  | _, _ => none
def oSub : Op2 := fun a b mh => match a, b with
  | .int i, .int j => some (.int (i - j), mh)
  | _, _ => none
def oMul : Op2 := fun a b mh => match a, b with
  | .int i, .int j => if (-(2 ^ 64) < i ∧ i < 2 ^ 64) ∨ (-(2 ^ 64) < j ∧ j < 2 ^ 64) then some (.int (i * j), mh) else none
  | .tup xs, .int k => if xs ≠ [] ∧ 2 ≤ k ∧ k ≤ 1000 ∧ xs.length ≤ 1000 then some (.tup (List.replicate k.toNat xs).flatten, mh) else none
  | .ref m, .int k => match mh[m]? with
    | some (.lst xs) => if -(2 ^ 63) ≤ k ∧ k < 2 ^ 63 ∧ xs.length * k.toNat ≤ sizeLine then some (.ref mh.length, mh ++ [.lst (List.replicate k.toNat xs).flatten]) else none
    | _ => none
  | _, _ => none
def oFdiv : Op2 := fun a b mh => match a, b with
  | .int i, .int j => if j ≠ 0 ∧ j.natAbs < 1073741824 then some (.int (i.fdiv j), mh) else none
  | _, _ => none
def oMod : Op2 := fun a b mh => match a, b with
  | .int i, .int j => if j ≠ 0 then some (.int (i.fmod j), mh) else none
  | _, _ => none
def oPow : Op2 := fun a b mh => match a, b with
  | .int i, .int j => if 0 ≤ j ∧ j ≤ 1000000 ∧ i.natAbs < 2 ^ 64 then some (.int (i ^ j.toNat), mh) else none
  | _, _ => none
def oShl : Op2 := fun a b mh => match a, b with
  | .int i, .int j => if 0 ≤ j ∧ j ≤ 1000000 ∧ i.natAbs < 2 ^ 64 then some (.int (i * 2 ^ j.toNat), mh) else none
  | _, _ => none
def oNeg : Op1 := fun a mh => match a with
  | .int i => some (.int (-i), mh)
  | _ => none
section
variable {X : Cx}
theorem postO_val {K : PySem.W.Frag} {φ : List Addr} {H : Hp} {d : D} {v : V} {mh : MH} {Q : V → Hp → Prop} (hh : HR K φ mh H) (p : postO K (RelD K) φ H (some (d, mh)) Q) (r : RelD K φ H d v) : Q v H := p φ v H (Px.refl φ) (Kp.refl H) hh r
theorem postO_new {K : PySem.W.Frag} {φ : List Addr} {H : Hp} {ds : List D} {vs : List V} {mh : MH} {Q : V → Hp → Prop} (hh : HR K φ mh H) (p : postO K (RelD K) φ H (some (.ref mh.length, mh ++ [.lst ds])) Q) (r : RelDs K φ H ds vs) {a : Addr} (ha : H a = none) : Q (.ref a) (upd H a (.lst vs)) :=
  p (φ ++ [a]) (.ref a) _ px1 (Kp.new ha) (hh.new ha r) (.ref hh.last)
theorem postO_tup {K : PySem.W.Frag} {φ : List Addr} {H : Hp} {ds : List D} {vs : List V} {mh : MH} {Q : V → Hp → Prop} (hh : HR K φ mh H) (p : postO K (RelD K) φ H (some (.tup ds, mh)) Q) (r : RelDs K φ H ds vs) {a : Addr} (ha : H a = none) : Q (.ref a) (upd H a (.tup vs)) :=
  p φ (.ref a) _ (Px.refl φ) (Kp.new ha) (hh.grow ha) (.tup (SqT.of upd_same) (r.mono (Px.refl φ) (Kp.new ha)))
theorem RelDs.nil_iff {K : PySem.W.Frag} {φ : List Addr} {H : Hp} {ds : List D} {vs : List V} (r : RelDs K φ H ds vs) : ds = [] ↔ vs = [] := by
  cases r <;> simp
theorem r_add : OpR X (binaryOp .Add) (iR2 X.K oAdd) := by
  rintro pins s σ H x y v u Q I rx ry ⟨φ, mh, a, b, ra, rb, hh, p⟩
  cases ra with
  | int i =>
    cases rb with
    | int j => exact op_add pins s σ H _ _ v u Q I rx ry ⟨i, j, rfl, rfl, postO_val hh p (.int _)⟩
    | _ => exact p.elim
  | str i =>
    cases rb with
    | str j =>
      simp only [oAdd] at p
      split at p
      · rename_i hl; exact op_add_str pins s σ H _ _ v u Q I rx ry ⟨i, j, rfl, rfl, hl, postO_val hh p (.str _)⟩
      · exact p.elim
    | _ => exact p.elim
  | tup h1 r1 =>
    rename_i a1 xs vs
    cases rb with
    | tup h2 r2 =>
      rename_i a2 ys ws
      simp only [oAdd] at p
      split at p
      · rename_i hl
        refine op_catA pins s σ H _ _ v u Q I rx ry ⟨a1, a2, vs, ws, rfl, rfl, h1, h2, by rw [← r1.length, ← r2.length]; exact hl, fun e => ?_, fun _ e => ?_, fun _ _ q hq => postO_tup hh p (r1.append r2) hq⟩
        · have e' := r1.nil_iff.mpr e
          subst e'
          exact postO_val hh p (.tup h2 r2)
        · have e' := r2.nil_iff.mpr e
          subst e'
          rw [List.append_nil] at p
          exact postO_val hh p (.tup h1 r1)
      · exact p.elim
    | _ => exact p.elim
  | ref h1 =>
    rename_i n a1
    cases rb with
    | ref h2 =>
      rename_i m a2
      simp only [oAdd] at p
      split at p
      · rename_i xs ys e1 e2
        split at p
        · rename_i hl
          obtain ⟨vs, q1, r1⟩ := hh.lst h1 e1
          obtain ⟨ws, q2, r2⟩ := hh.lst h2 e2
          exact op_cat pins s σ H _ _ v u Q I rx ry ⟨a1, a2, vs, ws, rfl, rfl, q1, q2, by rw [← r1.length, ← r2.length]; exact hl, fun q hq => postO_new hh p (r1.append r2) hq⟩
        · exact p.elim
      · exact p.elim
    | _ => exact p.elim
  | _ => cases rb <;> exact p.elim
theorem r_sub : OpR X (binaryOp .Sub) (iR2 X.K oSub) := by
  rintro pins s σ H x y v u Q I rx ry ⟨φ, mh, a, b, ra, rb, hh, p⟩
  cases ra with
  | int i =>
    cases rb with
    | int j => exact op_sub pins s σ H _ _ v u Q I rx ry ⟨i, j, rfl, rfl, postO_val hh p (.int _)⟩
    | _ => exact p.elim
  | _ => cases rb <;> exact p.elim
theorem RelDs.rep {K : PySem.W.Frag} {φ : List Addr} {H : Hp} {ds : List D} {vs : List V} (r : RelDs K φ H ds vs) : ∀ k : Nat, RelDs K φ H (List.replicate k ds).flatten (List.replicate k vs).flatten
  | 0 => .nil
  | k + 1 => by rw [List.replicate_succ, List.replicate_succ, List.flatten_cons, List.flatten_cons]; exact r.append (RelDs.rep r k)
theorem r_mul : OpR X (binaryOp .Mult) (iR2 X.K oMul) := by
  rintro pins s σ H x y v u Q I rx ry ⟨φ, mh, a, b, ra, rb, hh, p⟩
  cases ra with
  | int i =>
    cases rb with
    | int j =>
      simp only [oMul] at p
      split at p
      · rename_i hl; exact op_mul pins s σ H _ _ v u Q I rx ry ⟨i, j, rfl, rfl, hl, postO_val hh p (.int _)⟩
      · exact p.elim
    | _ => exact p.elim
  | tup h1 r1 =>
    rename_i a1 xs vs
    cases rb with
    | int k =>
      simp only [oMul] at p
      split at p
      · rename_i hl
        obtain ⟨n1, n2, n3, n4⟩ := hl
        exact op_repT pins s σ H _ _ v u Q I rx ry ⟨a1, k, vs, rfl, rfl, h1, fun e => n1 (r1.nil_iff.mpr e), n2, n3, by rw [← r1.length]; exact n4, fun q hq => postO_tup hh p (r1.rep _) hq⟩
      · exact p.elim
    | _ => exact p.elim
  | ref h1 =>
    rename_i n a1
    cases rb with
    | int k =>
      simp only [oMul] at p
      split at p
      · rename_i xs e1
        split at p
        · rename_i hl
          obtain ⟨n1, n2, n3⟩ := hl
          obtain ⟨vs, q1, r1⟩ := hh.lst h1 e1
          exact op_rep pins s σ H _ _ v u Q I rx ry ⟨a1, k, vs, rfl, rfl, q1, n1, n2, by rw [← r1.length]; exact n3, fun q hq => postO_new hh p (r1.rep _) hq⟩
        · exact p.elim
      · exact p.elim
    | _ => exact p.elim
  | _ => cases rb <;> exact p.elim
theorem r_int {op : Operator} {C : Int → Int → Prop} [∀ i j, Decidable (C i j)] {g : Int → Int → Int} {o : Op2} (rule : OpR X (binaryOp op) (rI C fun i j => .int (g i j)))
    (ho : ∀ a b mh, o a b mh = match a, b with | .int i, .int j => if C i j then some (.int (g i j), mh) else none | _, _ => none) : OpR X (binaryOp op) (iR2 X.K o) := by
  rintro pins s σ H x y v u Q I rx ry ⟨φ, mh, a, b, ra, rb, hh, p⟩
  rw [ho] at p
  cases ra with
  | int i =>
    cases rb with
    | int j =>
      simp only at p
      split at p
      · rename_i hl; exact rule pins s σ H _ _ v u Q I rx ry ⟨i, j, rfl, rfl, hl, postO_val hh p (.int _)⟩
      · exact p.elim
    | _ => exact p.elim
  | _ => cases rb <;> exact p.elim
instance : ∀ i j, Decidable (CDivN i j) := fun i j => by unfold CDivN; infer_instance
instance : ∀ i j, Decidable (CPow i j) := fun i j => by unfold CPow; infer_instance
theorem r_fdiv : OpR X (binaryOp .FloorDiv) (iR2 X.K oFdiv) := r_int op_fdivN fun a b mh => by cases a <;> cases b <;> rfl
theorem r_mod : OpR X (binaryOp .Mod) (iR2 X.K oMod) := r_int op_modN fun a b mh => by cases a <;> cases b <;> rfl
theorem r_pow : OpR X (binaryOp .Pow) (iR2 X.K oPow) := r_int op_pow fun a b mh => by cases a <;> cases b <;> rfl
theorem r_shl : OpR X (binaryOp .LShift) (iR2 X.K oShl) := r_int op_shl fun a b mh => by cases a <;> cases b <;> rfl
theorem r_neg : UnR X (unaryOp .USub) (iR1 X.K oNeg) := by
  rintro pins s σ H x v Q I rx ⟨φ, mh, a, ra, hh, p⟩
  cases ra with
  | int i => exact un_neg pins s σ H _ v Q I rx ⟨i, rfl, postO_val hh p (.int _)⟩
  | _ => exact p.elim

/-! ### comparisons -/
/-- data of a value, lists read -/
def datD (mh : MH) : Nat → D → Option PyData
  | _, .non => some .none
  | _, .bl b => some (.bool b)
  | _, .int i => some (.int i)
  | _, .str x => some (.str x)
  | n + 1, .tup xs => (xs.mapM (datD mh n)).map .tuple
  | n + 1, .ref m => match mh[m]? with
    | some (.lst xs) => (xs.mapM (datD mh n)).map .list
    | _ => none
  | _, _ => none
theorem mapM_dat {K : PySem.W.Frag} {φ : List Addr} {H : Hp} {f : D → Option PyData} (hf : ∀ d v p, RelD K φ H d v → f d = some p → Dp K H v p) : ∀ {ds : List D} {vs : List V} {ps : List PyData}, RelDs K φ H ds vs → ds.mapM f = some ps → DpAll K H vs ps
  | _, _, ps, .nil, e => by
    simp at e
    subst e
    exact .nil
  | _, _, ps, .cons (d := d) (ds := ds) h t, e => by
    rw [List.mapM_cons] at e
    cases h1 : f d with
    | none => rw [h1] at e; cases e
    | some p =>
      rw [h1] at e
      cases h2 : ds.mapM f with
      | none => simp [h2] at e
      | some qs =>
        simp [h2] at e
        subst e
        exact .cons (hf _ _ _ h h1) (mapM_dat hf t h2)
theorem datD_ok {K : PySem.W.Frag} {φ : List Addr} {H : Hp} {mh : MH} (hh : HR K φ mh H) : ∀ (n : Nat) (d : D) (v : V) (p : PyData), RelD K φ H d v → datD mh n d = some p → Dp K H v p := by
  intro n
  induction n with
  | zero =>
    intro d v p r e
    cases r with
    | non => cases e; exact .non
    | bl b => cases e; exact .bl b
    | int i => cases e; exact .int i
    | str x => cases e; exact .str x
    | _ => cases e
  | succ n ih =>
    intro d v p r e
    cases r with
    | non => cases e; exact .non
    | bl b => cases e; exact .bl b
    | int i => cases e; exact .int i
    | str x => cases e; exact .str x
    | tup hs t =>
      simp only [datD] at e
      cases h2 : List.mapM (datD mh n) ‹List D› with
      | none => rw [h2] at e; cases e
      | some qs =>
        rw [h2] at e
        cases e
        exact .tup hs (mapM_dat ih t h2)
    | ref hn =>
      simp only [datD] at e
      split at e
      · rename_i xs hx
        cases h2 : List.mapM (datD mh n) xs with
        | none => rw [h2] at e; cases e
        | some qs =>
          rw [h2] at e
          cases e
          obtain ⟨vs, q1, r1⟩ := hh.lst hn hx
          exact .lst (SqL.of q1) (mapM_dat ih r1 h2)
      · cases e
    | _ => cases e
/-- == of data -/
def eqD (mh : MH) (a b : D) : Option Bool := match a, b with
  | .int i, .int j => some (i == j)
  | .str x, .str y => some (x == y)
  | a, b => match datD mh 60 a, datD mh 60 b with
    | some d, some e => if SeqAt.shaped d = true ∧ SeqAt.shaped e = true then some (PyData.eqv d e) else none
    | _, _ => none
def oEq : Op2 := fun a b mh => match eqD mh a b with
  | some k => some (.bl k, mh)
  | none => none
def oNe : Op2 := fun a b mh => match eqD mh a b with
  | some k => some (.bl (!k), mh)
  | none => none
theorem eqD_ok {φ : List Addr} {H : Hp} {mh : MH} {a b : D} {x y : V} {k : Bool} (hh : HR X.K φ mh H) (ra : RelD X.K φ H a x) (rb : RelD X.K φ H b y) (h : eqD mh a b = some k) :
    (scal x y = true ∧ decide (x = y) = k) ∨ ∃ d e, Dp X.K H x d ∧ Dp X.K H y e ∧ SeqAt.shaped d = true ∧ SeqAt.shaped e = true ∧ PyData.eqv d e = k := by
  unfold eqD at h
  split at h
  · cases ra; cases rb
    simp only [Option.some.injEq] at h
    exact .inl ⟨rfl, by rw [dec_int]; exact h⟩
  · cases ra; cases rb
    simp only [Option.some.injEq] at h
    exact .inl ⟨rfl, by rw [dec_str]; exact h⟩
  · split at h
    · rename_i d e h1 h2
      split at h
      · rename_i hs
        simp only [Option.some.injEq] at h
        exact .inr ⟨d, e, datD_ok hh _ _ _ _ ra h1, datD_ok hh _ _ _ _ rb h2, hs.1, hs.2, h⟩
      · cases h
    · cases h
theorem r_eq (hu : X.A.units + 64 < cLine) : OpR X (compareOp .Eq) (iR2 X.K oEq) := by
  rintro pins s σ H x y v u Q I rx ry ⟨φ, mh, a, b, ra, rb, hh, p⟩
  unfold oEq at p
  cases h : eqD mh a b with
  | none => rw [h] at p; exact p.elim
  | some k =>
    rw [h] at p
    have q := postO_val hh p (.bl k)
    rcases eqD_ok hh ra rb h with ⟨h1, h2⟩ | ⟨d, e, h1, h2, h3, h4, h5⟩
    · exact op_eq pins s σ H x y v u Q I rx ry ⟨h1, by rw [h2]; exact q⟩
    · exact op_eqD hu pins s σ H x y v u Q I rx ry ⟨d, e, h1, h2, h3, h4, by rw [h5]; exact q⟩
theorem r_ne (hu : X.A.units + 64 < cLine) : OpR X (compareOp .NotEq) (iR2 X.K oNe) := by
  rintro pins s σ H x y v u Q I rx ry ⟨φ, mh, a, b, ra, rb, hh, p⟩
  unfold oNe at p
  cases h : eqD mh a b with
  | none => rw [h] at p; exact p.elim
  | some k =>
    rw [h] at p
    have q := postO_val hh p (.bl (!k))
    rcases eqD_ok hh ra rb h with ⟨h1, h2⟩ | ⟨d, e, h1, h2, h3, h4, h5⟩
    · exact op_ne pins s σ H x y v u Q I rx ry ⟨h1, by rw [h2]; exact q⟩
    · exact op_neD hu pins s σ H x y v u Q I rx ry ⟨d, e, h1, h2, h3, h4, by rw [h5]; exact q⟩
/-- order of ints and texts -/
def ltS (x y : Str) : Bool := decide (x.cps.toList < y.cps.toList)
def oCmp (fi : Int → Int → Bool) (fs : Str → Str → Bool) : Op2 := fun a b mh => match a, b with
  | .int i, .int j => some (.bl (fi i j), mh)
  | .str x, .str y => some (.bl (fs x y), mh)
  | _, _ => none
abbrev oLt : Op2 := oCmp (fun i j => decide (i < j)) ltS
abbrev oLe : Op2 := oCmp (fun i j => decide (i ≤ j)) fun x y => !ltS y x
abbrev oGt : Op2 := oCmp (fun i j => decide (j < i)) fun x y => ltS y x
abbrev oGe : Op2 := oCmp (fun i j => decide (j ≤ i)) fun x y => !ltS x y
theorem r_cmp {op : CmpOp} {fi : Int → Int → Bool} {fs : Str → Str → Bool} (h1 : OpR X (compareOp op) (rI0 fun i j => .bl (fi i j))) (h2 : OpR X (compareOp op) (fun x y H Q => ∃ i j, x = .str i ∧ y = .str j ∧ Q (.bl (fs i j)) H)) :
    OpR X (compareOp op) (iR2 X.K (oCmp fi fs)) := by
  rintro pins s σ H x y v u Q I rx ry ⟨φ, mh, a, b, ra, rb, hh, p⟩
  cases ra with
  | int i =>
    cases rb with
    | int j => exact h1 pins s σ H _ _ v u Q I rx ry ⟨i, j, rfl, rfl, postO_val hh p (.bl _)⟩
    | _ => exact p.elim
  | str i =>
    cases rb with
    | str j => exact h2 pins s σ H _ _ v u Q I rx ry ⟨i, j, rfl, rfl, postO_val hh p (.bl _)⟩
    | _ => exact p.elim
  | _ => cases rb <;> exact p.elim
theorem r_lt : OpR X (compareOp .Lt) (iR2 X.K oLt) := r_cmp op_lt op_lt_str
theorem r_le : OpR X (compareOp .LtE) (iR2 X.K oLe) := r_cmp op_le op_le_str
theorem r_gt : OpR X (compareOp .Gt) (iR2 X.K oGt) := r_cmp op_gt op_gt_str
theorem r_ge : OpR X (compareOp .GtE) (iR2 X.K oGe) := r_cmp op_ge op_ge_str
/-- x in xs: flat things; one sign in a text; a key of a dict -/
def flatD : D → Bool
  | .non => true
  | .bl _ => true
  | .int _ => true
  | .str _ => true
  | _ => false
def eqvD : D → D → Bool
  | .non, .non => true
  | .bl a, .bl b => a == b
  | .int i, .int j => i == j
  | .str x, .str y => x == y
  | .bl a, .int j => b2i a == j
  | .int i, .bl b => i == b2i b
  | _, _ => false
end
end Det
/-! Det, part E: membership, identity, built-ins, items, slices, displays, what is walked. -/
namespace Det
open PySem PySem.Spec PyProof.Rows L2

section
variable {X : Cx} {W : WX}
/-! ### in, is -/
def vD : D → V
  | .non => .non
  | .bl b => .bl b
  | .int i => .int i
  | .str x => .str x
  | _ => .non
theorem flat_rel {K : PySem.W.Frag} {φ : List Addr} {H : Hp} {d : D} {v : V} (r : RelD K φ H d v) (f : flatD d = true) : v = vD d ∧ flatV v = true := by
  cases r with
  | non => exact ⟨rfl, rfl⟩
  | bl b => exact ⟨rfl, rfl⟩
  | int i => exact ⟨rfl, rfl⟩
  | str x => exact ⟨rfl, rfl⟩
  | _ => simp [flatD] at f
theorem flats_rel {K : PySem.W.Frag} {φ : List Addr} {H : Hp} : ∀ {ds : List D} {vs : List V}, RelDs K φ H ds vs → ds.all flatD = true → vs = ds.map vD ∧ vs.all flatV = true
  | _, _, .nil, _ => ⟨rfl, rfl⟩
  | _, _, .cons h t, f => by
    rw [List.all_cons, Bool.and_eq_true] at f
    obtain ⟨e1, f1⟩ := flat_rel h f.1
    obtain ⟨e2, f2⟩ := flats_rel t f.2
    exact ⟨by rw [List.map_cons, ← e1, ← e2], by rw [List.all_cons, f1, f2]; rfl⟩
/-- == of flat values -/
def eqF (a b : D) : Bool := eqV (vD a) (vD b)
def hasF (x : D) (xs : List D) : Bool := xs.any fun y => eqF y x
theorem hasF_in {x : D} {xs : List D} : inV (vD x) (xs.map vD) = hasF x xs := by
  unfold inV hasF eqF
  rw [List.any_map]; rfl
/-- the items of a list or a tuple -/
def itemsD (mh : MH) : D → Option (List D)
  | .tup xs => some xs
  | .rol xs => some xs
  | .ref n => match mh[n]? with
    | some (.lst xs) => some xs
    | _ => none
  | _ => none
def subStr (x y : Str) : Bool := if x.cps.size = 1 then decide (x.cps.getD 0 0 ∈ y.cps.toList) else !(Builtin.Str.occurrences y x 0 y.length 1).isEmpty
def inD (mh : MH) (x c : D) : Option Bool := match x, c with
  | .str a, .str b => some (subStr a b)
  | x, c => match itemsD mh c with
    | some xs => if flatD x = true ∧ xs.all flatD = true then some (hasF x xs) else
      (match c with
      | .ref _ => (match datD mh 60 x, datD mh 60 c with
        | some d, some (.list ds) => if SeqAt.shaped d = true ∧ SeqAt.shaped (.list ds) = true then some (ds.any fun z => PyData.eqv z d) else none
        | _, _ => none)
      | _ => none)
    | none => none
def oIn : Op2 := fun a b mh => (inD mh a b).map fun k => (.bl k, mh)
def oNotIn : Op2 := fun a b mh => (inD mh a b).map fun k => (.bl (!k), mh)
theorem seq_of {φ : List Addr} {H : Hp} {mh : MH} {c : D} {y : V} {xs : List D} (hh : HR X.K φ mh H) (r : RelD X.K φ H c y) (h : itemsD mh c = some xs) : ∃ p vs, y = .ref p ∧ (SqL X.K H p vs ∨ SqT X.K H p vs) ∧ RelDs X.K φ H xs vs := by
  cases r with
  | tup hs rs => cases h; exact ⟨_, _, rfl, .inr hs, rs⟩
  | rol hs rs => cases h; exact ⟨_, _, rfl, .inl hs.seq, rs⟩
  | ref hn =>
    simp only [itemsD] at h
    split at h
    · rename_i xs' hx
      cases h
      obtain ⟨vs, q, rs⟩ := hh.lst hn hx
      exact ⟨_, vs, rfl, .inl (SqL.of q), rs⟩
    · cases h
  | _ => cases h
theorem inD_ok {φ : List Addr} {H : Hp} {mh : MH} {a c : D} {x y : V} {k : Bool} (hh : HR X.K φ mh H) (ra : RelD X.K φ H a x) (rc : RelD X.K φ H c y) (h : inD mh a c = some k) :
    (∃ c' z, x = .str ⟨#[c']⟩ ∧ y = .str z ∧ decide (c' ∈ z.cps.toList) = k) ∨ (∃ i j, x = .str i ∧ y = .str j ∧ (!(Builtin.Str.occurrences j i 0 j.length 1).isEmpty) = k) ∨
    (∃ p vs, y = .ref p ∧ (SqL X.K H p vs ∨ SqT X.K H p vs) ∧ flatV x = true ∧ vs.all flatV = true ∧ inV x vs = k) ∨
    (∃ d ds, Dp X.K H x d ∧ Dp X.K H y (.list ds) ∧ SeqAt.shaped d = true ∧ SeqAt.shaped (.list ds) = true ∧ (ds.any fun z => PyData.eqv z d) = k) := by
  unfold inD at h
  split at h
  · cases ra; cases rc
    rename_i a b
    simp only [Option.some.injEq] at h
    unfold subStr at h
    split at h
    · rename_i hs
      refine .inl ⟨a.cps.getD 0 0, b, ?_, rfl, h⟩
      obtain ⟨⟨l⟩⟩ := a
      match l, hs with
      | [c'], _ => rfl
      | [], hs => simp at hs
      | _ :: _ :: _, hs => simp at hs
    · exact .inr (.inl ⟨a, b, rfl, rfl, h⟩)
  · split at h
    · rename_i xs hx
      split at h
      · rename_i hf
        simp only [Option.some.injEq] at h
        obtain ⟨p, vs, e, hs, rs⟩ := seq_of hh rc hx
        obtain ⟨e1, f1⟩ := flat_rel ra hf.1
        obtain ⟨e2, f2⟩ := flats_rel rs hf.2
        exact .inr (.inr (.inl ⟨p, vs, e, hs, f1, f2, by rw [e1, e2, hasF_in]; exact h⟩))
      · split at h
        · split at h
          · rename_i d ds h1 h2
            split at h
            · rename_i hs
              simp only [Option.some.injEq] at h
              exact .inr (.inr (.inr ⟨d, ds, datD_ok hh _ _ _ _ ra h1, datD_ok hh _ _ _ _ rc h2, hs.1, hs.2, h⟩))
            · cases h
          · cases h
        · cases h
    · cases h
theorem r_in (hu : X.A.units + 65 < cLine) : OpR X (compareOp .In) (iR2 X.K oIn) := by
  rintro pins s σ H x y v u Q I rx ry ⟨φ, mh, a, b, ra, rb, hh, p⟩
  unfold oIn at p
  cases h : inD mh a b with
  | none => rw [h] at p; exact p.elim
  | some k =>
    rw [h] at p
    have q := postO_val hh p (.bl k)
    rcases inD_ok hh ra rb h with ⟨c, z, h1, h2, h3⟩ | ⟨i, j, h1, h2, h3⟩ | ⟨pp, vs, h1, h2, h3, h4, h5⟩ | ⟨d, ds, h1, h2, h3, h4, h5⟩
    · exact op_in_sign pins s σ H x y v u Q I rx ry ⟨c, z, h1, h2, by rw [h3]; exact q⟩
    · exact op_in_str pins s σ H x y v u Q I rx ry ⟨i, j, h1, h2, by rw [h3]; exact q⟩
    · exact op_in_seq pins s σ H x y v u Q I rx ry ⟨pp, vs, h1, h2, h3, h4, by rw [h5]; exact q⟩
    · exact op_inD hu pins s σ H x y v u Q I rx ry ⟨d, ds, h1, h2, h3, h4, by rw [h5]; exact q⟩
theorem r_notIn (hu : X.A.units + 65 < cLine) : OpR X (compareOp .NotIn) (iR2 X.K oNotIn) := by
  rintro pins s σ H x y v u Q I rx ry ⟨φ, mh, a, b, ra, rb, hh, p⟩
  unfold oNotIn at p
  cases h : inD mh a b with
  | none => rw [h] at p; exact p.elim
  | some k =>
    rw [h] at p
    have q := postO_val hh p (.bl (!k))
    rcases inD_ok hh ra rb h with ⟨c, z, h1, h2, h3⟩ | ⟨i, j, h1, h2, h3⟩ | ⟨pp, vs, h1, h2, h3, h4, h5⟩ | ⟨d, ds, h1, h2, h3, h4, h5⟩
    · exact op_notIn_sign pins s σ H x y v u Q I rx ry ⟨c, z, h1, h2, by rw [h3]; exact q⟩
    · exact op_notin_str pins s σ H x y v u Q I rx ry ⟨i, j, h1, h2, by rw [h3]; exact q⟩
    · exact op_notIn_seq pins s σ H x y v u Q I rx ry ⟨pp, vs, h1, h2, h3, h4, by rw [if_pos rfl, h5]; exact q⟩
    · exact op_notInD hu pins s σ H x y v u Q I rx ry ⟨d, ds, h1, h2, h3, h4, by rw [h5]; exact q⟩
def isD : D → D → Option Bool
  | .non, .non => some true
  | _, .non => some false
  | .bl a, .bl b => some (decide (a = b))
  | _, _ => none
def oIs : Op2 := fun a b mh => (isD a b).map fun k => (.bl k, mh)
def oIsNot : Op2 := fun a b mh => (isD a b).map fun k => (.bl (!k), mh)
theorem isD_ok {K : PySem.W.Frag} {φ : List Addr} {H : Hp} {a b : D} {x y : V} {k : Bool} (ra : RelD K φ H a x) (rb : RelD K φ H b y) (h : isD a b = some k) : (y = .non ∧ decide (x = .non) = k) ∨ ∃ i j : Bool, x = .bl i ∧ y = .bl j ∧ decide (i = j) = k := by
  cases rb with
  | non =>
    cases ra with
    | non => exact .inl ⟨rfl, by simpa [isD] using h⟩
    | _ => exact .inl ⟨rfl, by simpa [isD] using h⟩
  | bl j =>
    cases ra with
    | bl i => exact .inr ⟨i, j, rfl, rfl, by simpa [isD] using h⟩
    | _ => cases h
  | _ => cases ra <;> cases h
theorem r_is : OpR X (compareOp .Is) (iR2 X.K oIs) := by
  rintro pins s σ H x y v u Q I rx ry ⟨φ, mh, a, b, ra, rb, hh, p⟩
  unfold oIs at p
  cases h : isD a b with
  | none => rw [h] at p; exact p.elim
  | some k =>
    rw [h] at p
    have q := postO_val hh p (.bl k)
    rcases isD_ok ra rb h with ⟨h1, h2⟩ | ⟨i, j, h1, h2, h3⟩
    · exact op_isN pins s σ H x y v u Q I rx ry ⟨h1, by rw [h2]; exact q⟩
    · exact op_isBl pins s σ H x y v u Q I rx ry ⟨i, j, h1, h2, by rw [h3]; exact q⟩
theorem r_isNot : OpR X (compareOp .IsNot) (iR2 X.K oIsNot) := by
  rintro pins s σ H x y v u Q I rx ry ⟨φ, mh, a, b, ra, rb, hh, p⟩
  unfold oIsNot at p
  cases h : isD a b with
  | none => rw [h] at p; exact p.elim
  | some k =>
    rw [h] at p
    have q := postO_val hh p (.bl (!k))
    rcases isD_ok ra rb h with ⟨h1, h2⟩ | ⟨i, j, h1, h2, h3⟩
    · exact op_notN pins s σ H x y v u Q I rx ry ⟨h1, by rw [h2]; exact q⟩
    · exact op_notBl pins s σ H x y v u Q I rx ry ⟨i, j, h1, h2, by rw [h3]; exact q⟩

/-! ### built-ins by name -/
def lenD (mh : MH) : D → Option Nat
  | .str s => if s.length ≤ sizeLine then some s.length else none
  | .ref n => match mh[n]? with
    | some (.lst xs) => some xs.length
    | some (.dk kvs) => some kvs.length
    | _ => none
  | .tup xs => some xs.length
  | .rol xs => some xs.length
  | _ => none
def oLen : OpA := fun as mh => match as with
  | [a] => (lenD mh a).map fun n => (.int (n : Int), mh)
  | _ => none
theorem RelDs.one {K : PySem.W.Frag} {φ : List Addr} {H : Hp} {d : D} {vs : List V} (r : RelDs K φ H [d] vs) : ∃ v, vs = [v] ∧ RelD K φ H d v := by
  cases r with
  | cons h t => cases t; exact ⟨_, rfl, h⟩
theorem RelDs.two {K : PySem.W.Frag} {φ : List Addr} {H : Hp} {d e : D} {vs : List V} (r : RelDs K φ H [d, e] vs) : ∃ v w, vs = [v, w] ∧ RelD K φ H d v ∧ RelD K φ H e w := by
  cases r with
  | cons h t => obtain ⟨w, rfl, h2⟩ := t.one; exact ⟨_, _, rfl, h, h2⟩
theorem r_len : CallR X (.builtin "len") (iRA X.K oLen) := by
  rintro pins s σ H xs us Q I r ⟨φ, mh, as, ra, hh, p⟩
  unfold oLen at p
  split at p
  · rename_i a
    obtain ⟨v, rfl, rv⟩ := ra.one
    cases h : lenD mh a with
    | none => rw [h] at p; exact p.elim
    | some n =>
      rw [h] at p
      have q := postO_val hh p (.int _)
      cases rv with
      | str z =>
        simp only [lenD] at h
        split at h
        · rename_i hl
          cases h
          exact call_len_str pins s σ H _ us Q I r ⟨z, rfl, hl, q⟩
        · cases h
      | tup hs rs =>
        cases h
        rw [rs.length] at q
        exact call_len_seq pins s σ H _ us Q I r ⟨_, _, rfl, .inr hs, q⟩
      | rol hs rs =>
        cases h
        rw [rs.length] at q
        exact call_len_seq pins s σ H _ us Q I r ⟨_, _, rfl, .inl hs.seq, q⟩
      | ref hn =>
        simp only [lenD] at h
        split at h
        · rename_i xs hx
          cases h
          obtain ⟨vs, e, rs⟩ := hh.lst hn hx
          rw [rs.length] at q
          exact call_len_seq pins s σ H _ us Q I r ⟨_, _, rfl, .inl (SqL.of e), q⟩
        · rename_i kds hx
          cases h
          obtain ⟨kvs, e, rk⟩ := hh.ob _ _ _ hn hx
          have hl := congrArg List.length rk.1
          rw [List.length_map, List.length_map] at hl
          rw [hl] at q
          exact call_lenD pins s σ H _ us Q I r ⟨_, kvs, rfl, e, q⟩
        · cases h
      | _ => cases h
  · exact p.elim
def oInt : OpA := fun as mh => match as with
  | [.int i] => some (.int i, mh)
  | [.bl k] => some (.int (if k then 1 else 0), mh)
  | _ => none
theorem r_intc : CallR X (.type "int") (iRA X.K oInt) := by
  rintro pins s σ H xs us Q I r ⟨φ, mh, as, ra, hh, p⟩
  unfold oInt at p
  split at p
  · obtain ⟨v, rfl, rv⟩ := ra.one
    cases rv
    exact call_int1 pins s σ H _ us Q I r (.inl ⟨_, rfl, postO_val hh p (.int _)⟩)
  · obtain ⟨v, rfl, rv⟩ := ra.one
    cases rv
    exact call_int1 pins s σ H _ us Q I r (.inr ⟨_, rfl, postO_val hh p (.int _)⟩)
  · exact p.elim
def oStr : OpA := fun as mh => match as with
  | [.int i] => if i.natAbs.log2 < 1920 then some (.str (toString i : String), mh) else none
  | _ => none
theorem r_strc : CallR X (.type "str") (iRA X.K oStr) := by
  rintro pins s σ H xs us Q I r ⟨φ, mh, as, ra, hh, p⟩
  unfold oStr at p
  split at p
  · obtain ⟨v, rfl, rv⟩ := ra.one
    cases rv
    split at p
    · rename_i hl
      exact call_str_int pins s σ H _ us Q I r ⟨_, rfl, hl, postO_val hh p (.str _)⟩
    · exact p.elim
  · exact p.elim
def oAbs : OpA := fun as mh => match as with
  | [.int i] => some (.int (if i < 0 then -i else i), mh)
  | _ => none
theorem r_abs : CallR X (.builtin "abs") (iRA X.K oAbs) := by
  rintro pins s σ H xs us Q I r ⟨φ, mh, as, ra, hh, p⟩
  unfold oAbs at p
  split at p
  · obtain ⟨v, rfl, rv⟩ := ra.one
    cases rv
    exact call_abs pins s σ H _ us Q I r ⟨_, rfl, postO_val hh p (.int _)⟩
  · exact p.elim
def oTuple : OpA := fun as mh => match as with
  | [a] => (itemsD mh a).map fun xs => (.tup xs, mh)
  | _ => none
theorem r_tuple : CallR X (.type "tuple") (iRA X.K oTuple) := by
  rintro pins s σ H xs us Q I r ⟨φ, mh, as, ra, hh, p⟩
  unfold oTuple at p
  split at p
  · obtain ⟨v, rfl, rv⟩ := ra.one
    rename_i a
    cases h : itemsD mh a with
    | none => rw [h] at p; exact p.elim
    | some ys =>
      rw [h] at p
      obtain ⟨pp, vs, e, hs, rs⟩ := seq_of hh rv h
      subst e
      rcases hs with hs | hs
      · exact call_tuple_of pins s σ H _ us Q I r ⟨pp, vs, rfl, .inl ⟨hs, fun l hl => postO_tup hh p rs hl⟩⟩
      · exact call_tuple_of pins s σ H _ us Q I r ⟨pp, vs, rfl, .inr ⟨hs, postO_val hh p (.tup hs rs)⟩⟩
  · exact p.elim
def oList : OpA := fun as mh => match as with
  | [a] => (itemsD mh a).map fun xs => (.ref mh.length, mh ++ [.lst xs])
  | _ => none
theorem r_list : CallR X (.type "list") (iRA X.K oList) := by
  rintro pins s σ H xs us Q I r ⟨φ, mh, as, ra, hh, p⟩
  unfold oList at p
  split at p
  · obtain ⟨v, rfl, rv⟩ := ra.one
    rename_i a
    cases h : itemsD mh a with
    | none => rw [h] at p; exact p.elim
    | some ys =>
      rw [h] at p
      obtain ⟨pp, vs, e, hs, rs⟩ := seq_of hh rv h
      subst e
      exact call_list_of pins s σ H _ us Q I r ⟨pp, vs, rfl, hs, fun l hl => postO_new hh p rs hl⟩
  · exact p.elim
/-- isinstance(x, T), T a built-in type -/
def tyD (mh : MH) : D → Option String
  | .non => some "NoneType"
  | .bl _ => some "bool"
  | .int _ => some "int"
  | .str _ => some "str"
  | .tup _ => some "tuple"
  | .rol _ => some "list"
  | .ref n => match mh[n]? with
    | some (.lst _) => some "list"
    | some (.dk _) => some "dict"
    | some (.dt _) => some "dict"
    | none => none
  | .ty _ => none
def oIsi : OpA := fun as mh => match as with
  | [a, .ty n] => match tyD mh a with
    | some t => (kitB t n).map fun b => (.bl b, mh)
    | none => none
  | _ => none
end
end Det
/-! Det, part F: isinstance, items, slices, displays, what is walked, methods of lists, stores. -/
namespace Det
open PySem PySem.Spec PyProof.Rows L2

section
variable {X : Cx} {W : WX}
theorem tyX_of {φ : List Addr} {H : Hp} {mh : MH} {d : D} {v : V} {t : String} (hh : HR X.K φ mh H) (r : RelD X.K φ H d v) (h : tyD mh d = some t) : TyX X.K H v (.type t) := by
  cases r with
  | non => cases h; exact .base .non
  | bl b => cases h; exact .base (.bl b)
  | int i => cases h; exact .base (.int i)
  | str x => cases h; exact .base (.str x)
  | tup hs rs =>
    cases h
    rcases hs with (e | ⟨o, e⟩) | ⟨o, its, n, e, c, _⟩
    · exact .base (.tup e)
    · exact .fTuple e
    · exact .kTuple e c
  | rol hs rs =>
    cases h
    rcases hs with ⟨o, e⟩ | ⟨o, its, n, e, c, _⟩
    · exact .base (.frz e)
    · exact .kList e c
  | ref hn =>
    simp only [tyD] at h
    split at h
    · rename_i xs hx
      cases h
      obtain ⟨vs, e, _⟩ := hh.lst hn hx
      exact .base (.lst e)
    · rename_i kds hx
      cases h
      obtain ⟨kvs, e, _⟩ := hh.ob _ _ _ hn hx
      exact .base (.dK e)
    · rename_i kds hx
      cases h
      obtain ⟨kvs, e, _⟩ := hh.ob _ _ _ hn hx
      exact .base (.dT e)
    · cases h
  | ty n => cases h
theorem r_isi : CallR X (.builtin "isinstance") (iRA X.K oIsi) := by
  rintro pins s σ H xs us Q I r ⟨φ, mh, as, ra, hh, p⟩
  unfold oIsi at p
  split at p
  · rename_i a n
    obtain ⟨v, w, rfl, rv, rw'⟩ := ra.two
    cases rw'
    cases h : tyD mh a with
    | none => rw [h] at p; exact p.elim
    | some t =>
      rw [h] at p
      cases hk : kitB t n with
      | none => simp only [hk] at p; exact p.elim
      | some b =>
        simp only [hk] at p
        exact call_isi pins s σ H _ us Q I r ⟨v, .ty n, .type t, .type n, b, rfl, .ty n, tyX_of hh rv h, kit_ty hk, postO_val hh p (.bl b)⟩
  · exact p.elim

/-! ### calls of built-ins -/
theorem se_blt {id : String} {o : OpA} {x : Str} {p pos : Pos} {e : Expr} {es : List Expr} {fa : MA} (hc : CallR X (.builtin id) (iRA X.K o)) (hm : X.mg x = none) (ha : SA X W (e :: es) fa) (hg : Gl X x := by rfl) (hv : bootBuiltins x = some (.builtin id) := by decide +kernel) (hn : x ≠ "__name__" := by decide)
    (hdb : (x == ("__debug__" : Str)) = false := by decide) (he : starEach (e :: es) X.env = (false, eval e X.env) :: starEach es X.env := by rfl) (hpl : (backTo pos (starEach es X.env)).any (·.1) = false := by rfl) :
    SE X W (.Call (.Name x p) (e :: es) [] pos) (ap o fa) := (pe_callB hc hg hm hv ha hn hdb he hpl).imp (impA fun _ _ _ h => h)
theorem se_typ {id : String} {o : OpA} {x : Str} {p pos : Pos} {e : Expr} {es : List Expr} {fa : MA} (hc : CallR X (.type id) (iRA X.K o)) (hm : X.mg x = none) (ha : SA X W (e :: es) fa) (hg : Gl X x := by rfl) (hv : bootBuiltins x = some (.type id) := by decide +kernel) (hn : x ≠ "__name__" := by decide)
    (hdb : (x == ("__debug__" : Str)) = false := by decide) (he : starEach (e :: es) X.env = (false, eval e X.env) :: starEach es X.env := by rfl) (hpl : (backTo pos (starEach es X.env)).any (·.1) = false := by rfl) :
    SE X W (.Call (.Name x p) (e :: es) [] pos) (ap o fa) := (pe_callTy hc hg hm hv ha hn hdb he hpl).imp (impA fun _ _ _ h => h)
/-- a built-in type's name as a value -/
theorem s_ty {n : String} {x : Str} {pos : Pos} (hm : X.mg x = none) (hg : Gl X x := by rfl) (hv : bootBuiltins x = some (.type n) := by decide +kernel) (hn : x ≠ "__name__" := by decide) (hd : (x == ("__debug__" : Str)) = false := by decide) : SE X W (.Name x pos) (kn (.ty n)) :=
  skn (v := .ty n) (pe_bltn hg hm hv rfl hn hd) fun _ _ => .ty n
/-- a module's name that holds a text, an int -/
theorem s_gstr {z : Str} {t : Tok} {x : Str} {pos : Pos} (hm : X.mg x = some (.str z t)) (hg : Gl X x := by rfl) (hd : (x == ("__debug__" : Str)) = false := by decide) : SE X W (.Name x pos) (kn (.str z)) :=
  skn (v := .str z) (pe_glob hg hm ⟨t, rfl⟩ hd) fun _ _ => .str z
theorem s_gint {z : Int} {t : Tok} {x : Str} {pos : Pos} (hm : X.mg x = some (.int z t)) (hg : Gl X x := by rfl) (hd : (x == ("__debug__" : Str)) = false := by decide) : SE X W (.Name x pos) (kn (.int z)) :=
  skn (v := .int z) (pe_glob hg hm ⟨t, rfl⟩ hd) fun _ _ => .int z

/-! ### items and slices -/
def oIx : Op2 := fun a b mh => match a, b with
  | .str z, .int i => if z.length ≤ sizeLine then (atI z.cps.toList i).map fun c => (.str ⟨#[c]⟩, mh) else none
  | a, .int i => match itemsD mh a with
    | some xs => (atI xs i).map fun d => (d, mh)
    | none => none
  | _, _ => none
theorem atI_rel {K : PySem.W.Frag} {φ : List Addr} {H : Hp} {ds : List D} {vs : List V} {i : Int} {d : D} (r : RelDs K φ H ds vs) (h : atI ds i = some d) : ∃ v, atI vs i = some v ∧ RelD K φ H d v := by
  unfold atI at h ⊢
  rw [← r.length]
  cases hx : ixN ds.length i with
  | none => rw [hx] at h; cases h
  | some j =>
    rw [hx] at h
    exact r.get h
theorem r_ix : IxR X (iR2 X.K oIx) := by
  rintro ve se pins s σ H x y v u Q I rx ry ⟨φ, mh, a, b, ra, rb, hh, p⟩ hsub
  unfold oIx at p
  split at p
  · rename_i z i
    cases ra; cases rb
    split at p
    · rename_i hl
      cases h : atI z.cps.toList i with
      | none => rw [h] at p; exact p.elim
      | some c =>
        rw [h] at p
        exact ix_str ve se pins s σ H _ _ v u Q I rx ry ⟨z, i, c, rfl, rfl, hl, h, postO_val hh p (.str _)⟩ hsub
    · exact p.elim
  · rename_i i _
    cases rb
    split at p
    case h_2 => exact p.elim
    case h_1 xs h =>
      cases h2 : atI xs i with
      | none => simp only [h2] at p; exact p.elim
      | some d =>
        simp only [h2] at p
        obtain ⟨pp, vs, e, hs, rs⟩ := seq_of hh ra h
        subst e
        obtain ⟨w, h3, rw'⟩ := atI_rel rs h2
        rcases hs with hs | hs
        · exact ix_list ve se pins s σ H _ _ v u Q I rx ry ⟨pp, vs, i, w, rfl, rfl, hs, h3, postO_val hh p rw'⟩ hsub
        · exact ix_tup ve se pins s σ H _ _ v u Q I rx ry ⟨pp, vs, i, w, rfl, rfl, hs, h3, postO_val hh p rw'⟩ hsub
  · exact p.elim
theorem se_ix {a b : Expr} {f g : ME} {pos : Pos} (ha : SE X W a f) (hb : SE X W b g) (hs : PlainIx b := by exact fun _ _ => rfl) : SE X W (.Subscript a b pos) (bi oIx f g) := (pe_ix r_ix ha hb hs).imp (imp2 fun _ _ _ _ h => h)
/-- an end of a slice -/
abbrev MO := Nv → MH → Res (Option Int)
def RO : Rl (Option Int) (Option Int) := fun _ _ a b => a = b
def iO (K : PySem.W.Frag) (mg : MGl) (W : WX) (f : MO) : TO := fun σ H Q => ∃ φ env mh, RelE K φ H env σ ∧ HR K φ mh H ∧ post K mg W RO σ φ H (f env mh) Q
abbrev SO (X : Cx) (W : WX) (e : Option Expr) (f : MO) : Prop := PO X e (iO X.K X.mg W f)
def onone : MO := fun _ mh => .ok none mh
def osome (f : ME) : MO := fun env mh => (f env mh).bind fun a mh1 => match a with | .int i => .ok (some i) mh1 | _ => .no
theorem _root_.L2.PO.imp {e : Option Expr} {t t' : TO} (h : PO X e t) (w : ∀ σ H Q, t' σ H Q → t σ H Q) : PO X e t' := ⟨fun pins s σ H Q I q => h.run pins s σ H Q I (w σ H Q q)⟩
theorem so_none : SO X W none onone := po_none.imp (by
  rintro σ H Q ⟨φ, env, mh, re, hh, p⟩
  exact p φ none H (Px.refl φ) (Kp.refl H) hh rfl)
theorem so_some {e : Expr} {f : ME} (h : SE X W e f) : SO X W (some e) (osome f) := (po_some h).imp (by
  rintro σ H Q ⟨φ, env, mh, re, hh, p⟩
  refine ⟨φ, env, mh, re, hh, post_mono (Px.refl φ) (Kp.refl H) (post_bind (R1 := RelD X.K) p) ?_⟩
  rintro x H1 ⟨φ1, d, mh1, p1, k1, h1, r1, q⟩
  cases r1 with
  | int i => exact ⟨i, rfl, q φ1 (some i) H1 (Px.refl φ1) (Kp.refl H1) h1 rfl⟩
  | _ => exact q.elim)
def cutD (xs : List D) (lo hi : Option Int) : List D := (xs.drop (HT.sIx xs.length 0 lo)).take (HT.sIx xs.length xs.length hi - HT.sIx xs.length 0 lo)
theorem cut_rel {K : PySem.W.Frag} {φ : List Addr} {H : Hp} {ds : List D} {vs : List V} {lo hi : Option Int} (r : RelDs K φ H ds vs) : RelDs K φ H (cutD ds lo hi) (cutV vs lo hi) := by
  unfold cutD cutV
  rw [r.length]
  exact (r.drop _).take _
def oSl (a : D) (lo hi : Option Int) (mh : MH) : Option (D × MH) := match a with
  | .str z => if z.length ≤ sizeLine then some (.str (cutS z lo hi), mh) else none
  | .tup xs => some (.tup (cutD xs lo hi), mh)
  | a => match itemsD mh a with
    | some xs => some (.ref mh.length, mh ++ [.lst (cutD xs lo hi)])
    | none => none
def sl (f : ME) (l h : MO) : ME := fun env mh => (f env mh).bind fun a mh1 => (l env mh1).bind fun lo mh2 => (h env mh2).bind fun hi mh3 => .ofO (oSl a lo hi mh3)
def rSlD (K : PySem.W.Frag) : V → Option Int → Option Int → Hp → VK → Prop := fun x lo hi H Q => ∃ φ mh a, RelD K φ H a x ∧ HR K φ mh H ∧ postO K (RelD K) φ H (oSl a lo hi mh) Q
theorem r_sl : SlR X (rSlD X.K) := by
  rintro pins s σ H x v vl vu lo hi sl Q I rx hs pl pu ⟨φ, mh, a, ra, hh, p⟩
  unfold oSl at p
  split at p
  · rename_i z
    cases ra
    split at p
    · rename_i hl
      exact sl_str pins s σ H _ v vl vu lo hi sl Q I rx hs pl pu ⟨z, rfl, hl, postO_val hh p (.str _)⟩
    · exact p.elim
  · cases ra with
    | tup ht rs =>
      rename_i xs a vs
      refine sl_tupA pins s σ H _ v vl vu lo hi sl Q I rx hs pl pu ⟨_, _, rfl, ht, fun hw => ?_, fun _ q hq => postO_tup hh p (cut_rel rs) hq⟩
      have e : cutD xs lo hi = xs := by
        unfold cutD
        rw [rs.length, hw.1, hw.2, ← rs.length]
        simp
      rw [e] at p
      exact postO_val hh p (.tup ht rs)
  · split at p
    · rename_i xs h
      obtain ⟨pp, vs, e, hq, rs⟩ := seq_of hh ra h
      subst e
      rcases hq with hq | hq
      · exact sl_list pins s σ H _ v vl vu lo hi sl Q I rx hs pl pu ⟨pp, vs, rfl, hq, fun q hq => postO_new hh p (cut_rel rs) hq⟩
      · cases ra with
        | tup ht rs2 =>
          rename_i hn
          cases h
          exact (hn _ rfl).elim
        | rol hr rs2 => exact sl_list pins s σ H _ v vl vu lo hi sl Q I rx hs pl pu ⟨_, _, rfl, hr.seq, fun q hq => by cases h; exact postO_new hh p (cut_rel rs2) hq⟩
        | ref hn =>
          simp only [itemsD] at h
          split at h
          · rename_i ys hy
            cases h
            obtain ⟨ws, e2, rs2⟩ := hh.lst hn hy
            exact sl_list pins s σ H _ v vl vu lo hi sl Q I rx hs pl pu ⟨_, _, rfl, SqL.of e2, fun q hq => postO_new hh p (cut_rel rs2) hq⟩
          · cases h
    · exact p.elim
theorem se_sl {e : Expr} {lo hi : Option Expr} {f : ME} {l h : MO} {pos p2 : Pos} (he : SE X W e f) (hl : SO X W lo l) (hu : SO X W hi h) : SE X W (.Subscript e (.Slice lo hi none p2) pos) (sl f l h) := (pe_slice r_sl he hl hu).imp (by
  rintro σ H Q ⟨φ, env, mh, re, hh, p⟩
  refine ⟨φ, env, mh, re, hh, post_mono (Px.refl φ) (Kp.refl H) (post_bind (R1 := RelD X.K) p) ?_⟩
  rintro x H1 ⟨φ1, d, mh1, p1, k1, h1, r1, q⟩
  refine ⟨φ1, env, mh1, re.mono p1 k1, h1, post_mono (Px.refl φ1) (Kp.refl H1) (post_bind (R1 := RO) q) ?_⟩
  rintro lo2 H2 ⟨φ2, d2, mh2, p2, k2, h2, r2, q2⟩
  have e2 : d2 = lo2 := r2
  subst e2
  refine ⟨φ2, env, mh2, (re.mono p1 k1).mono p2 k2, h2, post_mono (Px.refl φ2) (Kp.refl H2) (post_bind (R1 := RO) q2) ?_⟩
  rintro hi2 H3 ⟨φ3, d3, mh3, p3, k3, h3, r3, q3⟩
  have e3 : d3 = hi2 := r3
  subst e3
  exact ⟨φ3, mh3, d, (r1.mono p2 k2).mono p3 k3, h3, post_ofO q3⟩)

/-! ### displays -/
def dtup (f : MA) : ME := fun env mh => (f env mh).bind fun ds mh1 => if ds.length ≤ sizeLine then .ok (.tup ds) mh1 else .no
def dlst (f : MA) : ME := fun env mh => (f env mh).bind fun ds mh1 => if ds.length ≤ sizeLine then .ok (.ref mh1.length) (mh1 ++ [.lst ds]) else .no
theorem se_tup {es : List Expr} {f : MA} {pos : Pos} {x1 : Nat} (h : SA X W es f) : SE X W (.Tuple es x1 pos) (dtup f) := (pe_tup h).imp (by
  rintro σ H Q ⟨φ, env, mh, re, hh, p⟩
  refine ⟨φ, env, mh, re, hh, post_mono (Px.refl φ) (Kp.refl H) (post_bind (R1 := RelDs X.K) p) ?_⟩
  rintro vs H1 ⟨φ1, ds, mh1, p1, k1, h1, r1, q⟩
  by_cases hl : ds.length ≤ sizeLine
  · rw [if_pos hl] at q
    exact ⟨by rw [← r1.length]; exact hl, fun pp hp => q φ1 (.ref pp) _ (Px.refl φ1) (Kp.new hp) (h1.grow hp) (.tup (SqT.of upd_same) (r1.mono (Px.refl φ1) (Kp.new hp)))⟩
  · rw [if_neg hl] at q; exact q.elim)
theorem se_lst {es : List Expr} {f : MA} {pos : Pos} (h : SA X W es f) : SE X W (.List es pos) (dlst f) := (pe_lst h).imp (by
  rintro σ H Q ⟨φ, env, mh, re, hh, p⟩
  refine ⟨φ, env, mh, re, hh, post_mono (Px.refl φ) (Kp.refl H) (post_bind (R1 := RelDs X.K) p) ?_⟩
  rintro vs H1 ⟨φ1, ds, mh1, p1, k1, h1, r1, q⟩
  by_cases hl : ds.length ≤ sizeLine
  · rw [if_pos hl] at q
    exact ⟨by rw [← r1.length]; exact hl, fun pp hp => q (φ1 ++ [pp]) (.ref pp) _ px1 (Kp.new hp) (h1.new hp r1) (.ref h1.last)⟩
  · rw [if_neg hl] at q; exact q.elim)

/-! ### methods of lists -/
def app (fo f : ME) : ME := fun env mh => (fo env mh).bind fun o mh1 => match o with
  | .ref n => (match mh1[n]? with
    | some (.lst _) => (f env mh1).bind fun d mh2 => (match mh2[n]? with
      | some (.lst xs) => if xs.length < sizeLine then .ok .non (mh2.set n (.lst (xs ++ [d]))) else .no
      | _ => .no)
    | _ => .no)
  | _ => .no
theorem se_app {o e : Expr} {fo f : ME} {apos cpos : Pos} (ho : SE X W o fo) (he : SE X W e f) (hbase : attributeBase o "append" X.env (eval o X.env) = eval o X.env := by rfl) (hline : (apos.endLine == cpos.line) = true := by rfl)
    (hfew : ((backTo cpos (starEach [e] X.env)).all (fun x => !x.1) && (backToKw cpos (keywordEach [] X.env)).all (fun x => x.1.isSome) && decide (([e] : List Expr).length + ([] : List Keyword).length + (if ([] : List Keyword).isEmpty then 0 else 1) < 30)) = true := by rfl)
    (hst : starEach (e :: []) X.env = (false, eval e X.env) :: starEach [] X.env := by rfl) (hplain : (backTo cpos (starEach [] X.env)).any (·.1) = false := by rfl) : SE X W (.Call (.Attribute o "append" apos) [e] [] cpos) (app fo f) :=
  (pe_bm PySem.F.plainAttrs_list PySem.F.slot_list_append PySem.F.type_list_append mt_append ho (pa_cons he pa_nil hst) hbase hfew hline hst hplain).imp (by
  rintro σ H Q ⟨φ, env, mh, re, hh, p⟩
  refine ⟨φ, env, mh, re, hh, post_mono (Px.refl φ) (Kp.refl H) (post_bind (R1 := RelD X.K) p) ?_⟩
  rintro x H1 ⟨φ1, d, mh1, p1, k1, h1, r1, q⟩
  cases r1 with
  | ref hn =>
    rename_i n a
    try simp only at q
    split at q
    · rename_i xs0 hx0
      obtain ⟨vs0, e0, _⟩ := h1.lst hn hx0
      refine ⟨.inl ⟨rfl, vs0, SqL.of e0⟩, φ1, env, mh1, re.mono p1 k1, h1, post_mono (Px.refl φ1) (Kp.refl H1) (post_bind (R1 := RelD X.K) q) ?_⟩
      rintro y H2 ⟨φ2, d2, mh2, p2, k2, h2, r2, q2⟩
      try simp only at q2
      split at q2
      · rename_i xs hx
        split at q2
        · rename_i hl
          obtain ⟨vs, e1, rs⟩ := h2.lst (p2.get hn) hx
          exact ⟨a, vs, y, rfl, rfl, e1, by rw [← rs.length]; exact hl, q2 φ2 .non _ (Px.refl φ2) (Kp.mut e1 fun z => z) (h2.setL (p2.get hn) e1 (rs.append (.cons r2 .nil))) .non⟩
        · exact q2.elim
      · exact q2.elim
    · exact q.elim
  | _ => exact q.elim)
def popAt (fo f : ME) : ME := fun env mh => (fo env mh).bind fun o mh1 => match o with
  | .ref n => (match mh1[n]? with
    | some (.lst _) => (f env mh1).bind fun d mh2 => (match d, mh2[n]? with
      | .int i, some (.lst xs) => if -(2 ^ 63) ≤ i ∧ i < 2 ^ 63 then (match seqIndex? i xs.length with
        | some k => (match xs[k]? with
          | some y => .ok y (mh2.set n (.lst (xs.eraseIdx k)))
          | none => .no)
        | none => .no) else .no
      | _, _ => .no)
    | _ => .no)
  | _ => .no
theorem se_popAt {o e : Expr} {fo f : ME} {apos cpos : Pos} (ho : SE X W o fo) (he : SE X W e f) (hbase : attributeBase o "pop" X.env (eval o X.env) = eval o X.env := by rfl) (hline : (apos.endLine == cpos.line) = true := by rfl)
    (hfew : ((backTo cpos (starEach [e] X.env)).all (fun x => !x.1) && (backToKw cpos (keywordEach [] X.env)).all (fun x => x.1.isSome) && decide (([e] : List Expr).length + ([] : List Keyword).length + (if ([] : List Keyword).isEmpty then 0 else 1) < 30)) = true := by rfl)
    (hst : starEach (e :: []) X.env = (false, eval e X.env) :: starEach [] X.env := by rfl) (hplain : (backTo cpos (starEach [] X.env)).any (·.1) = false := by rfl) : SE X W (.Call (.Attribute o "pop" apos) [e] [] cpos) (popAt fo f) :=
  (pe_bm PySem.F.plainAttrs_list PySem.F.slot_list_pop PySem.F.type_list_pop mt_popAt ho (pa_cons he pa_nil hst) hbase hfew hline hst hplain).imp (by
  rintro σ H Q ⟨φ, env, mh, re, hh, p⟩
  refine ⟨φ, env, mh, re, hh, post_mono (Px.refl φ) (Kp.refl H) (post_bind (R1 := RelD X.K) p) ?_⟩
  rintro x H1 ⟨φ1, d, mh1, p1, k1, h1, r1, q⟩
  cases r1 with
  | ref hn =>
    rename_i n a
    try simp only at q
    split at q
    · rename_i xs0 hx0
      obtain ⟨vs0, e0, _⟩ := h1.lst hn hx0
      refine ⟨.inl ⟨rfl, vs0, SqL.of e0⟩, φ1, env, mh1, re.mono p1 k1, h1, post_mono (Px.refl φ1) (Kp.refl H1) (post_bind (R1 := RelD X.K) q) ?_⟩
      rintro y H2 ⟨φ2, d2, mh2, p2, k2, h2, r2, q2⟩
      try simp only at q2
      split at q2
      · rename_i i xs hx
        cases r2
        split at q2
        · rename_i hl
          split at q2
          · rename_i k hk
            split at q2
            · rename_i y hy
              obtain ⟨vs, e1, rs⟩ := h2.lst (p2.get hn) hx
              obtain ⟨w, hw, rw'⟩ := rs.get hy
              have km : Kp H2 (upd H2 a (.lst (vs.eraseIdx k))) := Kp.mut e1 fun z => z
              exact ⟨a, vs, i, k, w, rfl, rfl, e1, hl.1, hl.2, by rw [← rs.length]; exact hk, hw, q2 φ2 w _ (Px.refl φ2) km (h2.setL (p2.get hn) e1 (rs.erase k)) (rw'.mono (Px.refl φ2) km)⟩
            · exact q2.elim
          · exact q2.elim
        · exact q2.elim
      · exact q2.elim
    · exact q.elim
  | _ => exact q.elim)
def pop0 (fo : ME) : ME := fun env mh => (fo env mh).bind fun o mh1 => match o with
  | .ref n => (match mh1[n]? with
    | some (.lst xs) => (match xs[xs.length - 1]? with
      | some y => .ok y (mh1.set n (.lst xs.dropLast))
      | none => .no)
    | _ => .no)
  | _ => .no
theorem RelDs.dropLast {K : PySem.W.Frag} {φ : List Addr} {H : Hp} {ds : List D} {vs : List V} (r : RelDs K φ H ds vs) : RelDs K φ H ds.dropLast vs.dropLast := by
  rw [List.dropLast_eq_take, List.dropLast_eq_take, r.length]
  exact r.take _
theorem se_pop0 {o : Expr} {fo : ME} {apos cpos : Pos} (ho : SE X W o fo) (hbase : attributeBase o "pop" X.env (eval o X.env) = eval o X.env := by rfl) (hline : (apos.endLine == cpos.line) = true := by rfl) :
    SE X W (.Call (.Attribute o "pop" apos) [] [] cpos) (pop0 fo) :=
  (pe_bm0 PySem.F.plainAttrs_list PySem.F.slot_list_pop PySem.F.type_list_pop mt_pop ho hbase hline).imp (by
  rintro σ H Q ⟨φ, env, mh, re, hh, p⟩
  refine ⟨φ, env, mh, re, hh, post_mono (Px.refl φ) (Kp.refl H) (post_bind (R1 := RelD X.K) p) ?_⟩
  rintro x H1 ⟨φ1, d, mh1, p1, k1, h1, r1, q⟩
  cases r1 with
  | ref hn =>
    rename_i n a
    try simp only at q
    split at q
    · rename_i xs hx
      split at q
      · rename_i y hy
        obtain ⟨vs, e1, rs⟩ := h1.lst hn hx
        obtain ⟨w, hw, rw'⟩ := rs.get hy
        have km : Kp H1 (upd H1 a (.lst vs.dropLast)) := Kp.mut e1 fun z => z
        exact ⟨.inl ⟨rfl, vs, SqL.of e1⟩, a, vs, w, rfl, rfl, e1, by rw [← rs.length]; exact hw, q φ1 w _ (Px.refl φ1) km (h1.setL hn e1 rs.dropLast) (rw'.mono (Px.refl φ1) km)⟩
      · exact q.elim
    · exact q.elim
  | _ => exact q.elim)
/-- o[i] = e, o a list -/
def setIx (fo fi f : ME) : MS := fun env mh => lift (f env mh) env fun v mh1 => lift (fo env mh1) env fun o mh2 => lift (fi env mh2) env fun i mh3 => match o, i with
  | .ref n, .int k => (match mh3[n]? with
    | some (.lst xs) => (match ixN xs.length k with
      | some j => .nx env (mh3.set n (.lst (xs.set j v)))
      | none => .no)
    | _ => .no)
  | _, _ => .no
theorem ss_setIx {o i e : Expr} {fo fi f : ME} {pos pos' : Pos} (he : SE X W e f) (ho : SE X W o fo) (hi : SE X W i fi) (hs : swapsWithSole [.Subscript o i pos'] e pos.line X.env = pure false := by rfl) (hw : swappedStores [.Subscript o i pos'] e X.env = pure none := by rfl)
    (h1 : (assignEach [.Subscript o i pos'] X.env).map (·.2) = [assign (.Subscript o i pos') X.env] := by rfl)
    (ha : ∀ v, assign (.Subscript o i pos') X.env v = (do
      let ov ← holding [v] (eval o X.env)
      let iv ← holding [v, ov] (eval i X.env)
      standAt pos'
      holding [v, ov, iv] (setItem ov iv v)
      release [v, ov, iv] []) := by intro _; rfl) : SS X W (.Assign [.Subscript o i pos'] e pos) (setIx fo fi f) := (ps_asg he (pg_sub ho hi set_list ha) hs hw h1).imp (by
  rintro D σ H ⟨φ, env, mh, re, hh, p⟩
  refine ⟨φ, env, mh, re, hh, post_mono (Px.refl φ) (Kp.refl H) (post_lift (R := RelD X.K) re p) ?_⟩
  rintro x H1 ⟨φ1, v, mh1, p1, k1, h1, r1, q⟩
  have re1 := re.mono p1 k1
  refine ⟨φ1, env, mh1, re1, h1, post_mono (Px.refl φ1) (Kp.refl H1) (post_lift (R := RelD X.K) re1 q) ?_⟩
  rintro y H2 ⟨φ2, o, mh2, p2, k2, h2, r2, q2⟩
  have re2 := re1.mono p2 k2
  refine ⟨φ2, env, mh2, re2, h2, post_mono (Px.refl φ2) (Kp.refl H2) (post_lift (R := RelD X.K) re2 q2) ?_⟩
  rintro z H3 ⟨φ3, i, mh3, p3, k3, h3, r3, q3⟩
  have re3 := re2.mono p3 k3
  try simp only at q3
  split at q3
  · rename_i n k
    cases r3
    cases r2 with
    | ref hn =>
      rename_i a
      split at q3
      · rename_i xs hx
        split at q3
        · rename_i j hj
          obtain ⟨vs, e1, rs⟩ := h3.lst (p3.get hn) hx
          exact ⟨a, vs, k, j, rfl, rfl, e1, by rw [← rs.length]; exact hj, q3 φ3 σ _ (Px.refl φ3) (Kp.mut e1 fun z => z) (h3.setL (p3.get hn) e1 (rs.set ((r1.mono p2 k2).mono p3 k3) j)) (re3.mono (Px.refl φ3) (Kp.mut e1 fun z => z))⟩
        · exact q3.elim
      · exact q3.elim
  · exact q3.elim)

end
end Det
/-! Det, part G: equality of values, what is walked, sorted. -/
namespace Det
open PySem PySem.Spec PyProof.Rows L2

mutual
def D.beq : D → D → Bool
  | .non, .non => true
  | .bl a, .bl b => a == b
  | .int a, .int b => a == b
  | .str a, .str b => a == b
  | .ty a, .ty b => a == b
  | .tup a, .tup b => D.beqs a b
  | .rol a, .rol b => D.beqs a b
  | .ref a, .ref b => a == b
  | _, _ => false
def D.beqs : List D → List D → Bool
  | [], [] => true
  | a :: as, b :: bs => D.beq a b && D.beqs as bs
  | _, _ => false
end
mutual
theorem D.beq_iff : ∀ a b : D, D.beq a b = true ↔ a = b
  | .non, b => by cases b <;> simp [D.beq]
  | .bl _, b => by cases b <;> simp [D.beq]
  | .int _, b => by cases b <;> simp [D.beq]
  | .str _, b => by cases b <;> simp [D.beq]
  | .ty _, b => by cases b <;> simp [D.beq]
  | .ref _, b => by cases b <;> simp [D.beq]
  | .tup xs, b => by
    cases b with
    | tup ys => rw [D.beq, D.beqs_iff xs ys]; simp
    | _ => simp [D.beq]
  | .rol xs, b => by
    cases b with
    | rol ys => rw [D.beq, D.beqs_iff xs ys]; simp
    | _ => simp [D.beq]
theorem D.beqs_iff : ∀ as bs : List D, D.beqs as bs = true ↔ as = bs
  | [], b => by cases b <;> simp [D.beqs]
  | a :: as, b => by
    cases b with
    | nil => simp [D.beqs]
    | cons b bs => rw [D.beqs, Bool.and_eq_true, D.beq_iff a b, D.beqs_iff as bs]; simp
end
instance : DecidableEq D := fun a b => decidable_of_iff _ (D.beq_iff a b)

/-! ### what is walked -/
def lstIs (n : Nat) (xs : List D) (mh : MH) : Bool := match mh[n]? with
  | some (.lst ys) => decide (ys = xs)
  | _ => false
def sigs (z : Str) : List D := z.cps.toList.map fun c => .str ⟨#[c]⟩
def itD (d : D) (mh : MH) : Option ItD := match d with
  | .tup xs => some ⟨xs, fun _ => true⟩
  | .rol xs => some ⟨xs, fun _ => true⟩
  | .str z => some ⟨sigs z, fun _ => true⟩
  | .ref n => match mh[n]? with
    | some (.lst xs) => some ⟨xs, lstIs n xs⟩
    | _ => none
  | _ => none
def iter (f : ME) : MI := fun env mh => (f env mh).bind fun d mh1 => match itD d mh1 with | some it => .ok it mh1 | none => .no
section
variable {X : Cx} {W : WX} {tg : Expr}
/-- a list, a tuple, a text that is walked, whichever it is -/
def iAny (K : PySem.W.Frag) (tl : TE) : TI := fun σ H R => tl σ H fun x H1 =>
  (∃ a, x = .ref a ∧ (∃ xs, SqL K H1 a xs) ∧ R (Itl K a) H1) ∨ (∃ a, x = .ref a ∧ (∃ xs, SqT K H1 a xs) ∧ R (Itt K a) H1) ∨ ∃ z, x = .str z ∧ R (Its z) H1
/-- a value as an expression's reading: for the rules of walked things -/
theorem pi_any {l : Expr} {tl : TE} (hl : PE X l tl) : PI X tg l (iAny X.K tl) := by
  refine ⟨fun pins s σ H R I h => ?_⟩
  -- one of the three rules serves, by the value that has come
  refine thn (hl.run pins s σ H _ I h) fun v s1 hv => ?_
  obtain ⟨x, H1, I1, rx, q⟩ := hv
  rcases q with ⟨a, ea, ⟨xs, hq⟩, q⟩ | ⟨a, ea, ⟨xs, hq⟩, q⟩ | ⟨z, ez, q⟩
  · subst ea
    cases rx
    obtain ⟨its, _, pl, _⟩ := I1.list hq
    refine wpAny_pyIter_list pl.isList ?_
    exact ⟨_, [_], _, _, H1, rfl, I1.kept (t' := s1.toks) (fun b o e => Heap.get?_push_of_some _ e), turn_list a _, ⟨_, Heap.get?_push_size _ rfl, rfl, rfl⟩, (fun b hb => by
      rw [List.mem_singleton.mp hb]; exact I1.fpOk (Nat.le_refl _) (I1.hok.fresh (Nat.le_refl _))), q⟩
  · subst ea
    cases rx
    obtain ⟨its, _, pt, _⟩ := I1.tuple hq
    refine wpAny_pyIter_tuple (show s1.heap.IsTuple a its.toArray from pt) ?_
    exact ⟨_, [_], _, _, H1, rfl, I1.kept (t' := s1.toks) (fun b o e => Heap.get?_push_of_some _ e), turn_tuple a _, ⟨_, Heap.get?_push_size _ rfl, rfl, rfl⟩, (fun b hb => by
      rw [List.mem_singleton.mp hb]; exact I1.fpOk (Nat.le_refl _) (I1.hok.fresh (Nat.le_refl _))), q⟩
  · subst ez
    obtain ⟨tk, ev⟩ := rx
    subst ev
    by_cases hz : z.cps.all (· < 128) = true
    · refine wpAny_pyIter_ascii hz (pi_one (tk := s1.toks) I1 _ (turn_str _ z tk "str_ascii_iterator" (Or.inl rfl)) ?_ q)
      exact ⟨_, Heap.get?_push_size _ rfl, rfl, rfl⟩
    · have hz' : z.cps.all (· < 128) = false := by simpa using hz
      refine wpAny_pyIter_wide hz' (pi_one (tk := s1.toks) I1 _ (turn_str _ z tk "str_iterator" (Or.inr rfl)) ?_ q)
      exact ⟨_, Heap.get?_push_size _ rfl, rfl, rfl⟩
/-- an It over what stands still: its items are vs -/
theorem itOk_seq {φ : List Addr} {H : Hp} {it : ItD} {J : It}
    (h : ∀ i φ' mh' H', Px φ φ' → Kp H H' → HR X.K φ' mh' H' → it.chk mh' = true → ∃ vs : List V, RelDs X.K φ' H' it.items vs ∧ (∀ v, vs[i]? = some v → J.go i H' ∧ ∀ x H2, J.yld i H' x H2 → H2 = H' ∧ x = v) ∧ (vs.length ≤ i → J.stop i H')) : ItOk X.K φ H it J := by
  intro i φ' mh' H' p k hh hc
  obtain ⟨us, r, h1, h2⟩ := h i φ' mh' H' p k hh hc
  refine ⟨fun d hd => ?_, fun hl => h2 (by rw [← r.length]; exact hl)⟩
  obtain ⟨v, hv, rv⟩ := r.get hd
  obtain ⟨g1, g2⟩ := h1 v hv
  refine ⟨g1, fun x H2 y => ?_⟩
  obtain ⟨e1, e2⟩ := g2 x H2 y
  subst e1; subst e2
  exact ⟨Kp.refl _, hh, rv⟩
theorem si_any {e : Expr} {f : ME} (he : SE X W e f) : SI X W tg e (iter f) := (pi_any he).imp (by
  rintro σ H R ⟨φ, env, mh, re, hh, p⟩
  refine ⟨φ, env, mh, re, hh, post_mono (Px.refl φ) (Kp.refl H) (post_bind (R1 := RelD X.K) p) ?_⟩
  rintro x H1 ⟨φ1, d, mh1, p1, k1, h1, r1, q⟩
  cases r1 with
  | str z =>
    refine .inr (.inr ⟨z, rfl, q φ1 (Its z) H1 (Px.refl φ1) (Kp.refl H1) h1 (itOk_seq fun i φ' mh' H' _ _ _ _ => ⟨z.cps.toList.map fun c => .str ⟨#[c]⟩, ?_, fun v hv => ?_, fun hl => ?_⟩)⟩)
    · have : ∀ l : List Nat, RelDs X.K φ' H' (l.map fun c => D.str ⟨#[c]⟩) (l.map fun c => V.str ⟨#[c]⟩) := by
        intro l
        induction l with
        | nil => exact .nil
        | cons c l ih => exact .cons (.str _) ih
      exact this _
    · rw [List.getElem?_map, Array.getElem?_toList] at hv
      cases hc : z.cps[i]? with
      | none => rw [hc] at hv; cases hv
      | some c =>
        rw [hc] at hv
        cases hv
        refine ⟨(Array.getElem?_eq_some_iff.mp hc).1, fun x H2 y => ?_⟩
        obtain ⟨e1, c', hc', e2⟩ := y
        rw [hc] at hc'
        cases hc'
        exact ⟨e1, e2⟩
    · show z.cps.size ≤ i
      simpa using hl
  | tup hs rs =>
    rename_i a xs vs
    refine .inr (.inl ⟨a, rfl, ⟨vs, hs⟩, q φ1 (Itt X.K a) H1 (Px.refl φ1) (Kp.refl H1) h1 (itOk_seq fun i φ' mh' H' p' k' _ _ => ?_)⟩)
    have hs' := k'.seqT hs
    refine ⟨vs, rs.mono p' k', fun v hv => ⟨⟨vs, v, hs', hv⟩, fun x H2 y => ⟨y.1, ?_⟩⟩, fun hl => ⟨vs, hs', hl⟩⟩
    have := y.2 vs hs'
    rw [hv] at this
    exact (Option.some.inj this).symm
  | rol hs rs =>
    rename_i a xs vs
    refine .inl ⟨a, rfl, ⟨vs, hs.seq⟩, q φ1 (Itl X.K a) H1 (Px.refl φ1) (Kp.refl H1) h1 (itOk_seq fun i φ' mh' H' p' k' _ _ => ?_)⟩
    have hs' := (k'.roL hs).seq
    refine ⟨vs, rs.mono p' k', fun v hv => ⟨⟨vs, v, hs', hv⟩, fun x H2 y => ⟨y.1, ?_⟩⟩, fun hl => ⟨vs, hs', hl⟩⟩
    have := y.2 vs hs'
    rw [hv] at this
    exact (Option.some.inj this).symm
  | ref hn =>
    rename_i n a
    try simp only [itD] at q
    split at q
    · rename_i it hit
      split at hit
      · rename_i xs hx
        cases hit
        obtain ⟨vs, e1, rs⟩ := h1.lst hn hx
        refine .inl ⟨a, rfl, ⟨vs, SqL.of e1⟩, q φ1 (Itl X.K a) H1 (Px.refl φ1) (Kp.refl H1) h1 (itOk_seq fun i φ' mh' H' p' k' hh' hc => ?_)⟩
        have hc' : lstIs n xs mh' = true := hc
        unfold lstIs at hc'
        split at hc'
        · rename_i ys hy
          have ey : ys = xs := of_decide_eq_true hc'
          subst ey
          obtain ⟨ws, e2, rs2⟩ := hh'.lst (p'.get hn) hy
          have hs' : SqL X.K H' a ws := SqL.of e2
          refine ⟨ws, rs2, fun v hv => ⟨⟨ws, v, hs', hv⟩, fun x H2 y => ⟨y.1, ?_⟩⟩, fun hl => ⟨ws, hs', hl⟩⟩
          have := y.2 ws hs'
          rw [hv] at this
          exact (Option.some.inj this).symm
        · cases hc'
      · cases hit
    · exact q.elim
  | _ => exact q.elim)
/-- range(n), range(a, b) -/
def rgD (lo : Int) (n : Nat) : List D := (List.range n).map fun i => .int (lo + (i : Nat))
def okB (i : Int) : Bool := decide (-(2 ^ 62) ≤ i ∧ i < 2 ^ 62)
def range1 (f : ME) : MI := fun env mh => (f env mh).bind fun d mh1 => match d with
  | .int j => if okB j = true then .ok ⟨rgD 0 j.toNat, fun _ => true⟩ mh1 else .no
  | _ => .no
def range2 (f g : ME) : MI := fun env mh => (f env mh).bind fun d mh1 => (g env mh1).bind fun e mh2 => match d, e with
  | .int i, .int j => if okB i = true ∧ okB j = true then .ok ⟨rgD i (j - i).toNat, fun _ => true⟩ mh2 else .no
  | _, _ => .no
theorem itOk_range {φ : List Addr} {H : Hp} (lo : Int) (n : Nat) : ItOk X.K φ H ⟨rgD lo n, fun _ => true⟩ (Itr lo n) := by
  intro i φ' mh' H' _ _ hh _
  refine ⟨fun d hd => ?_, fun hl => ?_⟩
  · have hi : i < n := by
      have := (List.getElem?_eq_some_iff.mp hd).1
      simpa [rgD] using this
    have ed : d = .int (lo + (i : Nat)) := by
      simp [rgD, hi] at hd
      exact hd.symm
    subst ed
    refine ⟨hi, fun x H2 y => ?_⟩
    obtain ⟨e1, e2⟩ := y
    subst e1; subst e2
    exact ⟨Kp.refl _, hh, .int _⟩
  · show n ≤ i
    simpa [rgD] using hl
theorem si_range1 {e : Expr} {f : ME} {p pos : Pos} (hm : X.mg "range" = none) (he : SE X W e f) (hg : Gl X "range" := by rfl) (hs : starEach [e] X.env = [(false, eval e X.env)] := by rfl) (hst : starEach (e :: []) X.env = (false, eval e X.env) :: starEach [] X.env := by rfl) :
    SI X W tg (.Call (.Name "range" p) [e] [] pos) (range1 f) := (pi_range1 hg hm (pa_cons he pa_nil hst) hs).imp (by
  rintro σ H R ⟨φ, env, mh, re, hh, p⟩
  refine ⟨φ, env, mh, re, hh, post_mono (Px.refl φ) (Kp.refl H) (post_bind (R1 := RelD X.K) p) ?_⟩
  rintro x H1 ⟨φ1, d, mh1, p1, k1, h1, r1, q⟩
  cases r1 with
  | int j =>
    try simp only at q
    split at q
    · rename_i hb
      obtain ⟨b1, b2⟩ := of_decide_eq_true hb
      exact ⟨j, rfl, b1, b2, q φ1 _ H1 (Px.refl φ1) (Kp.refl H1) h1 (itOk_range 0 j.toNat)⟩
    · exact q.elim
  | _ => exact q.elim)
theorem si_range2 {e e2 : Expr} {f g : ME} {p pos : Pos} (hm : X.mg "range" = none) (he : SE X W e f) (he2 : SE X W e2 g) (hg : Gl X "range" := by rfl) (hs : starEach [e, e2] X.env = [(false, eval e X.env), (false, eval e2 X.env)] := by rfl) (hs2 : starEach [e2] X.env = [(false, eval e2 X.env)] := by rfl)
    (hst : starEach (e :: [e2]) X.env = (false, eval e X.env) :: starEach [e2] X.env := by rfl) (hst2 : starEach (e2 :: []) X.env = (false, eval e2 X.env) :: starEach [] X.env := by rfl) :
    SI X W tg (.Call (.Name "range" p) [e, e2] [] pos) (range2 f g) := (pi_range2 hg hm (pa_cons he (pa_cons he2 pa_nil hst2) hst) hs hs2).imp (by
  rintro σ H R ⟨φ, env, mh, re, hh, p⟩
  refine ⟨φ, env, mh, re, hh, post_mono (Px.refl φ) (Kp.refl H) (post_bind (R1 := RelD X.K) p) ?_⟩
  rintro x H1 ⟨φ1, d, mh1, p1, k1, h1, r1, q⟩
  refine ⟨φ1, env, mh1, re.mono p1 k1, h1, post_mono (Px.refl φ1) (Kp.refl H1) (post_bind (R1 := RelD X.K) q) ?_⟩
  rintro y H2 ⟨φ2, d2, mh2, p2, k2, h2, r2, q2⟩
  cases r1 with
  | int i =>
    cases r2 with
    | int j =>
      try simp only at q2
      split at q2
      · rename_i hb
        obtain ⟨b1, b2⟩ := of_decide_eq_true hb.1
        obtain ⟨b3, b4⟩ := of_decide_eq_true hb.2
        exact ⟨i, j, rfl, ⟨b1, b2, b3, b4⟩, q2 φ2 _ H2 (Px.refl φ2) (Kp.refl H2) h2 (itOk_range i (j - i).toNat)⟩
      · exact q2.elim
    | _ => exact q2.elim
  | _ => cases r2 <;> exact q2.elim)
end
end Det
/-! Det, part H: sorted, least and greatest. -/
namespace Det
open PySem PySem.Spec PyProof.Rows L2

/-! ### sorted -/
def ins {α : Type} (le : α → α → Bool) (a : α) : List α → List α
  | [] => [a]
  | b :: l => if le a b = true then a :: b :: l else b :: ins le a l
def isort {α : Type} (le : α → α → Bool) : List α → List α
  | [] => []
  | a :: l => ins le a (isort le l)
theorem ins_eq {α : Type} {le : α → α → Bool} {a : α} : ∀ {l₁ l₂ : List α}, (∀ b ∈ l₁, (!le a b) = true) → (∀ b, l₂.head? = some b → le a b = true) → ins le a (l₁ ++ l₂) = l₁ ++ a :: l₂
  | [], [], _, _ => rfl
  | [], b :: l, _, h => by
    show (if le a b = true then _ else _) = _
    rw [if_pos (h b rfl)]; rfl
  | c :: l₁, l₂, h1, h2 => by
    have hc : ¬ le a c = true := by have := h1 c List.mem_cons_self; simpa using this
    show (if le a c = true then _ else c :: ins le a (l₁ ++ l₂)) = _
    rw [if_neg hc, ins_eq (fun b hb => h1 b (List.mem_cons_of_mem _ hb)) h2]
    rfl
theorem isort_eq {α : Type} {le : α → α → Bool} (tr : ∀ a b c, le a b = true → le b c = true → le a c = true) (to : ∀ a b, (le a b || le b a) = true) : ∀ l : List α, l.mergeSort le = isort le l
  | [] => by simp [isort]
  | a :: l => by
    obtain ⟨l₁, l₂, h1, h2, h3⟩ := List.mergeSort_cons (le := le) tr to a l
    rw [h1]
    show l₁ ++ a :: l₂ = ins le a (isort le l)
    rw [← isort_eq tr to l, h2]
    refine (ins_eq h3 fun b hb => ?_).symm
    have hs := List.pairwise_mergeSort (le := le) tr to (a :: l)
    rw [h1, List.pairwise_append] at hs
    match l₂, hb, hs with
    | c :: l₂, hb, hs =>
      have e : c = b := Option.some.inj hb
      subst e
      exact (List.pairwise_cons.mp hs.2.1).1 c List.mem_cons_self
/-- data of a value that holds no lists -/
def datP (d : D) : PyData := (datD [] 60 d).getD .none
def leD (a b : D) : Bool := PySem.W.dataLe false datP a b
def notT : PyData → Bool
  | .none => false
  | .tuple _ => false
  | _ => true
def tupNE : PyData → Bool
  | .tuple (_ :: _) => true
  | _ => false
def okSort (xs : List D) : Bool := xs.all (fun d => (datD [] 60 d).isSome && decide ((datP d).depth ≤ 60)) && xs.all (fun d => xs.all fun e => PySem.W.alike (datP d) (datP e)) && (xs.all (fun d => tupNE (datP d)) || xs.all (fun d => notT (datP d))) && decide (xs.length ≤ sizeLine)
def oSorted : OpA := fun as mh => match as with
  | [a] => match itemsD mh a with
    | some xs => if okSort xs = true then some (.ref mh.length, mh ++ [.lst (isort leD xs)]) else none
    | none => none
  | _ => none
theorem leD_total : PySem.W.TotalLe leD := PySem.W.sortLe_total (listOrd itemOrd) false fun b => PySem.W.keyToks (datP b)
theorem each_vals {K : PySem.W.Frag} {φ : List Addr} {H : Hp} : ∀ {ds : List D} {vs : List V} {us : List Value}, RelDs K φ H ds vs → Vals vs us → PySem.W.EachIs (fun u d => ∃ v, RelV v u ∧ RelD K φ H d v) us ds
  | _, _, _, .nil, .nil => .nil
  | _, _, _, .cons h t, .cons r s => .cons ⟨_, r, h⟩ (each_vals t s)
theorem vals_each {K : PySem.W.Frag} {φ : List Addr} {H : Hp} : ∀ {us : List Value} {ds : List D}, PySem.W.EachIs (fun u d => ∃ v, RelV v u ∧ RelD K φ H d v) us ds → ∃ vs, RelDs K φ H ds vs ∧ Vals vs us
  | _, _, .nil => ⟨[], .nil, .nil⟩
  | _, _, .cons ⟨v, r, h⟩ t => by
    obtain ⟨vs, a, b⟩ := vals_each t
    exact ⟨v :: vs, .cons h a, .cons r b⟩
theorem each_and {α β : Type} {R : α → β → Prop} {p : β → Prop} : ∀ {as : List α} {bs : List β}, PySem.W.EachIs R as bs → (∀ b ∈ bs, p b) → PySem.W.EachIs (fun a b => R a b ∧ p b) as bs
  | _, _, .nil, _ => .nil
  | _, _, .cons r t, h => .cons ⟨r, h _ List.mem_cons_self⟩ (each_and t fun b hb => h b (List.mem_cons_of_mem _ hb))
theorem each_imp {α β : Type} {R R' : α → β → Prop} (f : ∀ a b, R a b → R' a b) : ∀ {as : List α} {bs : List β}, PySem.W.EachIs R as bs → PySem.W.EachIs R' as bs
  | _, _, .nil => .nil
  | _, _, .cons r t => .cons (f _ _ r) (each_imp f t)
theorem datP_ok {K : PySem.W.Frag} {φ : List Addr} {H : Hp} {d : D} {v : V} (h : (datD [] 60 d).isSome = true) (r : RelD K φ H d v) : Dp K H v (datP d) := by
  have go : ∀ (n : Nat) (d : D) (v : V) (p : PyData), RelD K φ H d v → datD [] n d = some p → Dp K H v p := by
    intro n
    induction n with
    | zero =>
      intro d v p r e
      cases r with
      | non => cases e; exact .non
      | bl b => cases e; exact .bl b
      | int i => cases e; exact .int i
      | str x => cases e; exact .str x
      | _ => cases e
    | succ n ih =>
      intro d v p r e
      cases r with
      | non => cases e; exact .non
      | bl b => cases e; exact .bl b
      | int i => cases e; exact .int i
      | str x => cases e; exact .str x
      | tup hs t =>
        simp only [datD] at e
        cases h2 : List.mapM (datD [] n) ‹List D› with
        | none => rw [h2] at e; cases e
        | some qs =>
          rw [h2] at e
          cases e
          exact .tup hs (mapM_dat ih t h2)
      | ref hn => simp [datD] at e
      | _ => cases e
  unfold datP
  cases e : datD [] 60 d with
  | none => rw [e] at h; cases h
  | some p => exact go 60 d v p r e
section
variable {X : Cx}
theorem okSort_parts {xs : List D} (h : okSort xs = true) : (∀ d ∈ xs, (datD [] 60 d).isSome = true ∧ (datP d).depth ≤ 60) ∧ PySem.W.AllAlike (xs.map datP) ∧ PySem.W.Sortable (xs.map datP) ∧ xs.length ≤ sizeLine := by
  unfold okSort at h
  rw [Bool.and_eq_true, Bool.and_eq_true, Bool.and_eq_true] at h
  obtain ⟨⟨⟨h1, h2⟩, h3⟩, h4⟩ := h
  rw [List.all_eq_true] at h1 h2
  refine ⟨fun d hd => ?_, fun p hp q hq => ?_, ?_, of_decide_eq_true h4⟩
  · have := h1 d hd
    rw [Bool.and_eq_true] at this
    exact ⟨this.1, of_decide_eq_true this.2⟩
  · obtain ⟨d, hd, rfl⟩ := List.mem_map.mp hp
    obtain ⟨e, he, rfl⟩ := List.mem_map.mp hq
    exact List.all_eq_true.mp (h2 d hd) e he
  · rw [Bool.or_eq_true] at h3
    rcases h3 with h3 | h3
    · refine .inl fun p hp => ?_
      obtain ⟨d, hd, rfl⟩ := List.mem_map.mp hp
      have := List.all_eq_true.mp h3 d hd
      unfold tupNE at this
      split at this
      · rename_i x r e; exact ⟨x, r, e⟩
      · cases this
    · refine .inr fun p hp => ?_
      obtain ⟨d, hd, rfl⟩ := List.mem_map.mp hp
      have := List.all_eq_true.mp h3 d hd
      unfold notT at this
      split at this
      · cases this
      · cases this
      · rename_i h1 h2; exact ⟨h1, h2⟩
/-- the items of a tuple, gathered into a new list -/
theorem gather_tup {prog : Program} {w : World} {A : Around} {E : Value → Shared → Prop} {s : Shared} {t : Addr} {its : List Value} {Q : List Value → Shared → Prop} (ht : IsTup s.heap t its.toArray) (hz : its.length ≤ sizeLine)
    (h : Q its { s with heap := (s.heap.push (seqObj "list" #[] 0)).update s.heap.objs.size (Obj.mapSeq (· ++ its.toArray)) }) : wpAny (model prog w) A (collect (.ref t)) Q E s := by
  obtain ⟨o, ho, hc, n, hd⟩ := ht
  have ho' : (s.heap.push (seqObj "list" #[] 0)).get? t = some o := Heap.get?_push_of_some _ ho
  have hnew : (s.heap.push (seqObj "list" #[] 0)).get? s.heap.objs.size = some (seqObj "list" #[] 0) := Heap.get?_push_size _ rfl
  unfold collect
  refine wpAny_bind (wpAny_runValue (codeAny_builtin entry_proto_collect' ?_))
  refine wpAny_bind (wpAny_newList (wpAny_pure ⟨Code.quiet_builtin _ (by decide +kernel), codeAny_builtin entry_list_iadd' ?_⟩))
  have tt : (Value.type "tuple" == Value.type "tuple") = true := by rfl
  show wpAny _ _ (Builtin.List.listExtendWith (.ref s.heap.objs.size) (.ref t) (.ref s.heap.objs.size)) _ _ _
  unfold Builtin.List.listExtendWith
  refine wpAny_bind (wpAny_typeOf (T := "tuple") ⟨o, ho', hc⟩ ?_)
  rw [if_pos (by rw [tt, Bool.or_true])]
  refine wpAny_bind (listItems_at ho' hd (wpAny_bind (listItems_at hnew rfl ?_)))
  rw [if_neg (by simp)]
  have hz2 : ((#[] : Array Value) ++ its.toArray).size ≤ sizeLine + 1 := by
    rw [Array.size_append, List.size_toArray]
    exact Nat.le_succ_of_le (by simpa using hz)
  refine wpAny_bind (listUpdate_at hnew rfl (wpAny_pure ?_) (Nat.zero_le _) hz2)
  refine wpAny_bind (wpAny_load (get?_update_seq hnew _) ?_)
  have e0 : ((#[] : Array Value) ++ its.toArray).toList = its := by simp
  show wpAny _ _ (pure ((#[] : Array Value) ++ its.toArray).toList) Q E _
  rw [e0]
  exact wpAny_pure h
/-- sorted(t), t a tuple -/
theorem sorted_tup {β : Type} {prog : Program} {w : World} {A : Around} {E : Value → Shared → Prop} {s : Shared} {t : Addr} {its : List Value} {bs : List β} {enc : β → PyData} {R : Value → β → Prop} {Q : Value → Shared → Prop} (ht : IsTup s.heap t its.toArray)
    (e : PySem.W.EachIs R its bs) (er : PySem.W.EachIs (fun v b => ∃ as, Reads s.heap v (enc b) as) its bs) (hal : PySem.W.AllAlike (bs.map enc)) (hk : PySem.W.Sortable (bs.map enc)) (hL : bs.length ≤ sizeLine) (hu : ∀ b, b ∈ bs → A.units + 2 + (enc b).depth < cLine)
    (h : ∀ out, out.length = bs.length → PySem.W.EachIs R out (bs.mergeSort (PySem.W.dataLe false enc)) → Q (.ref (s.heap.objs.size + 1)) { s with heap := sortedAll s.heap its (List.toArray out) }) : wpAny (model prog w) A (call (.builtin "sorted") [.ref t]) Q E s := by
  have hz : its.length ≤ sizeLine := by rw [e.length]; exact hL
  have h2 : PySem.W.EachIs (fun v b => ∃ as, Reads (PySem.W.sortingHeap (PySem.W.copyHeap s.heap its) (s.heap.objs.size + 1) its) v (enc b) as) its bs :=
    each_imp (fun v b ⟨as, r⟩ => ⟨as, PyProof.Rows.Reads.keeps (fun _ _ => PySem.W.sorting_copy_old) r⟩) er
  have S := PySem.W.SortsAt.data (prog := prog) (w := w) (A := A.in1.in1) (s := { s with heap := PySem.W.sortingHeap (PySem.W.copyHeap s.heap its) (s.heap.objs.size + 1) its }) (PySem.W.each_map (R := fun v d => ∃ as, Reads (PySem.W.sortingHeap (PySem.W.copyHeap s.heap its) (s.heap.objs.size + 1) its) v d as) enc h2) hal hk
    (fun d hd => by
      obtain ⟨b, hb, rfl⟩ := List.mem_map.mp hd
      exact hu b hb)
  have n1 : ((s.heap.push (seqObj "list" #[] 0)).update s.heap.objs.size (Obj.mapSeq (· ++ its.toArray))).objs.size = s.heap.objs.size + 1 := by
    rw [Heap.size_update, size_push']
  refine PyProof.Rows.call_function_entry_kw kind_sorted plain_sorted entry_sorted (args_sorted1 _) ?_
  unfold Builtin.«sorted»
  refine wpAny_bind (m := checkCount "sorted" 1 1 _) (wpAny_pure (wpAny_bind (gather_tup ht hz (wpAny_bind (wpAny_newList ?_ hz)))))
  show wpAny _ _ _ _ _ { s with heap := PySem.W.copyHeap s.heap its }
  rw [n1]
  refine wpAny_bind (wpAny_holding (wpAny_call_entry_kw slot_list_sort ⟨_, PySem.W.copyHeap_at s.heap its, rfl⟩ entry_list_sort ?body (args_list_sort _)))
  case body =>
    refine wpAny_mono (PySem.W.list_sort_vals (prog := prog) (w := w) (A := A.in1.in1) (E := fun _ _ => False) (P := fun f s' => f = .done (.ret .none) ∧ Q (.ref (s.heap.objs.size + 1)) s') (s := { s with heap := PySem.W.copyHeap s.heap its }) (PySem.W.copyHeap_at s.heap its) S hz
      ⟨rfl, h _ (by rw [PySem.W.sortVals_length false rfl]; exact e.length) (PySem.W.sortVals_data false e h2 hal)⟩) (fun f s' hf => ?_) fun _ _ x => x.elim
    obtain ⟨rfl, hq⟩ := hf
    exact ⟨_, rfl, wpAny_pure ⟨_, rfl, hq⟩⟩
theorem r_sorted (hu : X.A.units + 64 < cLine) : CallR X (.builtin "sorted") (iRA X.K oSorted) := by
  rintro pins s σ H xs us Q I r ⟨φ, mh, as, ra, hh, p⟩
  unfold oSorted at p
  split at p
  · rename_i a
    obtain ⟨v, rfl, rv⟩ := ra.one
    cases h : itemsD mh a with
    | none => rw [h] at p; exact p.elim
    | some ds =>
      simp only [h] at p
      split at p
      · rename_i hok
        obtain ⟨k1, k2, k3, k4⟩ := okSort_parts hok
        obtain ⟨pp, vs, ev, hs, rs⟩ := seq_of hh rv h
        subst ev
        obtain ⟨u, rfl, ru⟩ := Vals.one r
        cases ru
        -- what is known of the items, whichever it is
        have main : ∀ (its : List Value), Vals vs its → (∀ out : List Value, True) → ∀ (out : List Value), PySem.W.EachIs (fun u d => ∃ v, RelV v u ∧ RelD X.K φ H d v) out (ds.mergeSort (PySem.W.dataLe false datP)) → out.length = ds.length →
            EP X pins σ Q (.ref (s.heap.objs.size + 1)) { s with heap := sortedAll s.heap its (List.toArray out) } := by
          intro its _ _ out eo lo
          rw [show PySem.W.dataLe false datP = leD from rfl, isort_eq (fun a b c => leD_total.trans a b c) (fun a b => by have := leD_total.total a b; simpa using this)] at eo
          obtain ⟨ws, r1, r2⟩ := vals_each eo
          obtain ⟨ep, he'⟩ := sortedAll_at s.heap its (List.toArray out)
          have hfree : H (s.heap.objs.size + 1) = none := I.hok.fresh (Nat.le_succ _)
          refine ⟨.ref (s.heap.objs.size + 1), _, I.laid (t' := s.toks) (o := .lst ws) (fun _ _ => sortedAll_old) (Nat.le_succ _) ⟨?_, out, ep, r2, he'⟩, rfl, postO_new hh p r1 hfree⟩
          rw [r2.length, lo]; exact k4
        have rd : ∀ its : List Value, Vals vs its → PySem.W.EachIs (fun v b => ∃ as, Reads s.heap v (datP b) as) its ds := fun its rv2 =>
          each_imp (fun u d hq => by
            obtain ⟨⟨v, h1, h2⟩, h3⟩ := hq
            exact Dp.reads I (datP d) v u (datP_ok h3 h2) h1) (each_and (each_vals rs rv2) fun d hd => (k1 d hd).1)
        have un : ∀ d ∈ ds, X.A.units + 2 + (datP d).depth < cLine := fun d hd => by
          have := (k1 d hd).2
          omega
        rcases hs with hs | hs
        · obtain ⟨its, rv2, hl, _⟩ := I.list hs
          exact PySem.W.sorted_data hl.isList (each_vals rs rv2) (rd its rv2) k2 k3 k4 un fun out lo eo => main its rv2 (fun _ => trivial) out eo lo
        · obtain ⟨its, rv2, ht, _⟩ := I.tuple hs
          exact sorted_tup ht (each_vals rs rv2) (rd its rv2) k2 k3 k4 un fun out lo eo => main its rv2 (fun _ => trivial) out eo lo
      · exact p.elim
  · exact p.elim
end
end Det
/-! Det, part I: the lesser and the greater of two, count, a tuple turned about. -/
namespace Det
open PySem PySem.Spec PyProof.Rows L2

section
variable {prog : Program} {w : World} {A : Around} {E : Value → Shared → Prop} {s : Shared}
theorem min2S {a b : Str} {t u : Tok} {Q : Value → Shared → Prop} (hh : A.handled = none)
    (h : ∀ h' tk, (∀ c o, s.heap.get? c = some o → h'.get? c = some o) → Q (if ltS b a = true then Value.str b u else Value.str a t) { s with heap := h', toks := tk }) :
    wpAny (model prog w) A (call (.builtin "min") [Value.str a t, Value.str b u]) Q E s := by
  have n1 : (s.heap.push { cls := .type "tuple", data := .seq #[Value.str a t, Value.str b u] }).objs.size = s.heap.objs.size + 1 := Heap.size_push ..
  have hT : (s.heap.push { cls := .type "tuple", data := .seq #[Value.str a t, Value.str b u] }).IsTuple s.heap.objs.size #[Value.str a t, Value.str b u] := ⟨_, Heap.get?_push_size _ rfl, rfl, 0, rfl⟩
  have hP : ∀ (i : Nat) (v : Value), (#[Value.str a t, Value.str b u] : Array Value)[i]? = some v → ∃ tk, v = .str (if i = 0 then a else b) tk := by
    intro i v e
    match i, e with
    | 0, e => cases e; exact ⟨t, rfl⟩
    | 1, e => cases e; exact ⟨u, rfl⟩
    | i + 2, e => simp at e
  have hcmp : CmpOf prog w A.in1 .Lt (fun (i : Nat) (v : Value) => (#[Value.str a t, Value.str b u] : Array Value)[i]? = some v) (fun (i j : Nat) => ltS (if i = 0 then a else b) (if j = 0 then a else b)) := fun i j vi vj s Q E hi hj hq => by
    obtain ⟨t1, rfl⟩ := hP i vi hi
    obtain ⟨t2, rfl⟩ := hP j vj hj
    exact richCompare_gives (op := .Lt) (typeIs_str s _ t1) (typeIs_str s _ t2) F.slot_str_lt F.entry_str_lt (F.args_str_lt_2 _ _) (gives_str_lt _ _ t1 t2) (fun x => nomatch x) hq
  refine call_min_two (wpAny_pyIter_tuple hT ?_)
  refine ⟨_, [_, s.heap.objs.size], [_], _, _, _, _, rfl, Walks.tuple (A := A.in1) hh _ s.heap.objs.size (by rw [n1]; exact Nat.ne_of_lt (Nat.lt_succ_self _)) #[Value.str a t, Value.str b u],
    ⟨⟨_, Heap.get?_push_size _ rfl, rfl, rfl⟩, hT.push _⟩, fun c hc => ?_, by simp, hcmp, fun v h' tk hv hk => ?_⟩
  · have n2 : ((s.heap.push { cls := .type "tuple", data := .seq #[Value.str a t, Value.str b u] }).push { cls := .type "tuple_iterator", data := .fields #[.ref s.heap.objs.size, rawInt 0] }).objs.size = s.heap.objs.size + 1 + 1 := by rw [Heap.size_push, n1]
    have hc' : c = s.heap.objs.size + 1 ∨ c = s.heap.objs.size := by
      rcases List.mem_cons.mp hc with e | e
      · exact .inl (by rw [e, n1])
      · exact .inr (List.mem_singleton.mp e)
    show c < ((s.heap.push _).push _).objs.size
    rw [Heap.size_push, n1]
    rcases hc' with e | e
    · rw [e]; exact Nat.lt_succ_self _
    · rw [e]; exact Nat.lt_succ_of_lt (Nat.lt_succ_self _)
  · have keep : ∀ c o, s.heap.get? c = some o → h'.get? c = some o := fun c o e => hk c o (fun hm => by
      have e1 := List.mem_singleton.mp hm
      have := Heap.lt_size e
      rw [e1, n1] at this
      exact Nat.lt_irrefl _ (Nat.lt_of_succ_lt this)) (Heap.get?_push_of_some _ (Heap.get?_push_of_some _ e))
    have q := h h' tk keep
    have e2 : v = if ltS b a = true then Value.str b u else Value.str a t := by
      cases hc : ltS b a with
      | true =>
        have ev : (#[Value.str a t, Value.str b u] : Array Value)[1]? = some v := by
          have : argBest (fun (i j : Nat) => ltS (if i = 0 then a else b) (if j = 0 then a else b)) 1 = 1 := by
            show (if (ltS (if 1 = 0 then a else b) (if 0 = 0 then a else b)) = true then 1 else 0) = 1
            rw [if_pos]; simpa using hc
          rw [← this]; exact hv
        simpa using ev.symm
      | false =>
        have ev : (#[Value.str a t, Value.str b u] : Array Value)[0]? = some v := by
          have : argBest (fun (i j : Nat) => ltS (if i = 0 then a else b) (if j = 0 then a else b)) 1 = 0 := by
            show (if (ltS (if 1 = 0 then a else b) (if 0 = 0 then a else b)) = true then 1 else 0) = 0
            rw [if_neg]; simpa using hc
          rw [← this]; exact hv
        simpa using ev.symm
    rw [e2]; exact q
theorem max2S {a b : Str} {t u : Tok} {Q : Value → Shared → Prop} (hh : A.handled = none)
    (h : ∀ h' tk, (∀ c o, s.heap.get? c = some o → h'.get? c = some o) → Q (if ltS a b = true then Value.str b u else Value.str a t) { s with heap := h', toks := tk }) :
    wpAny (model prog w) A (call (.builtin "max") [Value.str a t, Value.str b u]) Q E s := by
  have n1 : (s.heap.push { cls := .type "tuple", data := .seq #[Value.str a t, Value.str b u] }).objs.size = s.heap.objs.size + 1 := Heap.size_push ..
  have hT : (s.heap.push { cls := .type "tuple", data := .seq #[Value.str a t, Value.str b u] }).IsTuple s.heap.objs.size #[Value.str a t, Value.str b u] := ⟨_, Heap.get?_push_size _ rfl, rfl, 0, rfl⟩
  have hP : ∀ (i : Nat) (v : Value), (#[Value.str a t, Value.str b u] : Array Value)[i]? = some v → ∃ tk, v = .str (if i = 0 then a else b) tk := by
    intro i v e
    match i, e with
    | 0, e => cases e; exact ⟨t, rfl⟩
    | 1, e => cases e; exact ⟨u, rfl⟩
    | i + 2, e => simp at e
  have hcmp : CmpOf prog w A.in1 .Gt (fun (i : Nat) (v : Value) => (#[Value.str a t, Value.str b u] : Array Value)[i]? = some v) (fun (i j : Nat) => ltS (if j = 0 then a else b) (if i = 0 then a else b)) := fun i j vi vj s Q E hi hj hq => by
    obtain ⟨t1, rfl⟩ := hP i vi hi
    obtain ⟨t2, rfl⟩ := hP j vj hj
    exact richCompare_gives (op := .Gt) (typeIs_str s _ t1) (typeIs_str s _ t2) F.slot_str_gt F.entry_str_gt (F.args_str_gt_2 _ _) (gives_str_gt _ _ t1 t2) (fun x => nomatch x) hq
  refine call_max_two (wpAny_pyIter_tuple hT ?_)
  refine ⟨_, [_, s.heap.objs.size], [_], _, _, _, _, rfl, Walks.tuple (A := A.in1) hh _ s.heap.objs.size (by rw [n1]; exact Nat.ne_of_lt (Nat.lt_succ_self _)) #[Value.str a t, Value.str b u],
    ⟨⟨_, Heap.get?_push_size _ rfl, rfl, rfl⟩, hT.push _⟩, fun c hc => ?_, by simp, hcmp, fun v h' tk hv hk => ?_⟩
  · have n2 : ((s.heap.push { cls := .type "tuple", data := .seq #[Value.str a t, Value.str b u] }).push { cls := .type "tuple_iterator", data := .fields #[.ref s.heap.objs.size, rawInt 0] }).objs.size = s.heap.objs.size + 1 + 1 := by rw [Heap.size_push, n1]
    have hc' : c = s.heap.objs.size + 1 ∨ c = s.heap.objs.size := by
      rcases List.mem_cons.mp hc with e | e
      · exact .inl (by rw [e, n1])
      · exact .inr (List.mem_singleton.mp e)
    show c < ((s.heap.push _).push _).objs.size
    rw [Heap.size_push, n1]
    rcases hc' with e | e
    · rw [e]; exact Nat.lt_succ_self _
    · rw [e]; exact Nat.lt_succ_of_lt (Nat.lt_succ_self _)
  · have keep : ∀ c o, s.heap.get? c = some o → h'.get? c = some o := fun c o e => hk c o (fun hm => by
      have e1 := List.mem_singleton.mp hm
      have := Heap.lt_size e
      rw [e1, n1] at this
      exact Nat.lt_irrefl _ (Nat.lt_of_succ_lt this)) (Heap.get?_push_of_some _ (Heap.get?_push_of_some _ e))
    have q := h h' tk keep
    have e2 : v = if ltS a b = true then Value.str b u else Value.str a t := by
      cases hc : ltS a b with
      | true =>
        have ev : (#[Value.str a t, Value.str b u] : Array Value)[1]? = some v := by
          have : argBest (fun (i j : Nat) => ltS (if j = 0 then a else b) (if i = 0 then a else b)) 1 = 1 := by
            show (if (ltS (if 0 = 0 then a else b) (if 1 = 0 then a else b)) = true then 1 else 0) = 1
            rw [if_pos]; simpa using hc
          rw [← this]; exact hv
        simpa using ev.symm
      | false =>
        have ev : (#[Value.str a t, Value.str b u] : Array Value)[0]? = some v := by
          have : argBest (fun (i j : Nat) => ltS (if j = 0 then a else b) (if i = 0 then a else b)) 1 = 0 := by
            show (if (ltS (if 0 = 0 then a else b) (if 1 = 0 then a else b)) = true then 1 else 0) = 0
            rw [if_neg]; simpa using hc
          rw [← this]; exact hv
        simpa using ev.symm
    rw [e2]; exact q
end
section
variable {X : Cx} {W : WX}
def oMin2 : OpA := fun as mh => match as with
  | [.int i, .int j] => some (.int (if j < i then j else i), mh)
  | [.str x, .str y] => some (.str (if ltS y x = true then y else x), mh)
  | _ => none
def oMax2 : OpA := fun as mh => match as with
  | [.int i, .int j] => some (.int (if j > i then j else i), mh)
  | [.str x, .str y] => some (.str (if ltS x y = true then y else x), mh)
  | _ => none
theorem r_min2 (hc : X.calm = true) : CallR X (.builtin "min") (iRA X.K oMin2) := by
  rintro pins s σ H xs us Q I r ⟨φ, mh, as, ra, hh, p⟩
  unfold oMin2 at p
  split at p
  · obtain ⟨v, v2, rfl, rv, rw'⟩ := ra.two
    cases rv; cases rw'
    exact call_min2 hc pins s σ H _ us Q I r ⟨_, _, rfl, postO_val hh p (.int _)⟩
  · rename_i x y
    obtain ⟨v, v2, rfl, rv, rw'⟩ := ra.two
    cases rv; cases rw'
    obtain ⟨u1, u2, rfl, ⟨t1, rfl⟩, ⟨t2, rfl⟩⟩ := Vals.two r
    refine min2S (I.ok.hd hc) fun h' tk k => ⟨.str (if ltS y x = true then y else x), H, I.kept k, ?_, postO_val hh p (.str _)⟩
    by_cases hl : ltS y x = true
    · rw [if_pos hl, if_pos hl]; exact ⟨_, rfl⟩
    · rw [if_neg hl, if_neg hl]; exact ⟨_, rfl⟩
  · exact p.elim
theorem r_max2 (hc : X.calm = true) : CallR X (.builtin "max") (iRA X.K oMax2) := by
  rintro pins s σ H xs us Q I r ⟨φ, mh, as, ra, hh, p⟩
  unfold oMax2 at p
  split at p
  · obtain ⟨v, v2, rfl, rv, rw'⟩ := ra.two
    cases rv; cases rw'
    exact call_max2 hc pins s σ H _ us Q I r ⟨_, _, rfl, postO_val hh p (.int _)⟩
  · rename_i x y
    obtain ⟨v, v2, rfl, rv, rw'⟩ := ra.two
    cases rv; cases rw'
    obtain ⟨u1, u2, rfl, ⟨t1, rfl⟩, ⟨t2, rfl⟩⟩ := Vals.two r
    refine max2S (I.ok.hd hc) fun h' tk k => ⟨.str (if ltS x y = true then y else x), H, I.kept k, ?_, postO_val hh p (.str _)⟩
    by_cases hl : ltS x y = true
    · rw [if_pos hl, if_pos hl]; exact ⟨_, rfl⟩
    · rw [if_neg hl, if_neg hl]; exact ⟨_, rfl⟩
  · exact p.elim
end
end Det
/-! Det, part J: sorted(set(xs)), len(set(xs)) of ints and texts. -/
namespace Det
open PySem PySem.Spec PyProof.Rows L2

/-- the key that an entry bears -/
def keyAt (z : Int × Value) : Key := match z.2 with
  | .int i _ => .inl i
  | .str x _ => .inr x
  | _ => .inl 0
def KeyE (w : World) (z : Int × Value) : Prop := ∃ y : Key, keyIs y z.2 = true ∧ z.1 = keyH w y
/-- the set of keys at a: ys its members, once each, in no order -/
def SetG (w : World) (h : Heap) (a : Addr) (ys : List Key) : Prop :=
  ∃ ob rows stamp tab, h.get? a = some ob ∧ ob.ExactSet ∧ ob.data = .set rows stamp tab ∧ (∀ z ∈ rows.toList, KeyE w z) ∧ (rows.toList.map keyAt).Perm ys ∧ ys.Nodup ∧
    rows.size < scanBound ∧ tab.fits rows.size = true ∧ Ris tab.place.toList ∧ (w.params.followText "set-order" = true ∨ tab.led = true)
instance memK (y : Key) (ys : List Key) : Decidable (y ∈ ys) := decidable_of_iff (ys.any (fun z => decide (z = y)) = true) (by simp)
def addK (ys : List Key) (y : Key) : List Key := if y ∈ ys then ys else ys ++ [y]
section
variable {P : Program} {w : World} {h h' : Heap} {a : Addr} {ys : List Key}
theorem SetG.at (R : SetG w h a ys) (keep : ∀ q, h.get? a = some q → h'.get? a = some q) : SetG w h' a ys := by
  obtain ⟨ob, rows, stamp, tab, h0, rest⟩ := R
  exact ⟨ob, rows, stamp, tab, keep ob h0, rest⟩
theorem KeyE.elems {l : List (Int × Value)} (g : ∀ z ∈ l, KeyE w z) : ElemsOf (mixKind P w) l := fun z hz => by
  obtain ⟨y, h1, h2⟩ := g z hz
  refine ⟨⟨y, h1, h2⟩, ?_⟩
  rcases keyIs_shape h1 with ⟨i, t, _, e⟩ | ⟨x, t, _, e⟩ <;> rw [e] <;> rfl
theorem KeyE.is {z : Int × Value} (g : KeyE w z) (y : Key) : (mixKind P w).is y z.2 = true ↔ keyAt z = y := by
  obtain ⟨y0, h1, _⟩ := g
  unfold keyAt
  rcases keyIs_shape h1 with ⟨i, t, e0, e⟩ | ⟨x, t, e0, e⟩
  · rw [e]
    constructor
    · intro q; exact (mixKind P w).inj _ _ _ (mixKind_int P w i t) q
    · intro q; have q' : (Sum.inl i : Key) = y := q; rw [← q']; exact mixKind_int P w i t
  · rw [e]
    constructor
    · intro q; exact (mixKind P w).inj _ _ _ (mixKind_str P w x t) q
    · intro q; have q' : (Sum.inr x : Key) = y := q; rw [← q']; exact mixKind_str P w x t
theorem SetG.fresh (ho : h.get? a = some { cls := .type "set", dict := none, data := .set #[] 0 (.fresh 0 0 (!w.params.followText "set-order")) }) : SetG w h a [] :=
  ⟨_, #[], 0, _, ho, ⟨rfl, rfl, rfl⟩, rfl, (fun z hz => by simp at hz), (by simp), (by simp), (by decide), (by rfl), List.Pairwise.nil, by
    show _ ∨ (!w.params.followText "set-order") = true
    cases w.params.followText "set-order"
    · exact .inr rfl
    · exact .inl rfl⟩
end
section
variable {P : Program} {w : World} {A : Around} {E : Value → Shared → Prop} {s : Shared} {a : Addr} {ys : List Key}
theorem setG_tail {gv : Bool → Sem Unit} (hgv : ∀ (b : Bool) (s₁ : Shared) (Q' : Unit → Shared → Prop), Q' () s₁ → wpAny (model P w) A (gv b) Q' E s₁)
    {ob : Obj} {rows : Array (Int × Value)} {stamp : Nat} {tab : SetTable} (ho : s.heap.get? a = some ob) (hex : ob.ExactSet) (hd : ob.data = .set rows stamp tab)
    {rows1 : Array (Int × Value)} {tab2 : SetTable} {zs : List Key} (g1 : ∀ z ∈ rows1.toList, KeyE w z) (m1 : (rows1.toList.map keyAt).Perm zs) (nd1 : zs.Nodup)
    (hb1 : rows1.size < scanBound) (hf2 : tab2.fits rows1.size = true) (hr : Ris tab2.place.toList) (hl : w.params.followText "set-order" = true ∨ tab2.led = true) {wasD : Bool} {R : Option Bool → Shared → Prop}
    (hR : ∀ h', Heap.SameBut a s.heap h' → SetG w h' a zs → R (some true) { s with heap := h' }) :
    wpAny (model P w) A (do
        storeSet a rows1 tab2
        if (!wasD && tab2.tooFull) = true then do
            gv (relayAll tab2 rows1 (SetTable.grown rows1.size)).2.2
            storeSet a (relayAll tab2 rows1 (SetTable.grown rows1.size)).1 (relayAll tab2 rows1 (SetTable.grown rows1.size)).2.1
            pure (some true)
          else pure (some true)) R E s := by
  refine wpAny_bind (wpAny_storeSet_of ho hd ?_ (fits_of_scanBound hb1))
  have at1 := store_at (es' := rows1) (t' := tab2) ho hd
  have same1 := Heap.SameBut.update s.heap a (Obj.putSet rows1 tab2)
  split
  · have pmx := relayAll_perm tab2 rows1 (SetTable.grown rows1.size)
    have hf3 := relayAll_fits tab2 rows1 (SetTable.grown rows1.size)
    have hr3 := relayAll_ris tab2 rows1 (SetTable.grown rows1.size)
    have hl3 := relayAll_led tab2 rows1 (SetTable.grown rows1.size)
    generalize relayAll tab2 rows1 (SetTable.grown rows1.size) = Zr at pmx hf3 hr3 hl3 ⊢
    obtain ⟨rows2, tab3, gave⟩ := Zr
    dsimp only at pmx hf3 hr3 hl3 ⊢
    have hsz : rows2.size = rows1.size := by rw [← Array.length_toList, pmx.length_eq, Array.length_toList]
    have hb2 : rows2.size < scanBound := by rw [hsz]; exact hb1
    refine wpAny_bind (hgv _ _ _ ?_)
    refine wpAny_bind (wpAny_storeSet_of at1 rfl ?_ (fits_of_scanBound hb2))
    have at2 := store_at (es' := rows2) (t' := tab3) at1 rfl
    refine wpAny_pure (hR _ (same1.trans (Heap.SameBut.update _ a _)) ?_)
    exact ⟨_, rows2, _, tab3, at2, hex, rfl, fun z hz => g1 z (pmx.mem_iff.mp hz), (pmx.map keyAt).trans m1, nd1, hb2, (by rw [hsz]; first | exact hf3 | (rw [← hsz]; exact hf3)), hr3,
      hl.imp id fun q => by rw [hl3]; exact q⟩
  · exact wpAny_pure (hR _ same1 ⟨_, rows1, _, tab2, at1, hex, rfl, g1, m1, nd1, hb1, hf2, hr, hl⟩)

theorem setG_addHashed {y : Key} {x : Value} {Q : Bool → Shared → Prop} (hx : (mixKind P w).is y x = true) (R : SetG w s.heap a ys) (room : ys.length + 1 < scanBound)
    (hQ : ∀ b h', Heap.SameBut a s.heap h' → SetG w h' a (addK ys y) → Q b { s with heap := h' }) :
    wpAny (model P w) A (setAddHashed a x ((mixKind P w).hash y)) Q E s := by
  obtain ⟨ob, rows, stamp, tab, ho, hex, hd, g, pm0, nd, hb, hf, hr, hl⟩ := R
  have hsc : x.scannable = true := by
    rcases keyIs_shape hx with ⟨i, t, _, e⟩ | ⟨z, t, _, e⟩ <;> rw [e] <;> rfl
  have hn : rows.size = ys.length := by rw [← pm0.length_eq, List.length_map, Array.length_toList]
  have hel : ElemsOf (mixKind P w) rows.toList := KeyE.elems g
  unfold setAddHashed setAddHashedIn
  refine wpAny_holding (wpAny_bind (wpAny_setState_of ho hd hf ?_))
  dsimp only
  rw [byScan_of hsc hb hel]
  simp only [↓reduceIte]
  unfold setAddByScan
  refine wpAny_bind ?_
  refine wpAny_bind (wpAny_rule ?_)
  refine wpAny_bind (wpAny_setScan_of hx ho hd hf hel ?_)
  cases hfi : List.findIdx? (fun e => (mixKind P w).is y e.2) rows.toList with
  | some j =>
    dsimp only
    obtain ⟨hj, pj, _⟩ := List.findIdx?_eq_some_iff_getElem.mp hfi
    have hy : y ∈ ys := pm0.mem_iff.mp (List.mem_map.mpr ⟨_, List.getElem_mem hj, (KeyE.is (P := P) (g _ (List.getElem_mem hj)) y).mp pj⟩)
    refine wpAny_pure (wpAny_pure (hQ _ s.heap (Heap.SameBut.refl a s.heap) ?_))
    unfold addK
    rw [if_pos hy]
    exact ⟨ob, rows, stamp, tab, ho, hex, hd, g, pm0, nd, hb, hf, hr, hl⟩
  | none =>
    dsimp only
    have hny : y ∉ ys := fun z => by
      obtain ⟨e, he, q⟩ := List.mem_map.mp (pm0.mem_iff.mpr z)
      have c := List.findIdx?_eq_none_iff.mp hfi e he
      rw [(KeyE.is (P := P) (g e he) y).mpr q] at c
      cases c
    have gvw : ∀ (b : Bool) {s₁ : Shared} {Q' : Unit → Shared → Prop}, Q' () s₁ → wpAny (model P w) A (match b with | true => rule "set.scan.the-table-gave-way" | false => pure ()) Q' E s₁ :=
      fun b s₁ Q' q => by cases b; exact wpAny_pure q; exact wpAny_rule q
    have pm := layNew_perm tab rows ((mixKind P w).hash y) x
    have hf1 := layNew_fits tab rows ((mixKind P w).hash y) x
    have hr1 := layNew_ris tab rows ((mixKind P w).hash y) x hr
    have hl1 := layNew_led tab rows ((mixKind P w).hash y) x
    generalize layNew tab rows ((mixKind P w).hash y) x = Zn at pm hf1 hr1 hl1 ⊢
    obtain ⟨rows1, tab1, wasD, gave⟩ := Zn
    dsimp only at pm hf1 hr1 hl1 ⊢
    rw [Array.toList_push] at pm
    have pc : rows1.toList.Perm (rows.toList ++ [((mixKind P w).hash y, x)]) := pm
    have kx : keyAt ((mixKind P w).hash y, x) = y := (KeyE.is (P := P) (w := w) (z := ((mixKind P w).hash y, x)) ⟨y, hx, rfl⟩ y).mp hx
    have pk : (rows1.toList.map keyAt).Perm (ys ++ [y]) := by
      have q := pc.map keyAt
      rw [List.map_append, List.map_singleton, kx] at q
      exact q.trans (pm0.append_right _)
    have g1 : ∀ e ∈ rows1.toList, KeyE w e := fun e he => by
      rcases List.mem_append.mp (pc.mem_iff.mp he) with z | z
      · exact g e z
      · rw [List.mem_singleton.mp z]; exact ⟨y, hx, rfl⟩
    have nd1 : (ys ++ [y]).Nodup := by
      rw [List.nodup_append]
      exact ⟨nd, by simp, fun p hp q hq e => by rw [List.mem_singleton] at hq; subst hq; subst e; exact hny hp⟩
    have hsz : rows1.size = ys.length + 1 := by rw [← Array.length_toList, pc.length_eq, List.length_append, Array.length_toList, hn]; rfl
    have hb1 : rows1.size < scanBound := by rw [hsz]; exact room
    have hled : w.params.followText "set-order" = true ∨ tab1.led = true := hl.imp id fun z => by rw [hl1]; exact z
    have ea : addK ys y = ys ++ [y] := by unfold addK; rw [if_neg hny]
    refine wpAny_bind (gvw _ ?_)
    split
    · refine wpAny_bind ?_
      rw [hashByValue_scannable 8 hsc]
      refine wpAny_pure ?_
      refine setG_tail ?_ ho hex hd g1 pk nd1 hb1 ?_ ?_ ?_ ?_
      · intro b s₁ Q' q; cases b; exact wpAny_pure q; exact wpAny_rule q
      · first | exact hf1 | (split <;> first | exact hf1 | exact SetTable.fits_plain_off hf1)
      · first | exact hr1 | (split <;> exact hr1)
      · first | exact hled | (split <;> exact hled)
      · intro h' sb rg; dsimp only; exact wpAny_pure (hQ _ h' sb (by rw [ea]; exact rg))
    · refine wpAny_bind (wpAny_pure ?_)
      simp only [↓reduceIte]
      refine setG_tail ?_ ho hex hd g1 pk nd1 hb1 hf1 hr1 hled ?_
      · intro b s₁ Q' q; cases b; exact wpAny_pure q; exact wpAny_rule q
      · intro h' sb rg; dsimp only; exact wpAny_pure (hQ _ h' sb (by rw [ea]; exact rg))
def addKs (ys : List Key) (zs : List Key) : List Key := zs.foldl addK ys
theorem addK_len (ys : List Key) (y : Key) : (addK ys y).length ≤ ys.length + 1 := by
  unfold addK; split <;> simp
theorem setG_update {I : Addr} {fp wr : List Addr} {G : Array GenState → Array GenState → Prop} {n : Nat} {Pv : Nat → Value → Prop} {St : Nat → Shared → Prop} {R : Result → Shared → Prop}
    (W : WalksS P w A.in1 I fp wr G n Pv St) (S : Addr) (hSf : S ∉ fp) (zs : List Key) (hn : n = zs.length) (hval : ∀ i v, Pv i v → ∃ y, zs[i]? = some y ∧ (mixKind P w).is y v = true) :
    ∀ (m i : Nat) (cur : List Key) (s : Shared), n - i = m → i ≤ n → cur.length + m + 1 < scanBound → St i s → SetG w s.heap S cur →
      (∀ s', Moved (S :: wr) G s s' → SetG w s'.heap S (addKs cur (zs.drop i)) → R (.ok (.ret .none)) s') →
      codeAny (model P w) A (.builtin "set.update.loop" ⟨[.ref S, .ref I], []⟩) R s := by
  have hSw : S ∉ wr := fun z => hSf (W.sub _ z)
  have subw : ∀ b ∈ wr, b ∈ S :: wr := fun b hb => List.mem_cons_of_mem _ hb
  intro m
  induction m with
  | zero =>
    intro i cur s hm hi hc hst hS hR
    obtain rfl : i = n := by omega
    refine codeAny_builtin F.entry_set_update_loop ?_
    rw [Around.under_plainId F.plain_set_update_loop _]
    show wpAny _ A.in1 (pyNext (.ref I) >>= _) _ _ s
    refine wpAny_bind (W.done s _ _ hst fun s' mv => ?_)
    show wpAny _ A.in1 (PySem.ret Value.none) _ _ s'
    refine wpAny_pure (hR s' (mv.mono subw) ?_)
    rw [show zs.drop i = [] from List.drop_of_length_le (by omega)]
    exact hS.at fun o e => mv.heap S o hSw e
  | succ m ih =>
    intro i cur s hm hi hc hst hS hR
    have lt : i < n := by omega
    refine codeAny_builtin F.entry_set_update_loop ?_
    rw [Around.under_plainId F.plain_set_update_loop _]
    show wpAny _ A.in1 (pyNext (.ref I) >>= _) _ _ s
    refine wpAny_bind (W.item i s _ _ lt hst fun v s' hP hst' mv => ?_)
    obtain ⟨y, hy, hk⟩ := hval i v hP
    have hS' : SetG w s'.heap S cur := hS.at fun o e => mv.heap S o hSw e
    show wpAny _ A.in1 (holding [v] (setAdd S v) >>= _) _ _ s'
    refine wpAny_bind (wpAny_holding ?_)
    unfold setAdd
    refine wpAny_holding ?_
    refine wpAny_bind ((mixKind P w).pyHash (k := y) hk ?_)
    refine setG_addHashed (s := { s' with toks := s'.toks + 1 }) hk hS' (by omega) fun _ h' hsb hS2 => ?_
    have hle := addK_len cur y
    refine wpAny_pure ⟨plainId_quiet F.plain_set_update_loop _, ih (i + 1) _ _ (by omega) lt (by omega) (W.frame _ s' _ _ hst' (Nat.le_succ _) fun b hb o e => ?_) hS2 fun s'' mv'' hS'' => ?_⟩
    · rw [hsb.2 b (fun q : b = S => hSf (by rw [← q]; exact hb))]; exact e
    · refine hR s'' (Moved.trans W.gtrans ((mv.mono subw).then_heap (Nat.le_succ _) fun b o hb e => ?_) mv'') ?_
      · rw [hsb.2 b (fun q : b = S => hb (by rw [q]; exact List.mem_cons_self))]; exact e
      · have ed : zs.drop i = y :: zs.drop (i + 1) := by
          have hlt : i < zs.length := by omega
          rw [List.drop_eq_getElem_cons hlt]
          rw [List.getElem?_eq_getElem hlt] at hy
          rw [Option.some.inj hy]
        rw [ed]
        exact hS''
end
end Det
/-! Det, part K: set(xs). -/
namespace Det
open PySem PySem.Spec PyProof.Rows L2
@[reducible] def newS (w : World) : Obj := { cls := .type "set", dict := none, data := .set #[] 0 (.fresh 0 0 (!w.params.followText "set-order")) }
section
variable {P : Program} {w : World} {A : Around} {E : Value → Shared → Prop} {s : Shared}

set_option maxRecDepth 100000 in
theorem set_of_list {l : Addr} {its : Array Value} {zs : List Key} {Q : Value → Shared → Prop} (hh : A.handled = none) (hl : s.heap.IsList l its) (hz : zs.length = its.size) (hk : ∀ (i : Nat) (v : Value), its[i]? = some v → ∃ y, zs[i]? = some y ∧ (mixKind P w).is y v = true) (room : zs.length + 2 < scanBound)
    (fin : ∀ (hp : Heap) (tk : Nat), SetG w hp s.heap.objs.size (addKs [] zs) → (∀ b o, s.heap.get? b = some o → hp.get? b = some o) → Q (.ref s.heap.objs.size) { s with heap := hp, toks := tk }) :
    wpAny (model P w) A (call (.type "set") [.ref l]) Q E s := by
  obtain ⟨c0, tl0, hmro⟩ := PySem.F.called_set.mro
  have hmd := PySem.F.called_set.made
  have hsb := PySem.F.called_set.sub
  refine wpAny_call (codeAny_of_tree ?_)
  show wpAny _ _ (callAny (.type "set") _) _ _ _
  refine wpAny_pure ⟨Code.quiet_builtin _ (by decide +kernel), codeAny_builtin PySem.F.entry_type_call ?_⟩
  rw [Around.under_plain (weight_type_call_type "set" [.ref l] []) rfl]
  have f1 := PySem.F.called_set.notType
  have f2 := PySem.F.called_set.canCreate
  have f3 := PySem.F.typeCall_set_1 (.ref l)
  repeat (any_goals (first | assumption | wp_step))
  refine codeAny_mono (code_set_led1 (.ref l) (E := E) (Q₁ := fun obj sx => obj = .ref s.heap.objs.size ∧ sx = { s with heap := s.heap.push (newS w) }) ⟨rfl, rfl⟩) fun r sx hr => ?_
  cases r with
  | error e => exact hr
  | ok fl =>
    cases fl with
    | ret obj =>
      obtain ⟨rfl, rfl⟩ := hr
      have atS : (s.heap.push (newS w)).get? s.heap.objs.size = some (newS w) := Heap.get?_push_size _ rfl
      have hT : Shared.TypeIs { s with heap := s.heap.push (newS w) } (.ref s.heap.objs.size) "set" := ⟨_, atS, rfl⟩
      have hli := PySem.F.called_set.init.lookup
      have hbi := PySem.F.called_set.init.bind (.ref s.heap.objs.size)
      repeat (any_goals (first | assumption | wp_step))
      refine codeAny_mono (codeAny_call_builtin (R := wants (fun r sy => r = .none ∧ ∃ hp tk, sy = { s with heap := hp, toks := tk } ∧ SetG w hp s.heap.objs.size (addKs [] zs) ∧
          (∀ b o, s.heap.get? b = some o → hp.get? b = some o)) E) PySem.F.called_set.init.plain PySem.F.entry_set_init (check_set_init_1 hT ?_)) fun r₂ sy hr₂ => ?_
      · obtain ⟨⟨ocls, odict, odata, oslots⟩, hol, hcl, nl, hdl⟩ := hl
        simp only at hcl hdl
        subst hcl; subst hdl
        have hol' : (s.heap.push (newS w)).get? l = some { cls := .type "list", dict := odict, data := .seq its nl, slots := oslots } := Heap.get?_push_of_some _ hol
        have hs1 := PySem.F.sub_list_set
        have hs2 := PySem.F.sub_list_frozenset
        have hne : (Value.type "list" == Value.type "dict") = false := by decide
        have hl1 : (s.heap.push (newS w)).IsList l its := ⟨_, hol', rfl, nl, rfl⟩
        unfold Builtin.«set.__init__» noKeywords Builtin.Frozenset.updateFrom
        generalize hIter : pyIter = walkIter
        wp_walk
        subst hIter
        refine wpAny_pyIter_list hl1 ?_
        refine wpAny_bind (wpAny_runValue ?_)
        have hlS : l < s.heap.objs.size := Heap.lt_size hol
        have hd3 : A.in1.in1.in1.handled = none := by simp [hh]
        have hneI : l ≠ (s.heap.push (newS w)).objs.size := by
          rw [Heap.size_push]; exact Nat.ne_of_lt (Nat.lt_succ_of_lt hlS)
        have hSf : s.heap.objs.size ∉ [(s.heap.push (newS w)).objs.size, l] := by
          rw [Heap.size_push]; simp only [List.mem_cons, List.mem_singleton, List.not_mem_nil, or_false, not_or]
          exact ⟨Nat.ne_of_lt (Nat.lt_succ_self _), Nat.ne_of_gt hlS⟩
        refine setG_update ((Walks.list hd3 _ l hneI its).toS) s.heap.objs.size hSf zs hz.symm hk (its.size - 0) 0 [] _ (by omega) (Nat.zero_le _) (by rw [List.length_nil]; omega)
          ⟨⟨_, Heap.get?_push_size _ rfl, rfl, rfl⟩, (hl1.push _)⟩ ?first ?last
        case first => exact SetG.fresh (Heap.get?_push_of_some _ atS)
        case last =>
          intro s' mv hS'
          obtain ⟨hp, gg, dd, tk, oo⟩ := s'
          have e1 : gg = s.gens := mv.gens
          have e2 : dd = s.drawn := mv.drawn
          have e3 : oo = s.os := mv.os
          subst e1; subst e2; subst e3
          show wpAny _ _ _ _ _ _
          refine wpAny_pure ?_
          show wpAny _ _ (PySem.ret Value.none) _ _ _
          refine wpAny_pure ⟨rfl, hp, tk, rfl, hS', fun b o e => ?_⟩
          have hb0 : b < s.heap.objs.size := Heap.lt_size e
          have hb2 : b ≠ (s.heap.push (newS w)).objs.size := by
            rw [Heap.size_push]; exact Nat.ne_of_lt (Nat.lt_succ_of_lt hb0)
          exact mv.heap b o (by simp only [List.mem_cons, List.mem_singleton, List.not_mem_nil, or_false, not_or]; exact ⟨Nat.ne_of_lt hb0, hb2⟩) (Heap.get?_push_of_some _ (Heap.get?_push_of_some _ e))
      · cases r₂ with
        | error e => exact hr₂
        | ok fl₂ =>
          cases fl₂ with
          | ret r =>
            obtain ⟨rfl, hp, tk, rfl, hS', hk'⟩ := hr₂
            repeat (any_goals (first | assumption | wp_step))
            exact fin _ _ hS' hk'
          | _ => exact hr₂.elim
    | _ => exact hr.elim


set_option maxRecDepth 100000 in
theorem set_of_tuple {l : Addr} {its : Array Value} {zs : List Key} {Q : Value → Shared → Prop} (hh : A.handled = none) (hl : s.heap.IsTuple l its) (hz : zs.length = its.size) (hk : ∀ (i : Nat) (v : Value), its[i]? = some v → ∃ y, zs[i]? = some y ∧ (mixKind P w).is y v = true) (room : zs.length + 2 < scanBound)
    (fin : ∀ (hp : Heap) (tk : Nat), SetG w hp s.heap.objs.size (addKs [] zs) → (∀ b o, s.heap.get? b = some o → hp.get? b = some o) → Q (.ref s.heap.objs.size) { s with heap := hp, toks := tk }) :
    wpAny (model P w) A (call (.type "set") [.ref l]) Q E s := by
  obtain ⟨c0, tl0, hmro⟩ := PySem.F.called_set.mro
  have hmd := PySem.F.called_set.made
  have hsb := PySem.F.called_set.sub
  refine wpAny_call (codeAny_of_tree ?_)
  show wpAny _ _ (callAny (.type "set") _) _ _ _
  refine wpAny_pure ⟨Code.quiet_builtin _ (by decide +kernel), codeAny_builtin PySem.F.entry_type_call ?_⟩
  rw [Around.under_plain (weight_type_call_type "set" [.ref l] []) rfl]
  have f1 := PySem.F.called_set.notType
  have f2 := PySem.F.called_set.canCreate
  have f3 := PySem.F.typeCall_set_1 (.ref l)
  repeat (any_goals (first | assumption | wp_step))
  refine codeAny_mono (code_set_led1 (.ref l) (E := E) (Q₁ := fun obj sx => obj = .ref s.heap.objs.size ∧ sx = { s with heap := s.heap.push (newS w) }) ⟨rfl, rfl⟩) fun r sx hr => ?_
  cases r with
  | error e => exact hr
  | ok fl =>
    cases fl with
    | ret obj =>
      obtain ⟨rfl, rfl⟩ := hr
      have atS : (s.heap.push (newS w)).get? s.heap.objs.size = some (newS w) := Heap.get?_push_size _ rfl
      have hT : Shared.TypeIs { s with heap := s.heap.push (newS w) } (.ref s.heap.objs.size) "set" := ⟨_, atS, rfl⟩
      have hli := PySem.F.called_set.init.lookup
      have hbi := PySem.F.called_set.init.bind (.ref s.heap.objs.size)
      repeat (any_goals (first | assumption | wp_step))
      refine codeAny_mono (codeAny_call_builtin (R := wants (fun r sy => r = .none ∧ ∃ hp tk, sy = { s with heap := hp, toks := tk } ∧ SetG w hp s.heap.objs.size (addKs [] zs) ∧
          (∀ b o, s.heap.get? b = some o → hp.get? b = some o)) E) PySem.F.called_set.init.plain PySem.F.entry_set_init (check_set_init_1 hT ?_)) fun r₂ sy hr₂ => ?_
      · obtain ⟨⟨ocls, odict, odata, oslots⟩, hol, hcl, nl, hdl⟩ := hl
        simp only at hcl hdl
        subst hcl; subst hdl
        have hol' : (s.heap.push (newS w)).get? l = some { cls := .type "tuple", dict := odict, data := .seq its nl, slots := oslots } := Heap.get?_push_of_some _ hol
        have hs1 := PySem.F.sub_tuple_set
        have hs2 := PySem.F.sub_tuple_frozenset
        have hne : (Value.type "tuple" == Value.type "dict") = false := by decide
        have hl1 : (s.heap.push (newS w)).IsTuple l its := ⟨_, hol', rfl, nl, rfl⟩
        unfold Builtin.«set.__init__» noKeywords Builtin.Frozenset.updateFrom
        generalize hIter : pyIter = walkIter
        wp_walk
        subst hIter
        refine wpAny_pyIter_tuple hl1 ?_
        refine wpAny_bind (wpAny_runValue ?_)
        have hlS : l < s.heap.objs.size := Heap.lt_size hol
        have hd3 : A.in1.in1.in1.handled = none := by simp [hh]
        have hneI : l ≠ (s.heap.push (newS w)).objs.size := by
          rw [Heap.size_push]; exact Nat.ne_of_lt (Nat.lt_succ_of_lt hlS)
        have hSf : s.heap.objs.size ∉ [(s.heap.push (newS w)).objs.size, l] := by
          rw [Heap.size_push]; simp only [List.mem_cons, List.mem_singleton, List.not_mem_nil, or_false, not_or]
          exact ⟨Nat.ne_of_lt (Nat.lt_succ_self _), Nat.ne_of_gt hlS⟩
        refine setG_update ((Walks.tuple hd3 _ l hneI its).toS) s.heap.objs.size hSf zs hz.symm hk (its.size - 0) 0 [] _ (by omega) (Nat.zero_le _) (by rw [List.length_nil]; omega)
          ⟨⟨_, Heap.get?_push_size _ rfl, rfl, rfl⟩, (hl1.push _)⟩ ?first ?last
        case first => exact SetG.fresh (Heap.get?_push_of_some _ atS)
        case last =>
          intro s' mv hS'
          obtain ⟨hp, gg, dd, tk, oo⟩ := s'
          have e1 : gg = s.gens := mv.gens
          have e2 : dd = s.drawn := mv.drawn
          have e3 : oo = s.os := mv.os
          subst e1; subst e2; subst e3
          show wpAny _ _ _ _ _ _
          refine wpAny_pure ?_
          show wpAny _ _ (PySem.ret Value.none) _ _ _
          refine wpAny_pure ⟨rfl, hp, tk, rfl, hS', fun b o e => ?_⟩
          have hb0 : b < s.heap.objs.size := Heap.lt_size e
          have hb2 : b ≠ (s.heap.push (newS w)).objs.size := by
            rw [Heap.size_push]; exact Nat.ne_of_lt (Nat.lt_succ_of_lt hb0)
          exact mv.heap b o (by simp only [List.mem_cons, List.mem_singleton, List.not_mem_nil, or_false, not_or]; exact ⟨Nat.ne_of_lt hb0, hb2⟩) (Heap.get?_push_of_some _ (Heap.get?_push_of_some _ e))
      · cases r₂ with
        | error e => exact hr₂
        | ok fl₂ =>
          cases fl₂ with
          | ret r =>
            obtain ⟨rfl, hp, tk, rfl, hS', hk'⟩ := hr₂
            repeat (any_goals (first | assumption | wp_step))
            exact fin _ _ hS' hk'
          | _ => exact hr₂.elim
    | _ => exact hr.elim

end
end Det
/-! Det, part L: sorted(set(xs)), len(set(xs)). -/
namespace Det
open PySem PySem.Spec PyProof.Rows L2

/-! ### sorting what is ordered strictly -/
section
variable {α : Type} {le : α → α → Bool}
theorem ins_comm (tr : ∀ a b c, le a b = true → le b c = true → le a c = true) (to : ∀ a b, (le a b || le b a) = true) {a b : α} (anti : le a b = true → le b a = true → a = b) : ∀ l : List α, ins le a (ins le b l) = ins le b (ins le a l) := by
  have go : ∀ (a b : α), le a b = true → ¬ le b a = true → ∀ l : List α, ins le a (ins le b l) = ins le b (ins le a l) := by
    intro a b hab hba l
    induction l with
    | nil => simp [ins, hab, hba]
    | cons c l ih =>
      by_cases hbc : le b c = true
      · have hac := tr _ _ _ hab hbc
        simp [ins, hbc, hac, hab, hba]
      · by_cases hac : le a c = true
        · simp [ins, hbc, hac, hba]
        · simp [ins, hbc, hac, ih]
  intro l
  by_cases h1 : le a b = true
  · by_cases h2 : le b a = true
    · rw [anti h1 h2]
    · exact go a b h1 h2 l
  · have h2 : le b a = true := by
      have := to a b
      rw [Bool.or_eq_true] at this
      exact this.resolve_left h1
    exact (go b a h2 h1 l).symm
theorem isort_perm (tr : ∀ a b c, le a b = true → le b c = true → le a c = true) (to : ∀ a b, (le a b || le b a) = true) {l₁ l₂ : List α} (p : l₁.Perm l₂) (anti : ∀ a ∈ l₁, ∀ b ∈ l₁, le a b = true → le b a = true → a = b) : isort le l₁ = isort le l₂ := by
  induction p with
  | nil => rfl
  | cons x p ih =>
    show ins le x _ = ins le x _
    rw [ih fun a ha b hb => anti a (List.mem_cons_of_mem _ ha) b (List.mem_cons_of_mem _ hb)]
  | swap x y l => exact ins_comm tr to (anti y List.mem_cons_self x (List.mem_cons_of_mem _ List.mem_cons_self)) _
  | trans p q ih1 ih2 => exact (ih1 anti).trans (ih2 fun a ha b hb => anti a (p.mem_iff.mpr ha) b (p.mem_iff.mpr hb))
theorem ins_perm (a : α) : ∀ l : List α, (ins le a l).Perm (a :: l)
  | [] => .refl _
  | b :: l => by
    unfold ins
    split
    · exact .refl _
    · exact ((ins_perm a l).cons b).trans (.swap a b l)
theorem isort_perm_self : ∀ l : List α, (isort le l).Perm l
  | [] => .refl _
  | a :: l => (ins_perm a _).trans ((isort_perm_self l).cons a)
end

/-! ### keys as data -/
def kP : Key → PyData
  | .inl i => .int i
  | .inr x => .str x
def leK (a b : Key) : Bool := PySem.W.dataLe false kP a b
theorem leK_total : PySem.W.TotalLe leK := PySem.W.sortLe_total (listOrd itemOrd) false fun b => PySem.W.keyToks (kP b)
theorem leK_int (a b : Int) : leK (.inl a) (.inl b) = decide (a ≤ b) := congrFun (congrFun (PySem.W.dataLe_int (fun x : Int => x)) a) b
theorem leK_str (a b : Str) : leK (.inr a) (.inr b) = decide (a.cps.toList ≤ b.cps.toList) := congrFun (congrFun (PySem.W.dataLe_str (fun x : Str => x)) a) b
/-- all ints, or all texts -/
def evenK (ys : List Key) : Bool := ys.all (fun y => y.isLeft) || ys.all (fun y => y.isRight)
theorem leK_anti {a b : Key} (h : (a.isLeft && b.isLeft || a.isRight && b.isRight) = true) (h1 : leK a b = true) (h2 : leK b a = true) : a = b := by
  cases a with
  | inl i => cases b with
    | inl j =>
      rw [leK_int] at h1 h2
      have h1 := of_decide_eq_true h1
      have h2 := of_decide_eq_true h2
      rw [Int.le_antisymm h1 h2]
    | inr y => simp at h
  | inr x => cases b with
    | inl j => simp at h
    | inr y =>
      rw [leK_str] at h1 h2
      have h1 := of_decide_eq_true h1
      have h2 := of_decide_eq_true h2
      have e := List.le_antisymm h1 h2
      cases x; cases y
      simp only [Sum.inr.injEq, Str.mk.injEq]
      exact Array.toList_inj.mp e
theorem evenK_two {ys : List Key} (h : evenK ys = true) : ∀ a ∈ ys, ∀ b ∈ ys, (a.isLeft && b.isLeft || a.isRight && b.isRight) = true := fun a ha b hb => by
  unfold evenK at h
  rw [Bool.or_eq_true, List.all_eq_true, List.all_eq_true] at h
  rcases h with h | h
  · rw [h a ha, h b hb]; rfl
  · rw [h a ha, h b hb]; cases a.isLeft <;> cases b.isLeft <;> rfl
section
variable {P : Program} {w : World} {A : Around} {E : Value → Shared → Prop} {s : Shared} {a : Addr} {ys : List Key}
theorem relK_of {y : Key} {u : Value} (h : keyIs y u = true) : RelV (kV y) u := by
  rcases keyIs_shape h with ⟨i, t, rfl, rfl⟩ | ⟨x, t, rfl, rfl⟩
  · exact ⟨t, rfl⟩
  · exact ⟨t, rfl⟩
theorem each_keys' : ∀ {l : List (Int × Value)}, (∀ z ∈ l, KeyE w z) → PySem.W.EachIs (fun u y => RelV (kV y) u) (l.map (·.2)) (l.map keyAt)
  | [], _ => .nil
  | z :: l, h => by
    refine .cons ?_ (each_keys' fun e he => h e (List.mem_cons_of_mem _ he))
    obtain ⟨y, h1, h2⟩ := h z List.mem_cons_self
    have e : keyAt z = y := (KeyE.is (P := default) (w := w) ⟨y, h1, h2⟩ y).mp h1
    rw [e]
    exact relK_of h1
theorem each_key_of : ∀ {l : List Value}, (∀ u ∈ l, ∃ y, keyIs y u = true) → PySem.W.EachIs (fun u y => RelV (kV y) u) l (l.map fun u => keyAt (0, u))
  | [], _ => .nil
  | u :: l, h => by
    refine .cons ?_ (each_key_of fun e he => h e (List.mem_cons_of_mem _ he))
    obtain ⟨y, h1⟩ := h u List.mem_cons_self
    have e : keyAt (0, u) = y := by
      rcases keyIs_shape h1 with ⟨i, t, rfl, rfl⟩ | ⟨x, t, rfl, rfl⟩ <;> rfl
    show RelV (kV (keyAt (0, u))) u
    rw [e]
    exact relK_of h1
theorem keyReads {h : Heap} {y : Key} {u : Value} (r : RelV (kV y) u) : ∃ as, Reads h u (kP y) as := by
  cases y with
  | inl i => obtain ⟨t, rfl⟩ := r; exact ⟨_, .int i t⟩
  | inr x => obtain ⟨t, rfl⟩ := r; exact ⟨_, .str x t⟩
theorem even_alike (h : evenK ys = true) : PySem.W.AllAlike (ys.map kP) ∧ PySem.W.Sortable (ys.map kP) := by
  refine ⟨fun p hp q hq => ?_, .inr fun p hp => ?_⟩
  · obtain ⟨x, hx, rfl⟩ := List.mem_map.mp hp
    obtain ⟨y, hy, rfl⟩ := List.mem_map.mp hq
    have := evenK_two h x hx y hy
    cases x <;> cases y <;> first | rfl | (simp at this)
  · obtain ⟨x, hx, rfl⟩ := List.mem_map.mp hp
    cases x <;> exact ⟨(fun z => nomatch z), (fun _ z => nomatch z)⟩
/-- sorted(s), s a set -/
theorem sorted_setG {Q : Value → Shared → Prop} (R : SetG w s.heap a ys) (hh : A.handled = none) (ev : evenK ys = true) (hu : A.units + 8 < cLine)
    (fin : ∀ (s' : Shared) p (out : List Value) (c : Nat), (∀ b o, s.heap.get? b = some o → s'.heap.get? b = some o) → s'.gens = s.gens → s'.os = s.os → s.heap.objs.size ≤ p →
      s'.heap.get? p = some (seqObj "list" out.toArray c) → PySem.W.EachIs (fun u y => RelV (kV y) u) out (isort leK ys) → Q (.ref p) s') :
    wpAny (model P w) A (call (.builtin "sorted") [.ref a]) Q E s := by
  obtain ⟨ob, rows, stamp, tab, ho, hex, hd, g, pm0, nd, hb, hf, hr, hl⟩ := R
  have hn : rows.size = ys.length := by rw [← pm0.length_eq, List.length_map, Array.length_toList]
  refine PyProof.Rows.call_function_entry_kw kind_sorted plain_sorted entry_sorted (args_sorted1 _) ?_
  unfold Builtin.«sorted»
  refine wpAny_bind (m := checkCount "sorted" 1 1 _) (wpAny_pure ?_)
  refine wpAny_bind (collect_set (A := A.in1) hh ⟨ob, ho, hex.1, hd⟩ hf hb hr hl fun s1 vs keep hsz g1 o1 pm => ?_)
  have hlv : vs.length = ys.length := by rw [pm.length_eq, List.length_map, Array.length_toList]; exact hn
  have hvs : ∀ u ∈ vs, ∃ y, keyIs y u = true := fun u hu => by
    obtain ⟨z, hz, rfl⟩ := List.mem_map.mp (pm.mem_iff.mp hu)
    obtain ⟨y, h1, _⟩ := g z hz
    exact ⟨y, h1⟩
  have eK := each_key_of hvs
  have pk : (vs.map fun u => keyAt (0, u)).Perm ys := by
    have q := pm.map fun u => keyAt (0, u)
    rw [List.map_map] at q
    refine q.trans ?_
    have : ((fun u => keyAt (0, u)) ∘ fun (x : Int × Value) => x.2) = keyAt := by
      funext z; obtain ⟨i, u⟩ := z; cases u <;> rfl
    rw [this]
    exact pm0
  have ev' : evenK (vs.map fun u => keyAt (0, u)) = true := by
    unfold evenK at ev ⊢
    rw [Bool.or_eq_true, List.all_eq_true, List.all_eq_true] at ev ⊢
    exact ev.imp (fun h x hx => h x (pk.mem_iff.mp hx)) (fun h x hx => h x (pk.mem_iff.mp hx))
  obtain ⟨al, so⟩ := even_alike ev'
  have hL : vs.length ≤ sizeLine := by
    rw [hlv, ← hn]; exact fits_of_scanBound hb
  refine wpAny_bind (wpAny_newList ?_ hL)
  have hoL : (s1.heap.push (seqObj "list" vs.toArray 0)).get? s1.heap.objs.size = some (seqObj "list" vs.toArray 0) := Heap.get?_push_size _ rfl
  have er : ∀ hp : Heap, PySem.W.EachIs (fun v b => ∃ as, Reads hp v (kP b) as) vs (vs.map fun u => keyAt (0, u)) := fun hp => each_imp (fun u y r => keyReads r) eK
  have S := PySem.W.SortsAt.data (prog := P) (w := w) (A := A.in1.in1) (s := { s1 with heap := PySem.W.sortingHeap (s1.heap.push (seqObj "list" vs.toArray 0)) s1.heap.objs.size vs }) (PySem.W.each_map (R := fun v d => ∃ as, Reads (PySem.W.sortingHeap (s1.heap.push (seqObj "list" vs.toArray 0)) s1.heap.objs.size vs) v d as) kP (er _)) al so
    (fun d hd => by
      obtain ⟨b, hb, rfl⟩ := List.mem_map.mp hd
      have e0 : (kP b).depth ≤ 1 := by cases b <;> simp [kP, PyData.depth]
      have e1 : A.in1.in1.units ≤ A.units + 2 := by first | exact Nat.le_refl _ | rfl | (show A.units + 1 + 1 ≤ A.units + 2; omega)
      omega)
  refine wpAny_bind (wpAny_holding (wpAny_call_entry_kw slot_list_sort ⟨_, hoL, rfl⟩ entry_list_sort ?body (args_list_sort _)))
  case body =>
    obtain ⟨ep, hat⟩ := sortedHeap_at (out := List.toArray (PySem.W.sortVals (PySem.W.dataKind (PySem.W.sortingHeap (s1.heap.push (seqObj "list" vs.toArray 0)) s1.heap.objs.size vs) ((vs.map fun u => keyAt (0, u)).map kP)) false vs vs)) hoL
    refine wpAny_mono (PySem.W.list_sort_vals (prog := P) (w := w) (A := A.in1.in1) (E := fun _ _ => False) (P := fun f s' => f = .done (.ret .none) ∧ Q (.ref s1.heap.objs.size) s') (s := { s1 with heap := s1.heap.push (seqObj "list" vs.toArray 0) }) hoL S hL
      ⟨rfl, fin _ s1.heap.objs.size _ ep (fun b o e => ?_) g1 o1 hsz hat ?_⟩) (fun f s' hf => ?_) fun _ _ x => x.elim
    · have q := keep b o e
      have hlt := Heap.lt_size q
      show (sortedHeap _ _ _ _).get? b = some o
      rw [sortedHeap_old (Nat.ne_of_lt hlt) (by rw [size_push']; exact Nat.lt_succ_of_lt hlt)]
      exact Heap.get?_push_of_some _ q
    · have q := PySem.W.sortVals_data (h' := PySem.W.sortingHeap (s1.heap.push (seqObj "list" vs.toArray 0)) s1.heap.objs.size vs) false eK (er _) al
      rw [show PySem.W.dataLe false kP = leK from rfl, isort_eq (fun a b c => leK_total.trans a b c) (fun a b => by have := leK_total.total a b; simpa using this)] at q
      rw [isort_perm (fun a b c => leK_total.trans a b c) (fun a b => by have := leK_total.total a b; simpa using this) pk (fun a ha b hb h1 h2 => leK_anti (evenK_two ev' a ha b hb) h1 h2)] at q
      exact q
    · obtain ⟨rfl, hq⟩ := hf
      exact ⟨_, rfl, wpAny_pure ⟨_, rfl, hq⟩⟩
end
end Det
/-! Det, part M: the rules of sorted(set(xs)), len(set(xs)). -/
namespace Det
open PySem PySem.Spec PyProof.Rows L2

def keyD : Key → D
  | .inl i => .int i
  | .inr x => .str x
def dKey : D → Option Key
  | .int i => some (.inl i)
  | .str x => some (.inr x)
  | _ => none
def keysOf : List D → Option (List Key)
  | [] => some []
  | d :: ds => match dKey d, keysOf ds with
    | some y, some ys => some (y :: ys)
    | _, _ => none
theorem keys_rel {K : PySem.W.Frag} {φ : List Addr} {H : Hp} : ∀ {ds : List D} {ys : List Key} {vs : List V}, keysOf ds = some ys → RelDs K φ H ds vs → vs = ys.map kV
  | [], ys, vs, e, r => by
    cases r
    cases e
    rfl
  | d :: ds, ys, vs, e, r => by
    cases r with
    | cons h t =>
      unfold keysOf at e
      split at e
      · rename_i y ys' h1 h2
        cases e
        rw [keys_rel h2 t]
        cases h with
        | int i => cases h1; rfl
        | str x => cases h1; rfl
        | _ => cases h1
      · cases e
theorem keyDs_rel {K : PySem.W.Frag} {φ : List Addr} {H : Hp} : ∀ ys : List Key, RelDs K φ H (ys.map keyD) (ys.map kV)
  | [] => .nil
  | .inl i :: ys => .cons (.int i) (keyDs_rel ys)
  | .inr x :: ys => .cons (.str x) (keyDs_rel ys)
theorem each_kvals : ∀ {us : List Value} {ys : List Key}, PySem.W.EachIs (fun u y => RelV (kV y) u) us ys → Vals (ys.map kV) us
  | _, _, .nil => .nil
  | _, _, .cons r t => .cons r (each_kvals t)
def setHO (w : World) (a : Addr) (ys : List Key) : HO := .ext fun h => SetG w h a ys
section
variable {X : Cx}
def rSetK (K : PySem.W.Frag) (w : World) : List V → Hp → VK → Prop := fun xs H Q => ∃ (p : Addr) (zs : List Key), xs = [.ref p] ∧ (SqL K H p (zs.map kV) ∨ SqT K H p (zs.map kV)) ∧ zs.length + 2 < scanBound ∧
  ∀ q, H q = none → Q (.ref q) (upd H q (setHO w q (addKs [] zs)))
theorem at_key {zs : List Key} {its : List Value} (r : Vals (zs.map kV) its) : ∀ (i : Nat) (v : Value), its.toArray[i]? = some v → ∃ y, zs[i]? = some y ∧ (mixKind X.prog X.w).is y v = true := fun i v hv => by
  have hv' : its[i]? = some v := by simpa using hv
  have hl := r.length
  rw [List.length_map] at hl
  have hi : i < zs.length := by rw [hl]; exact (List.getElem?_eq_some_iff.mp hv').1
  obtain ⟨u, h1, h2⟩ := r.get (i := i) (x := kV zs[i]) (by simp [hi])
  rw [hv'] at h1
  cases h1
  exact ⟨zs[i], by simp [hi], kV_is h2⟩
theorem c_setK (hc : X.calm = true) : CallR X (.type "set") (rSetK X.K X.w) := by
  rintro pins s σ H xs us Q I r ⟨p, zs, rfl, hs, room, q⟩
  obtain ⟨u, rfl, ru⟩ := Vals.one r
  cases ru
  have fin : ∀ (hp : Heap) (tk : Nat), SetG X.w hp s.heap.objs.size (addKs [] zs) → (∀ b o, s.heap.get? b = some o → hp.get? b = some o) → EP X pins σ Q (.ref s.heap.objs.size) { s with heap := hp, toks := tk } := fun hp tk R keep => by
    have R2 := R
    obtain ⟨ob, _, _, _, ho, _⟩ := R2
    have hfree : H s.heap.objs.size = none := I.hok.fresh (Nat.le_refl _)
    exact ⟨.ref _, _, I.laid (o := setHO X.w s.heap.objs.size (addKs [] zs)) keep (Nat.le_refl _) ⟨R, ⟨ob, ho⟩, fun h1 h2 p k => SetG.at p k⟩, rfl, q _ hfree⟩
  rcases hs with hs | hs
  · obtain ⟨its, rv, hl, _⟩ := I.list hs
    have hn := rv.length
    rw [List.length_map] at hn
    exact set_of_list (I.ok.hd hc) hl.isList (by rw [List.size_toArray]; exact hn) (at_key rv) room fin
  · obtain ⟨its, rv, ht, _⟩ := I.tuple hs
    have hn := rv.length
    rw [List.length_map] at hn
    exact set_of_tuple (I.ok.hd hc) ht (by rw [List.size_toArray]; exact hn) (at_key rv) room fin
def rSortG (w : World) : List V → Hp → VK → Prop := fun xs H Q => ∃ (p : Addr) (ys : List Key), xs = [.ref p] ∧ H p = some (setHO w p ys) ∧ evenK ys = true ∧ ∀ q, H q = none → Q (.ref q) (upd H q (.lst ((isort leK ys).map kV)))
theorem c_sortG (hc : X.calm = true) (hu : X.A.units + 64 < cLine) : CallR X (.builtin "sorted") (rSortG X.w) := by
  rintro pins s σ H xs us Q I r ⟨p, ys, rfl, hp, ev, q⟩
  obtain ⟨u, rfl, ru⟩ := Vals.one r
  cases ru
  have R : SetG X.w s.heap p ys := (I.hok p _ hp).1
  have R2 := R
  obtain ⟨ob, rows, stamp, tab, ho, hex, hd, g, pm0, nd, hb, hf, hr, hl⟩ := R2
  have hn : rows.size = ys.length := by rw [← pm0.length_eq, List.length_map, Array.length_toList]
  refine sorted_setG R (I.ok.hd hc) ev (by omega) fun s' pp out c keep g1 o1 le at1 eo => ?_
  have hfree : H pp = none := I.hok.fresh le
  have rv := each_kvals eo
  have lo := rv.length
  refine ⟨.ref pp, upd H pp (.lst ((isort leK ys).map kV)), I.call' (ch := []) o1 (Un.laid keep le hfree) (I.hok.laid keep le ⟨?_, out, c, rv, at1⟩) (by rw [g1]; exact I.bare) (fun _ z => nomatch z), rfl, q _ hfree⟩
  rw [List.length_map, (isort_perm_self ys).length_eq, ← hn]
  exact fits_of_scanBound hb
def rLenG (w : World) : List V → Hp → VK → Prop := fun xs H Q => ∃ (p : Addr) (ys : List Key), xs = [.ref p] ∧ H p = some (setHO w p ys) ∧ Q (.int (ys.length : Nat)) H
theorem c_lenG : CallR X (.builtin "len") (rLenG X.w) := by
  rintro pins s σ H xs us Q I r ⟨p, ys, rfl, hp, q⟩
  obtain ⟨u, rfl, ru⟩ := Vals.one r
  cases ru
  obtain ⟨ob, rows, stamp, tab, ho, hex, hd, g, pm0, nd, hb, hf, hr, hl⟩ : SetG X.w s.heap p ys := (I.hok p _ hp).1
  have hn : rows.size = ys.length := by rw [← pm0.length_eq, List.length_map, Array.length_toList]
  have hb2 : rows.size < 4096 := hb
  exact call_len_set ho hex hd hf (by omega) ⟨.int (ys.length : Nat), H, I.tok _, ⟨_, by rw [hn]⟩, q⟩
end
/-! ### as functions -/
def oSSet : Op1 := fun a mh => match itemsD mh a with
  | some ds => match keysOf ds with
    | some zs => if zs.length + 2 < 4096 ∧ evenK (addKs [] zs) = true then some (.ref mh.length, mh ++ [.lst ((isort leK (addKs [] zs)).map keyD)]) else none
    | none => none
  | none => none
def oLSet : Op1 := fun a mh => match itemsD mh a with
  | some ds => match keysOf ds with
    | some zs => if zs.length + 2 < 4096 then some (.int ((addKs [] zs).length : Nat), mh) else none
    | none => none
  | none => none
section
variable {X : Cx} {W : WX} {e : Expr} {f : ME} {p p2 q pos : Pos}
theorem se_sset (hc : X.calm = true) (hu : X.A.units + 64 < cLine) (hm : X.mg "sorted" = none) (hm2 : X.mg "set" = none) (he : SE X W e f) (hg : Gl X "sorted" := by rfl) (hg2 : Gl X "set" := by rfl)
    (h0 : starEach (e :: []) X.env = (false, eval e X.env) :: starEach [] X.env := by rfl) (h1 : starEach (.Call (.Name "set" p2) [e] [] q :: []) X.env = (false, eval (.Call (.Name "set" p2) [e] [] q) X.env) :: starEach [] X.env := by rfl) :
    SE X W (.Call (.Name "sorted" p) [.Call (.Name "set" p2) [e] [] q] [] pos) (un oSSet f) := by
  refine (pe_callB (c_sortG hc hu) hg hm boot_sorted (pa_cons (pe_callTy (c_setK hc) hg2 hm2 boot_set (pa_cons he pa_nil h0) (he := h0)) pa_nil h1) (he := h1)).imp ?_
  rintro σ H Q ⟨φ, env, mh, re, hh, pp⟩
  refine ⟨φ, env, mh, re, hh, post_mono (Px.refl φ) (Kp.refl H) (post_bind (R1 := RelD X.K) pp) ?_⟩
  rintro x H1 ⟨φ1, d, mh1, p1, k1, hh1, r1, qq⟩
  have q2 := post_ofO qq
  unfold oSSet at q2
  cases hi : itemsD mh1 d with
  | none => rw [hi] at q2; exact q2.elim
  | some ds =>
    rw [hi] at q2
    simp only at q2
    cases hk : keysOf ds with
    | none => rw [hk] at q2; exact q2.elim
    | some zs =>
      rw [hk] at q2
      simp only at q2
      by_cases hz : zs.length + 2 < 4096 ∧ evenK (addKs [] zs) = true
      · rw [if_pos hz] at q2
        obtain ⟨pa, vs, rfl, hs, rs⟩ := seq_of hh1 r1 hi
        have ev := keys_rel hk rs
        subst ev
        refine ⟨pa, zs, rfl, hs, hz.1, fun a ha => ?_⟩
        refine ⟨a, addKs [] zs, rfl, upd_same, hz.2, fun b hb => ?_⟩
        have hh2 : HR X.K φ1 mh1 (upd H1 a (setHO X.w a (addKs [] zs))) := hh1.grow ha
        exact postO_new hh2 (fun φ' v H' p' k' => q2 φ' v H' p' ((Kp.new ha).trans k')) (keyDs_rel _) hb
      · rw [if_neg hz] at q2; exact q2.elim
theorem se_lset (hc : X.calm = true) (hm : X.mg "len" = none) (hm2 : X.mg "set" = none) (he : SE X W e f) (hg : Gl X "len" := by rfl) (hg2 : Gl X "set" := by rfl)
    (h0 : starEach (e :: []) X.env = (false, eval e X.env) :: starEach [] X.env := by rfl) (h1 : starEach (.Call (.Name "set" p2) [e] [] q :: []) X.env = (false, eval (.Call (.Name "set" p2) [e] [] q) X.env) :: starEach [] X.env := by rfl) :
    SE X W (.Call (.Name "len" p) [.Call (.Name "set" p2) [e] [] q] [] pos) (un oLSet f) := by
  refine (pe_callB c_lenG hg hm boot_len (pa_cons (pe_callTy (c_setK hc) hg2 hm2 boot_set (pa_cons he pa_nil h0) (he := h0)) pa_nil h1) (he := h1)).imp ?_
  rintro σ H Q ⟨φ, env, mh, re, hh, pp⟩
  refine ⟨φ, env, mh, re, hh, post_mono (Px.refl φ) (Kp.refl H) (post_bind (R1 := RelD X.K) pp) ?_⟩
  rintro x H1 ⟨φ1, d, mh1, p1, k1, hh1, r1, qq⟩
  have q2 := post_ofO qq
  unfold oLSet at q2
  cases hi : itemsD mh1 d with
  | none => rw [hi] at q2; exact q2.elim
  | some ds =>
    rw [hi] at q2
    simp only at q2
    cases hk : keysOf ds with
    | none => rw [hk] at q2; exact q2.elim
    | some zs =>
      rw [hk] at q2
      simp only at q2
      by_cases hz : zs.length + 2 < 4096
      · rw [if_pos hz] at q2
        obtain ⟨pa, vs, rfl, hs, rs⟩ := seq_of hh1 r1 hi
        have ev := keys_rel hk rs
        subst ev
        refine ⟨pa, zs, rfl, hs, hz, fun a ha => ?_⟩
        refine ⟨a, addKs [] zs, rfl, upd_same, ?_⟩
        have hh2 : HR X.K φ1 mh1 (upd H1 a (setHO X.w a (addKs [] zs))) := hh1.grow ha
        exact q2 φ1 _ _ (Px.refl φ1) (Kp.new ha) hh2 (.int _)
      · rw [if_neg hz] at q2; exact q2.elim
end
end Det
/-! Det, part N: enumerate(list or tuple). -/
namespace Det
open PySem PySem.Spec PyProof.Rows L2

theorem new_enum_tup (t : Addr) (its : Array Value) (n : Nat) (dc : Option Addr) (sl : Array (Option Value)) :
    Meets (Builtin.«enumerate.__new__» ⟨[.type "enumerate", .ref t], []⟩) (fun _ R s => s.heap.get? t = some { cls := .type "tuple", dict := dc, data := .seq its n, slots := sl } ∧
      R (.ok (.ret (.ref (s.heap.push { cls := .type "tuple_iterator", data := .fields #[.ref t, .int 0 0] }).objs.size)))
        { s with heap := (s.heap.push { cls := .type "tuple_iterator", data := .fields #[.ref t, .int 0 0] }).push { cls := .type "enumerate", data := .fields #[.none, .bool false, .ref s.heap.objs.size, rawInt 0, .none, .none] } }) :=
  .of_wp fun prog w A R s h => by
    obtain ⟨hp, gn, dr, tk, os⟩ := s; obtain ⟨ht, h⟩ := h
    have hsb := PySem.sub_enumerate
    have hT : Heap.IsTuple (Shared.heap ⟨hp, gn, dr, tk, os⟩) t its := ⟨_, ht, rfl, n, rfl⟩
    wp_walk using PySem.AutoSeq1.wpAny_loadPart' ht
    refine wpAny_stack_any fun st => wpAny_pure ?_
    split
    · rename_i c _ _ _ _ _
      cases (c == Value.type "enumerate")
      · wp_walk using PySem.AutoSeq1.wpAny_loadPart' ht, wpAny_pyIter_tuple hT
        exact ⟨_, rfl, h⟩
      · wp_walk using PySem.AutoSeq1.wpAny_loadPart' ht, wpAny_pyIter_tuple hT
        exact ⟨_, rfl, h⟩
    · wp_walk using PySem.AutoSeq1.wpAny_loadPart' ht, wpAny_pyIter_tuple hT
      exact ⟨_, rfl, h⟩
section
variable {prog : Program} {w : World} {A : Around} {E : Value → Shared → Prop} {s : Shared}
theorem make_enum_tup {t : Addr} {its : Array Value} {Q : Value → Shared → Prop} (hT : s.heap.IsTuple t its)
    (fin : ∀ h', IsEnum h' (s.heap.objs.size + 1) s.heap.objs.size 0 .none → h'.IsTupleIter s.heap.objs.size t 0 → h'.objs.size = s.heap.objs.size + 2 →
      (∀ b o, s.heap.get? b = some o → h'.get? b = some o) → Q (.ref (s.heap.objs.size + 1)) { s with heap := h' }) :
    wpAny (model prog w) A (call (.type "enumerate") [.ref t]) Q E s := by
  obtain ⟨⟨c, dc, dt, sl⟩, ht, hc, n, hd⟩ := hT
  replace hc : c = .type "tuple" := hc
  replace hd : dt = .seq its n := hd
  subst hc; subst hd
  refine callType_new PySem.F.called_enumerate (by decide) (PySem.F.typeCall_enumerate_1 _) (PySem.F.newCall_enumerate_1 _) (fun obj => PySem.F.args_object_init_2 obj _) PySem.F.entry_enumerate_new
    (new_enum_tup t its n dc sl) ⟨ht, ?_⟩
  have z1 : (s.heap.push { cls := .type "tuple_iterator", data := .fields #[.ref t, .int 0 0] }).objs.size = s.heap.objs.size + 1 := Heap.size_push ..
  show _ ∧ _
  rw [z1]
  have he : IsEnum ((s.heap.push { cls := .type "tuple_iterator", data := .fields #[.ref t, .int 0 0] }).push
      { cls := .type "enumerate", data := .fields #[.none, .bool false, .ref s.heap.objs.size, rawInt 0, .none, .none] }) (s.heap.objs.size + 1) s.heap.objs.size 0 .none := by
    have q := Heap.get?_push_size (s.heap.push { cls := .type "tuple_iterator", data := .fields #[.ref t, .int 0 0] })
      (o := { cls := .type "enumerate", data := .fields #[.none, .bool false, .ref s.heap.objs.size, rawInt 0, .none, .none] }) rfl
    rw [z1] at q; exact q
  refine ⟨⟨_, he, rfl⟩, fin _ he ⟨_, Heap.get?_push_of_some _ (Heap.get?_push_size _ rfl), rfl, rfl⟩ (by rw [Heap.size_push, z1]) fun b o x => Heap.get?_push_of_some _ (Heap.get?_push_of_some _ x)⟩
end
/-- the tuple at a, each item in a new pair -/
def ItEt (K : PySem.W.Frag) (a : Addr) : It :=
  ⟨fun i H => ∃ (xs : List V) (x : V), SqT K H a xs ∧ xs[i]? = some x, fun i H v H' => ∃ T x, v = .ref T ∧ H T = none ∧ H' = upd H T (.tup [.int (i : Nat), x]) ∧ ∀ xs, SqT K H a xs → xs[i]? = some x, fun i H => ∃ xs : List V, SqT K H a xs ∧ xs.length ≤ i⟩
theorem turn_enumT {P : Program} {w : World} {K : PySem.W.Frag} {elts : List Expr} {kk : Nat} {tpos : Pos} (a e it : Addr) :
    Turn P w K (.Tuple elts kk tpos) (ItEt K a) [e, it] e (fun i h => (∃ old, IsEnum h e it ((i : Nat) : Int) old) ∧ h.IsTupleIter it a i ∧ e ≠ it ∧ a ≠ it ∧ a ≠ e) where
  mem := by simp
  obj := fun i h st b hb => by
    obtain ⟨⟨old, he⟩, ⟨o, ho, hc, hd⟩, _⟩ := st
    have hbe : b = e ∨ b = it := by simpa using hb
    rcases hbe with z | z
    · rw [z]; exact ⟨_, he, fun v q => nomatch q⟩
    · rw [z]; exact ⟨o, ho, fun v q => by rw [hd] at q; cases q⟩
  keep := fun i h h' st k => let ⟨⟨old, he⟩, ⟨o, ho, r⟩, hne⟩ := st; ⟨⟨old, k e (by simp) _ he⟩, ⟨o, k it (by simp) o ho, r⟩, hne⟩
  item := by
    intro X hP hw hK hc i pins s σ H E I hf st hg
    subst hP; subst hw; subst hK
    obtain ⟨⟨old, he⟩, hit, hne, na1, na2⟩ := st
    obtain ⟨xs, x, hq, hx⟩ := hg
    obtain ⟨its, rv, p, hz⟩ := I.tuple hq
    obtain ⟨u, hu, ru⟩ := rv.get hx
    have pT : s.heap.IsTuple a its.toArray := p
    have hel : e < s.heap.objs.size := Heap.lt_size he
    have hil : it < s.heap.objs.size := by obtain ⟨_, q, _⟩ := hit; exact Heap.lt_size q
    have hlt : i < its.toArray.size := by
      have := (List.getElem?_eq_some_iff.mp hu).1
      simpa using this
    have hnd : X.A.in1.handled = none := by have := I.ok.hd hc; simpa using this
    refine wpAny_pyNext_enum_itemD (Draws.tuple hnd it a na1 its.toArray) he ⟨hit, pT⟩ hlt hne (by simp only [List.mem_cons, List.not_mem_nil, or_false, not_or]; exact ⟨hne, na2.symm⟩) fun u' h' tk hu' ho hst' hT hsz hk => ?_
    have eu : u' = u := by
      rw [show its.toArray[i]? = its[i]? by simp, hu] at hu'
      exact (Option.some.inj hu').symm
    subst eu
    refine ⟨_, rfl, wpAny_letOwnedTupleGo_enum (s := { s with heap := h', toks := tk + 1 }) ho fun h'' he' sb => ?_⟩
    have hT2 : h''.get? s.heap.objs.size = some { cls := .type "tuple", data := .seq #[.int i tk, u'] } := (sb.2 _ (Nat.ne_of_gt hel)).trans hT
    have new : ObjOk X.prog X.w (upd H s.heap.objs.size (.tup [.int (i : Nat), x])) h'' s.heap.objs.size (.tup [.int (i : Nat), x]) :=
      ⟨by show 2 ≤ sizeLine; decide, [.int i tk, u'], .cons ⟨_, rfl⟩ (.cons ru .nil), ⟨_, hT2, rfl, _, rfl⟩⟩
    have I1 : Inv X pins σ (upd H s.heap.objs.size (.tup [.int (i : Nat), x])) { s with heap := h'', toks := tk + 1 } :=
      I.turnedNew (ch := [e, it]) (fun b ob hb q => (sb.2 b (fun z => hb (by simp [z]))).trans (hk b ob (fun z => hb (by simp [z])) (fun z => hb (by simp [z])) q)) hf (Nat.le_refl _) new
    refine ⟨.ref s.heap.objs.size, _, I1, rfl, ⟨_, x, rfl, I.hok.fresh (Nat.le_refl _), rfl, fun ys hy => by rw [I.tuple_inj hy hq]; exact hx⟩, ⟨⟨u', ?_⟩, ?_, hne, na1, na2⟩, fun b hb => ?_⟩
    · have e1 : ((i + 1 : Nat) : Int) = (i : Int) + 1 := by omega
      rw [e1]; exact he'
    · obtain ⟨o, h1, r⟩ := hst'.1
      exact ⟨o, (sb.2 it (Ne.symm hne)).trans h1, r⟩
    · have hb' : b < s.heap.objs.size := by
        have hbe : b = e ∨ b = it := by simpa using hb
        rcases hbe with z | z
        · rw [z]; exact hel
        · rw [z]; exact hil
      rw [upd_ne (Nat.ne_of_lt hb')]
      exact (hf b hb).1
  done := by
    intro X hP hw hK hc i pins s σ H E I hf st hg
    subst hP; subst hw; subst hK
    obtain ⟨⟨old, he⟩, hit, hne, na1, na2⟩ := st
    obtain ⟨xs, hq, hx⟩ := hg
    obtain ⟨its, rv, p, hz⟩ := I.tuple hq
    have pT : s.heap.IsTuple a its.toArray := p
    obtain ⟨f0, f1, f2, f3, f4, f5⟩ := hf it (by simp)
    have hl := rv.length
    have hnd : X.A.in1.handled = none := by have := I.ok.hd hc; simpa using this
    unfold pyNext
    have hTy : s.TypeIs (.ref e) "enumerate" := ⟨_, he, rfl⟩
    refine wpAny_bind (wpAny_attempt (wpAny_callSpecial?_slot (name := Str.ofString "__next__") hTy PySem.F.slot_enumerate_next
      (wpAny_call_entry PySem.F.slot_enumerate_next hTy PySem.F.entry_enumerate_next ?_ (PySem.F.args_enumerate_next_1 _))))
    show wpAny _ _ (field (.ref e) 2 >>= _) _ _ _
    refine wpAny_bind (wpAny_field he rfl (x := .ref it) rfl ?_)
    refine wpAny_bind (wpAny_nextOf_tuple_end hnd hit pT (by simp; omega) fun h' x eb hx' => ?_)
    obtain ⟨o, ho, hc'⟩ := hx'
    refine wpAny_bind (wpAny_isInstance (T := "StopIteration") (b := true) ⟨o, ho, hc'⟩ PySem.isSubtype_stop ?_)
    exact wpAny_pure ⟨rfl, I.turned (t' := s.toks) (fun b o hb q => eb b o hb q) f0 f1 f3 f4 f5⟩
  self := fun A i s Q E st h => let ⟨⟨_, he⟩, _⟩ := st; wpAny_pyIter_enum he h
def iEnumA (K : PySem.W.Frag) (ta : TA) : TI := fun σ H R => ta σ H fun vs H1 => ∃ a xs, vs = [.ref a] ∧ (SqL K H1 a xs ∧ R (Ite K a) H1 ∨ SqT K H1 a xs ∧ R (ItEt K a) H1)
theorem pi_enumA {X : Cx} {e : Expr} {ta : TA} {p pos tpos : Pos} {elts : List Expr} {kk : Nat} (hg : Gl X "enumerate") (hm : X.mg "enumerate" = none) (ha : PA X [e] ta) (hs : starEach [e] X.env = [(false, eval e X.env)] := by rfl) :
    PI X (.Tuple elts kk tpos) (.Call (.Name "enumerate" p) [e] [] pos) (iEnumA X.K ta) := by
  refine ⟨fun pins s σ H R I h => ?_⟩
  refine Call_ (ld_blt I hg hm boot_enumerate (PyProof.Rows.callWith_type1 (thn (ha.run pos pins s σ H _ I h) fun us s1 ⟨vs, H1, I1, r1, q1⟩ => ?_) hs rfl))
  obtain ⟨a, xs, ex, q1⟩ := q1
  subst ex
  obtain ⟨u, rfl, ru⟩ := Vals.one r1
  cases ru
  have fpk : ∀ b ∈ [s1.heap.objs.size + 1, s1.heap.objs.size], FpOk X pins H1 b := fun b hb => by
    have hbe : b = s1.heap.objs.size + 1 ∨ b = s1.heap.objs.size := by simpa using hb
    have hle : s1.heap.objs.size ≤ b := by
      rcases hbe with z | z
      · rw [z]; exact Nat.le_add_right _ _
      · rw [z]; exact Nat.le_refl _
    exact I1.fpOk hle (I1.hok.fresh hle)
  rcases q1 with ⟨hq, q⟩ | ⟨hq, q⟩
  · obtain ⟨its, rv, p', hz⟩ := I1.list hq
    exact call_enumerate_list p'.isList fun h' he hit hsz hk => wpAny_pyIter_enum he
      ⟨s1.heap.objs.size + 1, _, _, _, H1, rfl, I1.kept (t' := s1.toks) hk, turn_enum a (s1.heap.objs.size + 1) s1.heap.objs.size, ⟨⟨.none, he⟩, hit, Nat.succ_ne_self _⟩, fpk, q⟩
  · obtain ⟨its, rv, p', hz⟩ := I1.tuple hq
    have pT : s1.heap.IsTuple a its.toArray := p'
    have hal : a < s1.heap.objs.size := by obtain ⟨_, q, _⟩ := pT; exact Heap.lt_size q
    exact make_enum_tup pT fun h' he hit hsz hk => wpAny_pyIter_enum he
      ⟨s1.heap.objs.size + 1, _, _, _, H1, rfl, I1.kept (t' := s1.toks) hk, turn_enumT a (s1.heap.objs.size + 1) s1.heap.objs.size, ⟨⟨.none, he⟩, hit, Nat.succ_ne_self _, Nat.ne_of_lt hal, Nat.ne_of_lt (Nat.lt_succ_of_lt hal)⟩, fpk, q⟩
end Det
/-! Det, part O: enumerate as a function. -/
namespace Det
open PySem PySem.Spec PyProof.Rows L2

def enF : Nat → List D → List D
  | _, [] => []
  | i, d :: ds => .tup [.int (i : Nat), d] :: enF (i + 1) ds
theorem enF_get : ∀ (ds : List D) (k i : Nat), (enF k ds)[i]? = ds[i]?.map fun d => .tup [.int ((k + i : Nat) : Nat), d]
  | [], k, i => by simp [enF]
  | d :: ds, k, 0 => by simp [enF]
  | d :: ds, k, i + 1 => by
    have := enF_get ds (k + 1) i
    simp only [enF, List.getElem?_cons_succ, this]
    congr 1
    funext d
    rw [show k + 1 + i = k + (i + 1) by omega]
theorem enF_len : ∀ (ds : List D) (k : Nat), (enF k ds).length = ds.length
  | [], k => rfl
  | d :: ds, k => by simp [enF, enF_len ds]
def enm (f : ME) : MI := fun env mh => (f env mh).bind fun d mh1 => match d with
  | .tup xs => .ok ⟨enF 0 xs, fun _ => true⟩ mh1
  | .rol xs => .ok ⟨enF 0 xs, fun _ => true⟩ mh1
  | .ref n => match mh1[n]? with
    | some (.lst xs) => .ok ⟨enF 0 xs, lstIs n xs⟩ mh1
    | _ => .no
  | _ => .no
section
variable {X : Cx} {W : WX}
theorem yl_tup {φ : List Addr} {mh : MH} {H : Hp} {T : Addr} {ds : List D} {vs : List V} (hh : HR X.K φ mh H) (hT : H T = none) (r : RelDs X.K φ H ds vs) : Kp H (upd H T (.tup vs)) ∧ HR X.K φ mh (upd H T (.tup vs)) ∧ RelD X.K φ (upd H T (.tup vs)) (.tup ds) (.ref T) :=
  ⟨Kp.new hT, hh.grow hT, .tup (SqT.of upd_same) (r.mono (Px.refl φ) (Kp.new hT))⟩
theorem itOk_enL {φ : List Addr} {H : Hp} {a : Addr} {xs : List D} {ck : MH → Bool}
    (h : ∀ φ' mh' H', Px φ φ' → Kp H H' → HR X.K φ' mh' H' → ck mh' = true → ∃ vs : List V, RelDs X.K φ' H' xs vs ∧ SqL X.K H' a vs) : ItOk X.K φ H ⟨enF 0 xs, ck⟩ (Ite X.K a) := by
  intro i φ' mh' H' p k hh hc
  obtain ⟨vs, rs, hs⟩ := h φ' mh' H' p k hh hc
  refine ⟨fun d hd => ?_, fun hl => ⟨vs, hs, ?_⟩⟩
  · rw [enF_get] at hd
    cases hx : xs[i]? with
    | none => rw [hx] at hd; cases hd
    | some d0 =>
      rw [hx] at hd
      cases hd
      obtain ⟨v, hv, rv⟩ := rs.get hx
      refine ⟨⟨vs, v, hs, hv⟩, ?_⟩
      rintro x H2 ⟨T, y, rfl, hT, rfl, hy⟩
      have := hy vs hs
      rw [hv] at this
      cases this
      exact yl_tup hh hT (.cons (by rw [Nat.zero_add]; exact .int _) (.cons rv .nil))
  · have : (enF 0 xs).length ≤ i := hl
    rw [enF_len] at this
    rw [← rs.length]; exact this
theorem itOk_enT {φ : List Addr} {H : Hp} {a : Addr} {xs : List D} {ck : MH → Bool}
    (h : ∀ φ' mh' H', Px φ φ' → Kp H H' → HR X.K φ' mh' H' → ck mh' = true → ∃ vs : List V, RelDs X.K φ' H' xs vs ∧ SqT X.K H' a vs) : ItOk X.K φ H ⟨enF 0 xs, ck⟩ (ItEt X.K a) := by
  intro i φ' mh' H' p k hh hc
  obtain ⟨vs, rs, hs⟩ := h φ' mh' H' p k hh hc
  refine ⟨fun d hd => ?_, fun hl => ⟨vs, hs, ?_⟩⟩
  · rw [enF_get] at hd
    cases hx : xs[i]? with
    | none => rw [hx] at hd; cases hd
    | some d0 =>
      rw [hx] at hd
      cases hd
      obtain ⟨v, hv, rv⟩ := rs.get hx
      refine ⟨⟨vs, v, hs, hv⟩, ?_⟩
      rintro x H2 ⟨T, y, rfl, hT, rfl, hy⟩
      have := hy vs hs
      rw [hv] at this
      cases this
      exact yl_tup hh hT (.cons (by rw [Nat.zero_add]; exact .int _) (.cons rv .nil))
  · have : (enF 0 xs).length ≤ i := hl
    rw [enF_len] at this
    rw [← rs.length]; exact this
theorem si_enum {e : Expr} {f : ME} {p pos tpos : Pos} {elts : List Expr} {kk : Nat} (hm : X.mg "enumerate" = none) (he : SE X W e f) (hg : Gl X "enumerate" := by rfl) (hs : starEach [e] X.env = [(false, eval e X.env)] := by rfl) (hst : starEach (e :: []) X.env = (false, eval e X.env) :: starEach [] X.env := by rfl) :
    SI X W (.Tuple elts kk tpos) (.Call (.Name "enumerate" p) [e] [] pos) (enm f) := (pi_enumA hg hm (pa_cons he pa_nil hst) hs).imp (by
  rintro σ H R ⟨φ, env, mh, re, hh, p⟩
  refine ⟨φ, env, mh, re, hh, post_mono (Px.refl φ) (Kp.refl H) (post_bind (R1 := RelD X.K) p) ?_⟩
  rintro x H1 ⟨φ1, d, mh1, p1, k1, h1, r1, q⟩
  cases r1 with
  | tup hs rs =>
    rename_i a xs vs
    exact ⟨a, vs, rfl, .inr ⟨hs, q φ1 _ H1 (Px.refl φ1) (Kp.refl H1) h1 (itOk_enT fun φ' mh' H' p' k' _ _ => ⟨vs, rs.mono p' k', k'.seqT hs⟩)⟩⟩
  | rol hs rs =>
    rename_i a xs vs
    exact ⟨a, vs, rfl, .inl ⟨hs.seq, q φ1 _ H1 (Px.refl φ1) (Kp.refl H1) h1 (itOk_enL fun φ' mh' H' p' k' _ _ => ⟨vs, rs.mono p' k', (k'.roL hs).seq⟩)⟩⟩
  | ref hn =>
    rename_i n a
    try simp only at q
    split at q
    · rename_i xs hx
      obtain ⟨vs, e1, rs⟩ := h1.lst hn hx
      refine ⟨a, vs, rfl, .inl ⟨SqL.of e1, q φ1 _ H1 (Px.refl φ1) (Kp.refl H1) h1 (itOk_enL fun φ' mh' H' p' k' hh' hc => ?_)⟩⟩
      have hc' : lstIs n xs mh' = true := hc
      unfold lstIs at hc'
      split at hc'
      · rename_i ys hy
        have ey : ys = xs := of_decide_eq_true hc'
        subst ey
        obtain ⟨ws, e2, rs2⟩ := hh'.lst (p'.get hn) hy
        exact ⟨ws, rs2, SqL.of e2⟩
      · cases hc'
    · exact q.elim
  | _ => exact q.elim)
end
end Det
/-! Det, part P: tuple * int, any count. -/
namespace Det
open PySem PySem.Spec PyProof.Rows L2
theorem tup_mul_same (l : Addr) (its : Array Value) (n : Nat) (dd : Option Addr) (sl : Array (Option Value)) (x : Int) (u : Tok) (c0 : (decide (x < -(2 ^ 63)) || decide (x ≥ 2 ^ 63)) = false) (c1 : (its.isEmpty || x == 1) = true) :
    Meets (Builtin.«tuple.__mul__» ⟨[.ref l, .int x u], []⟩) (fun _ R s => s.heap.get? l = some { cls := .type "tuple", dict := dd, data := .seq its n, slots := sl } ∧ R (.ok (.ret (Value.ref l))) s) :=
  .of_wp fun prog w A R s h => by
    obtain ⟨hp, gn, dr, tk, os⟩ := s
    obtain ⟨hl, h⟩ := h
    have f1 := AutoSeq1.idx_int
    wp_walk using wpAny_loadPart' hl
    repeat (first
      | (refine wpAny_ite_false (decide_eq_false (by rw [c0]; exact Bool.false_ne_true)) ?_; wp_walk using wpAny_loadPart' hl)
      | (refine wpAny_ite_true (decide_eq_true c1) ?_; wp_walk using wpAny_loadPart' hl))
    exact ⟨_, rfl, h⟩
theorem tup_mul_none (l : Addr) (its : Array Value) (n : Nat) (dd : Option Addr) (sl : Array (Option Value)) (x : Int) (u : Tok) (c0 : (decide (x < -(2 ^ 63)) || decide (x ≥ 2 ^ 63)) = false) (c1 : (its.isEmpty || x == 1) = false) (c2 : (decide (x ≤ 0) || its.isEmpty) = true) :
    Meets (Builtin.«tuple.__mul__» ⟨[.ref l, .int x u], []⟩) (fun _ R s => s.heap.get? l = some { cls := .type "tuple", dict := dd, data := .seq its n, slots := sl } ∧
      R (.ok (.ret (Value.ref s.heap.objs.size))) { s with heap := s.heap.push { cls := Value.type "tuple", data := Data.seq #[] }, toks := s.toks }) :=
  .of_wp fun prog w A R s h => by
    obtain ⟨hp, gn, dr, tk, os⟩ := s
    obtain ⟨hl, h⟩ := h
    have f1 := AutoSeq1.idx_int
    wp_walk using wpAny_loadPart' hl
    repeat (first
      | (refine wpAny_ite_false (decide_eq_false (by rw [c0]; exact Bool.false_ne_true)) ?_; wp_walk using wpAny_loadPart' hl)
      | (refine wpAny_ite_false (decide_eq_false (by rw [c1]; exact Bool.false_ne_true)) ?_; wp_walk using wpAny_loadPart' hl)
      | (refine wpAny_ite_true (decide_eq_true c2) ?_; wp_walk using wpAny_loadPart' hl))
    exact ⟨_, rfl, h⟩

def rRepTA (K : PySem.W.Frag) : R2 := fun x y H Q => ∃ l k xs, x = .ref l ∧ y = .int k ∧ SqT K H l xs ∧ -1000000 ≤ k ∧ k ≤ 1000 ∧ xs.length ≤ 1000 ∧
  (((List.replicate k.toNat xs).flatten = xs → Q (.ref l) H) ∧ ∀ p, H p = none → Q (.ref p) (upd H p (.tup (List.replicate k.toNat xs).flatten)))
section
variable {X : Cx}
theorem op_repTA : OpR X (binaryOp .Mult) (rRepTA X.K) := by
  intro pins s σ H x y v u Q I rx ry h
  obtain ⟨l, k, xs, rfl, rfl, hT, lo, hi, hz, q0, q1⟩ := h
  by_cases c : xs ≠ [] ∧ 2 ≤ k
  · exact op_repT pins s σ H _ _ v u Q I rx ry ⟨l, k, xs, rfl, rfl, hT, c.1, c.2, hi, hz, q1⟩
  · cases rx
    obtain ⟨t, rfl⟩ := ry
    obtain ⟨its, r, ⟨⟨cls, dd, data, sl⟩, ho, hc, n, hd⟩, hs⟩ := I.tuple hT
    simp only at hc hd
    subst hc; subst hd
    have hle : its.length = xs.length := r.length.symm
    have c0 : (decide (k < -(2 ^ 63)) || decide (k ≥ 2 ^ 63)) = false := by
      rw [decide_eq_false (by omega), decide_eq_false (by omega)] <;> rfl
    have em : its.toArray.isEmpty = xs.isEmpty := by cases its <;> cases xs <;> simp_all
    by_cases c1 : xs = [] ∨ k = 1
    · have c1' : (its.toArray.isEmpty || k == 1) = true := by
        rw [em]
        rcases c1 with h | h
        · rw [h]; rfl
        · rw [h]; simp
      have same : (List.replicate k.toNat xs).flatten = xs := by
        rcases c1 with h | h
        · rw [h]; induction k.toNat with
          | zero => rfl
          | succ m ih => rw [List.replicate_succ, List.flatten_cons, ih]; rfl
        · rw [h]; simp
      refine wpAny_binaryOp_repeat_ref (T := "tuple") (U := "int") (by decide) ⟨_, ho, rfl⟩ (fun s' => typeIs_int s' k t) noFill_tuple_mul PySem.F.fills_int_mul PySem.F.slot_int_rmul repeat_tuple PySem.F.slot_int_index.lookup
        (call_meets PySem.F.slot_int_rmul (typeIs_int s k t) PySem.F.entry_int_rmul (PySem.F.args_int_rmul_2 _ _) (int_rmul_tuple k t l its.toArray n dd sl)
          ⟨ho, rfl, ⟨_, ho, rfl⟩, call_meets PySem.F.slot_tuple_mul ⟨_, ho, rfl⟩ PySem.F.entry_tuple_mul (PySem.F.args_tuple_mul_2 _ _) (tup_mul_same l its.toArray n dd sl k t c0 c1') ⟨ho, ?_⟩⟩)
      exact ⟨.ref l, H, I, rfl, q0 same⟩
    · have hk : k ≤ 0 := by
        have h1 : xs ≠ [] := fun z => c1 (.inl z)
        have h2 : k ≠ 1 := fun z => c1 (.inr z)
        have h3 : ¬ 2 ≤ k := fun z => c ⟨h1, z⟩
        omega
      have c1' : (its.toArray.isEmpty || k == 1) = false := by
        rw [em]
        have : xs.isEmpty = false := by
          cases xs with
          | nil => exact absurd (Or.inl rfl) c1
          | cons _ _ => rfl
        rw [this, Bool.false_or]
        exact beq_eq_false_iff_ne.mpr fun z => c1 (.inr z)
      have c2 : (decide (k ≤ 0) || its.toArray.isEmpty) = true := by rw [decide_eq_true hk]; rfl
      have e0 : (List.replicate k.toNat xs).flatten = [] := by
        rw [show k.toNat = 0 by omega]; rfl
      rw [e0] at q1
      refine wpAny_binaryOp_repeat_ref (T := "tuple") (U := "int") (by decide) ⟨_, ho, rfl⟩ (fun s' => typeIs_int s' k t) noFill_tuple_mul PySem.F.fills_int_mul PySem.F.slot_int_rmul repeat_tuple PySem.F.slot_int_index.lookup
        (call_meets PySem.F.slot_int_rmul (typeIs_int s k t) PySem.F.entry_int_rmul (PySem.F.args_int_rmul_2 _ _) (int_rmul_tuple k t l its.toArray n dd sl)
          ⟨ho, rfl, ⟨_, ho, rfl⟩, call_meets PySem.F.slot_tuple_mul ⟨_, ho, rfl⟩ PySem.F.entry_tuple_mul (PySem.F.args_tuple_mul_2 _ _) (tup_mul_none l its.toArray n dd sl k t c0 c1' c2) ⟨ho, ?_⟩⟩)
      refine ⟨.ref s.heap.objs.size, _, I.laid (t' := s.toks) (o := .tup []) (fun b ob q => Heap.get?_push_of_some _ q) (Nat.le_refl _) ?_, rfl, q1 _ (I.hok.fresh (Nat.le_refl _))⟩
      exact ⟨Nat.zero_le _, [], .nil, IsTup.new _ _⟩
end
/-- x * k for a text -/
def repS (k : Nat) (x : Str) : Str := ⟨(List.replicate k x.cps.toList).flatten.toArray⟩
def oMulX : Op2 := fun a b mh => match a, b with
  | .int i, .int j => if ((-(2 ^ 64) < i ∧ i < 2 ^ 64) ∨ (-(2 ^ 64) < j ∧ j < 2 ^ 64)) ∨ i.natAbs.log2 + j.natAbs.log2 < 1000000 then some (.int (i * j), mh) else none
  | .tup xs, .int k => if -1000000 ≤ k ∧ k ≤ 1000 ∧ xs.length ≤ 1000 then some (.tup (List.replicate k.toNat xs).flatten, mh) else none
  | .str x, .int k => if -1000000 ≤ k ∧ k ≤ 1000000 ∧ x.length * k.toNat ≤ 1000000 then some (.str (repS k.toNat x), mh) else none
  | .ref m, .int k => match mh[m]? with
    | some (.lst xs) => if -(2 ^ 63) ≤ k ∧ k < 2 ^ 63 ∧ xs.length * k.toNat ≤ sizeLine then some (.ref mh.length, mh ++ [.lst (List.replicate k.toNat xs).flatten]) else none
    | _ => none
  | _, _ => none
theorem foldl_repS (x : Array Nat) (k : Nat) : List.foldl (fun a b => a ++ b) #[] (List.replicate k x) = (List.replicate k x.toList).flatten.toArray := by
  have go : ∀ (k : Nat) (acc : Array Nat), List.foldl (fun a b => a ++ b) acc (List.replicate k x) = acc ++ (List.replicate k x.toList).flatten.toArray := by
    intro k
    induction k with
    | zero => intro acc; simp
    | succ k ih => intro acc; rw [List.replicate_succ, List.foldl_cons, ih, List.replicate_succ, List.flatten_cons]; apply Array.ext'; simp
  rw [go]; simp
section
variable {X : Cx}
theorem r_mulX : OpR X (binaryOp .Mult) (iR2 X.K oMulX) := by
  rintro pins s σ H x y v u Q I rx ry ⟨φ, mh, a, b, ra, rb, hh, p⟩
  cases ra with
  | int i =>
    cases rb with
    | int j =>
      simp only [oMulX] at p
      split at p
      · rename_i hl
        rcases hl with hl | hl
        · exact op_mul pins s σ H _ _ v u Q I rx ry ⟨i, j, rfl, rfl, hl, postO_val hh p (.int _)⟩
        · exact op_mulW pins s σ H _ _ v u Q I rx ry ⟨i, j, rfl, rfl, hl, postO_val hh p (.int _)⟩
      · exact p.elim
    | _ => exact p.elim
  | str z =>
    cases rb with
    | int k =>
      simp only [oMulX] at p
      split at p
      · rename_i hl
        obtain ⟨n1, n2, n3⟩ := hl
        obtain ⟨t, rfl⟩ := rx
        obtain ⟨t2, rfl⟩ := ry
        have q := postO_val hh p (.str (repS k.toNat z))
        have sl : (1000000 : Nat) ≤ sizeLine := by rw [sizeLine_eq]; decide
        have z0 : (z.length == 0) = true → z.cps = #[] := fun e => by
          have : z.cps.size = 0 := by simpa [Str.length] using e
          exact Array.eq_empty_of_size_eq_zero this
        refine PySem.P.mul_str (by rw [decide_eq_false (by omega), decide_eq_false (by omega)]; rfl) (fun h1 h2 => ?_) (fun h1 h2 => ?_) ?_
        · have k1 : 1 ≤ k := by omega
          have : (z.length : Int) ≤ 1000000 := by
            have h3 : z.length * 1 ≤ z.length * k.toNat := Nat.mul_le_mul_left _ (by omega)
            omega
          have h4 : (2 ^ 63 - 1 : Int) / k ≥ 9000000000000 := by
            have : (9000000000000 : Int) ≤ (2 ^ 63 - 1) / k := (Int.le_ediv_iff_mul_le (by omega)).mpr (by omega)
            exact this
          omega
        · unfold Builtin.Str.tooLong
          exact decide_eq_false (by omega)
        · by_cases h1 : k < 1
          · rw [if_pos h1]
            refine ⟨by decide, ?_⟩
            have e : repS k.toNat z = Str.empty := by
              unfold repS; rw [show k.toNat = 0 by omega]; rfl
            rw [e] at q
            exact ⟨.str Str.empty, H, I.tok _, ⟨_, rfl⟩, q⟩
          · rw [if_neg h1]
            by_cases h2 : (k == 1 || z.length == 0) = true
            · rw [if_pos h2]
              have e : repS k.toNat z = z := by
                rw [Bool.or_eq_true] at h2
                unfold repS
                rcases h2 with h2 | h2
                · have : k = 1 := by simpa using h2
                  rw [this]; simp
                · have := z0 h2
                  obtain ⟨c⟩ := z
                  simp only at this
                  subst this
                  congr 1
                  induction k.toNat with
                  | zero => rfl
                  | succ m ih => rw [List.replicate_succ, List.flatten_cons]; simpa using ih
              rw [e] at q
              exact ⟨.str z, H, I, ⟨_, rfl⟩, q⟩
            · rw [if_neg h2]
              have e : (⟨List.foldl (fun a b => a ++ b) #[] (List.replicate k.toNat z.cps)⟩ : Str) = repS k.toNat z := by
                unfold repS; rw [foldl_repS]
              refine ⟨?_, ?_⟩
              · show Str.length _ ≤ _
                rw [e]
                unfold repS Str.length
                rw [List.size_toArray, List.length_flatten]
                simp only [List.map_replicate, List.sum_replicate_nat, Array.length_toList]
                have : z.cps.size = z.length := rfl
                rw [this, Nat.mul_comm]
                omega
              · have q' : Q (.str (⟨List.foldl (fun a b => a ++ b) #[] (List.replicate k.toNat z.cps)⟩ : Str)) H := by rw [e]; exact q
                exact ⟨.str _, H, I.tok _, ⟨_, rfl⟩, q'⟩
      · exact p.elim
    | _ => exact p.elim
  | tup h1 r1 =>
    rename_i a1 xs vs
    cases rb with
    | int k =>
      simp only [oMulX] at p
      split at p
      · rename_i hl
        obtain ⟨n1, n2, n3⟩ := hl
        refine op_repTA pins s σ H _ _ v u Q I rx ry ⟨a1, k, vs, rfl, rfl, h1, n1, n2, by rw [← r1.length]; exact n3, fun e => ?_, fun q hq => postO_tup hh p (r1.rep _) hq⟩
        have rr := r1.rep k.toNat
        rw [e] at rr
        exact postO_val hh p (.tup h1 rr)
      · exact p.elim
    | _ => exact p.elim
  | ref h1 =>
    rename_i n a1
    cases rb with
    | int k =>
      simp only [oMulX] at p
      split at p
      · rename_i xs e1
        split at p
        · rename_i hl
          obtain ⟨n1, n2, n3⟩ := hl
          obtain ⟨vs, q1, r1⟩ := hh.lst h1 e1
          exact op_rep pins s σ H _ _ v u Q I rx ry ⟨a1, k, vs, rfl, rfl, q1, n1, n2, by rw [← r1.length]; exact n3, fun q hq => postO_new hh p (r1.rep _) hq⟩
        · exact p.elim
      · exact p.elim
    | _ => exact p.elim
  | _ => cases rb <;> exact p.elim
end
end Det
/-! Det, part Q: calls by parameter names, defs that call themselves, the law's own promise. -/
namespace Det
open PySem PySem.Spec PyProof.Rows L2
abbrev SK (X : Cx) (W : WX) (kws : List Keyword) (f : MA) : Prop := PK X kws (iA X.K X.mg W f)
theorem pk_imp {X : Cx} {kws : List Keyword} {t t' : TA} (h : PK X kws t) (w : ∀ σ H Q, t' σ H Q → t σ H Q) : PK X kws t' := ⟨fun po pins s σ H Q I q => h.run po pins s σ H Q I (w σ H Q q)⟩
def pickD (pm : List Nat) (ds : List D) : List D := pm.map fun i => ds.getD i .non
def calK (n : Nat) (pm : List Nat) (F : Fn) (f : MA) : ME := fun env mh => (f env mh).bind fun ds mh1 => if ds.length = n then F (pickD pm ds) mh1 else .no
section
variable {X : Cx} {W : WX} {e : Expr} {f : ME} {fa : MA} {kws : List Keyword} {pos kpos p : Pos} {nm : Option Str}
theorem sk_nil : SK X W [] anil := pk_imp pk_nil (by
  rintro σ H Q ⟨φ, env, mh, re, hh, p⟩
  exact p φ [] H (Px.refl φ) (Kp.refl H) hh .nil)
theorem sk_cons (ha : SE X W e f) (hr : SK X W kws fa) : SK X W (⟨nm, e, kpos⟩ :: kws) (acons f fa) := pk_imp (pk_cons ha hr) (by
  rintro σ H Q ⟨φ, env, mh, re, hh, p⟩
  refine ⟨φ, env, mh, re, hh, post_mono (Px.refl φ) (Kp.refl H) (post_bind (R1 := RelD X.K) p) ?_⟩
  rintro x H1 ⟨φ1, d, mh1, p1, k1, h1, r1, q⟩
  refine ⟨φ1, env, mh1, re.mono p1 k1, h1, post_mono (Px.refl φ1) (Kp.refl H1) (post_bind (R1 := RelDs X.K) q) ?_⟩
  rintro xs H2 ⟨φ2, ds, mh2, p2, k2, h2, r2, q2⟩
  exact q2 φ2 (x :: xs) H2 (Px.refl φ2) (Kp.refl H2) h2 (.cons (r1.mono p2 k2) r2))
theorem getD_vals {vs : List V} {us : List Value} (r : Vals vs us) (i : Nat) : RelV (vs.getD i .non) (us.getD i .none) := by
  rw [List.getD_eq_getElem?_getD, List.getD_eq_getElem?_getD]
  cases h : vs[i]? with
  | none => rw [r.none_of h]; rfl
  | some v =>
    obtain ⟨u, h1, h2⟩ := r.get h
    rw [h1]; exact h2
theorem pick_vals {vs : List V} {us : List Value} (r : Vals vs us) : ∀ pm : List Nat, Vals (pm.map fun i => vs.getD i .non) (pm.map fun i => us.getD i .none)
  | [] => .nil
  | i :: pm => .cons (getD_vals r i) (pick_vals r pm)
theorem pick_rel {K : PySem.W.Frag} {φ : List Addr} {H : Hp} {ds : List D} {vs : List V} (r : RelDs K φ H ds vs) : ∀ pm : List Nat, RelDs K φ H (pickD pm ds) (pm.map fun i => vs.getD i .non)
  | [] => .nil
  | i :: pm => by
    refine .cons ?_ (pick_rel r pm)
    show RelD K φ H (ds.getD i .non) (vs.getD i .non)
    rw [List.getD_eq_getElem?_getD, List.getD_eq_getElem?_getD]
    cases h : ds[i]? with
    | none =>
      have h1 := List.getElem?_eq_none_iff.mp h
      have h2 : vs[i]? = none := List.getElem?_eq_none_iff.mpr (by rw [← r.length]; exact h1)
      rw [h2]; exact .non
    | some d =>
      obtain ⟨v, h1, h2⟩ := r.get h
      rw [h1]; exact h2
/-- f(k = v, ..) -/
theorem se_callK0 {F : Fn} {k : Nat} {g : Addr} {fd : FuncData} {ps ks : List Str} {pm : List Nat} {x : Str} (tk : Takes X W) (G : DOk X.prog X.w X.K X.mg X.base k g fd ps F) (hr : Room k X.A) (hm : X.mg x = some (.ref g)) (hk : PySem.W.keepIn X.K (.ref g) = true)
    (hb : ∀ (s : Shared) (ws : List Value), ws.length = ks.length → BindsTo s fd ⟨[], ks.zip ws⟩ (ps.zip (pm.map fun i => ws.getD i .none))) (hp : pm.length = ps.length) (ha : SK X W kws fa) (hg : Gl X x := by rfl)
    (hall : (backToKw pos (keywordEach kws X.env)).all (·.1.isSome) = true := by rfl) (hks : (backToKw pos (keywordEach kws X.env)).filterMap (·.1) = ks := by rfl) (hdb : (x == ("__debug__" : Str)) = false := by decide)
    (hpl : ((backTo pos (starEach [] X.env)).any (·.1) || (backToKw pos (keywordEach kws X.env)).any (·.1.isNone)) = false := by rfl) : SE X W (.Call (.Name x p) [] kws pos) (calK ks.length pm F fa) := by
  refine ⟨fun pins s σ H Q I h => ?_⟩
  refine wpAny_Call_Name_kw (ld_glob I hg hm ?_ hdb)
  refine PySem.W.callWith_KW0 (h₀ := X.base) I.ok.mod.kin hk hall ?_ hpl
  obtain ⟨φ, env, mh, re, hh, pq⟩ := h
  refine thn (ha.run pos pins s σ H (fun vs H1 => vs.length = ks.length ∧ spF X.K X.mg ps.length F (pm.map fun i => vs.getD i .non) H1 Q (WE W σ)) I ⟨φ, env, mh, re, hh, post_mono (Px.refl φ) (Kp.refl H) (post_bind (R1 := RelDs X.K) pq) ?_⟩) fun ws s2 ⟨zs, H2, I2, rz, hl, q2⟩ => ⟨I2.kIn, ?_⟩
  · rintro vs H1 ⟨φ1, ds, mh1, p1, k1, h1, r1, q⟩
    by_cases hl : ds.length = ks.length
    · rw [if_pos hl] at q
      refine ⟨by rw [← r1.length]; exact hl, φ1, mh1, pickD pm ds, pick_rel r1 pm, h1, by unfold pickD; rw [List.length_map]; exact hp, ?_⟩
      cases hF : F (pickD pm ds) mh1 with
      | ok d mh2 => rw [hF] at q; exact q
      | ex x mh2 => rw [hF] at q; exact q
      | no => rw [hF] at q; exact q
    · rw [if_neg hl] at q; exact q.elim
  · rw [hks]
    have hw : ws.length = ks.length := by rw [← rz.length]; exact hl
    refine wpAny_call (codeAny_mono (G.run X.A X.stack s2 H2 ⟨[], ks.zip ws⟩ _ _ Q (WE W σ) hr I2.env0 (hb s2 ws hw) (pick_vals rz pm) q2) fun r s' hq => ?_)
    cases r with
    | error e => exact passAt tk σ pins H2 s2 e s' I2 hq
    | ok fl =>
      cases fl with
      | ret u => exact I2.after hq
      | next => exact False.elim hq
      | brk => exact False.elim hq
      | cont => exact False.elim hq
end
section
variable {P : Program} {w : World} {K : PySem.W.Frag} {mg : MGl} {base : Heap} {k : Nat} {fa : Addr} {fd : FuncData} {ps : List Str} {F : Fn}
/-- nothing is promised -/
theorem ok_no : DOk P w K mg base k fa fd ps fun _ _ => .no :=
  ⟨fun vs H Q E h => by obtain ⟨_, _, _, _, _, _, q⟩ := h; exact q.elim, fun A outer s H args us vs Q E _ _ _ _ h => by obtain ⟨_, _, _, _, _, _, q⟩ := h; exact q.elim⟩
/-- a def that calls itself, n calls deep -/
def recF (B : Fn → Fn) : Nat → Fn
  | 0 => fun _ _ => .no
  | n + 1 => B (recF B n)
theorem okRec {B : Fn → Fn} (h : ∀ (k : Nat) (F : Fn), DOk P w K mg base k fa fd ps F → DOk P w K mg base (k + 1) fa fd ps (B F)) (k0 : Nat) : ∀ n : Nat, DOk P w K mg base (k0 + n) fa fd ps (recF B n)
  | 0 => ok_no
  | n + 1 => h (k0 + n) _ (okRec h k0 n)
/-- the law's promise -/
def spLawD (K : PySem.W.Frag) : Sp := fun vs H Q _ => ∃ (a : Addr) (ns : List Int), vs = [.ref a] ∧ Only H ∧ SqL K H a (ns.map V.int) ∧ ns.length ≤ 63 ∧ ∀ H', Q (.bl true) H'
theorem relInts {K : PySem.W.Frag} {φ : List Addr} {H : Hp} : ∀ ns : List Int, RelDs K φ H (ns.map D.int) (ns.map V.int)
  | [] => .nil
  | i :: ns => .cons (.int i) (relInts ns)
theorem law_of {x : Str} (G : DOk P w K mg base k fa fd [x] F) (hF : ∀ ns : List Int, ns.length ≤ 63 → ∃ mh, F [.rol (ns.map .int)] [] = .ok (.bl true) mh) : FnOk P w K mg base (L2.CX P w) k fa fd [x] (spLawD K) := by
  refine FnOk.imp G ?_
  rintro vs H Q E ⟨a, ns, rfl, ho, hs, hl, q⟩
  have hro : RoL K H a (ns.map V.int) := by
    rcases hs with (h | ⟨o, h⟩) | h
    · rcases ho a with z | ⟨o, xs, z⟩
      · rw [z] at h; cases h
      · rw [z] at h; cases h
    · exact .inl ⟨o, h⟩
    · exact .inr h
  obtain ⟨mh', e⟩ := hF ns hl
  refine ⟨[], [], [.rol (ns.map .int)], .cons (.rol hro (relInts ns)) .nil, ⟨rfl, List.nodup_nil, fun n a o h => by simp at h⟩, rfl, ?_⟩
  rw [e]
  intro φ' b H' _ _ _ r
  cases r
  exact q H'
theorem law_end (w : World) (H : Hp) (a : Addr) (ns : List Int) (hl : ns.length ≤ 63) (ho : Only H) (hS : SqL K H a (ns.map V.int)) : spLawD K [.ref a] H (fun v _ => v = .bl true) fun _ _ _ => False := ⟨a, ns, rfl, ho, hS, hl, fun _ => rfl⟩
end
end Det
/-! Det, part R: what the generated walks use. -/
namespace Det
open PySem PySem.Spec PyProof.Rows L2
theorem okRec2 {P : Program} {w : World} {K : PySem.W.Frag} {mg : MGl} {base : Heap} {fa : Addr} {fd : FuncData} {ps : List Str} {B : Fn → Fn} {k0 : Nat}
    (h : ∀ (k : Nat) (F : Fn), DOk P w K mg base k fa fd ps F → k0 ≤ k → DOk P w K mg base (k + 1) fa fd ps (B F)) : ∀ n : Nat, DOk P w K mg base (k0 + n) fa fd ps (recF B n)
  | 0 => ok_no
  | n + 1 => h (k0 + n) _ (okRec2 h n) (Nat.le_add_right _ _)
/-- a def that the top has made -/
structure DefAt (K : PySem.W.Frag) (mg : MGl) (x q : Str) (st : Stmt) (ps : List Str) where
  a : Addr
  fd : FuncData
  hm : mg x = some (.ref a)
  hk : PySem.W.keepIn K (.ref a) = true
  fn : Fun K x q st a fd
  bi : Binds K fd ps []
theorem takesN {X : Cx} : Takes X W0 := fun _ _ x => by
  obtain ⟨_, _, _, _, _, _, _, _, _, _, _, _, _, _, _, _, no⟩ := x
  exact no.elim
def blkB (N : List Str) (sc scope : Scope) (own : List (Str × Nat)) : Bool :=
  scope.kind == .function && scope.names.all (fun y => scope.names.lookup y.1 == some y.2) && own.all (fun p => N[p.2]? == some p.1) &&
  scope.names.all (fun y => y.2 != .free || sc.names.lookup y.1 == some .cell || sc.names.lookup y.1 == some .free) &&
  scope.names.all (fun y => !(y.2 == .local || y.2 == .cell) || (own.map (·.1)).contains y.1 || !N.contains y.1)
theorem blkOk_of {N : List Str} {sc scope : Scope} {own : List (Str × Nat)} (h : blkB N sc scope own = true) : BlkOk N sc scope own := by
  unfold blkB at h
  simp only [Bool.and_eq_true, List.all_eq_true, Bool.or_eq_true, beq_iff_eq, bne_iff_ne, ne_eq, Bool.not_eq_true', List.contains_iff_mem] at h
  obtain ⟨⟨⟨⟨h1, h2⟩, h3⟩, h4⟩, h5⟩ := h
  refine ⟨h1, h2, h3, fun y hy e => ?_, fun y hy e => ?_⟩
  · rcases h4 y hy with (z | z) | z
    · exact absurd e z
    · exact .inl z
    · exact .inr z
  · rcases h5 y hy with (z | z) | z
    · rcases e with e | e
      · simp [e] at z
      · simp [e] at z
    · exact .inl z
    · exact .inr (by simpa using z)
end Det
namespace K03
open PySem PySem.Spec PyProof.Rows L2 Det
def top (i : Nat) : Stmt := PySem.Challenge.pw_endstell_k03_nets.main.body.getD i (.Pass ⟨0, 0, 0, 0⟩)
abbrev st_make_net : Stmt := top 1
abbrev st_place_of : Stmt := top 2
abbrev st_ends_of : Stmt := top 3
abbrev st_links_at : Stmt := top 4
abbrev st_weights_alone : Stmt := top 5
abbrev st_zero_weights : Stmt := top 6
abbrev st__law_pool : Stmt := top 8
abbrev st__law_pick : Stmt := top 9
abbrev st__law_word : Stmt := top 10
abbrev st__law_words : Stmt := top 11
abbrev st__law_shuffled : Stmt := top 12
abbrev st__law_some : Stmt := top 13
abbrev st__law_lot : Stmt := top 14
abbrev st__law_same : Stmt := top 15
abbrev st__law_ends : Stmt := top 16
abbrev st__law_links : Stmt := top 17
abbrev st__law_due : Stmt := top 18
abbrev st__law_read : Stmt := top 19
abbrev st__law_made : Stmt := top 20
abbrev st__law_named : Stmt := top 21
abbrev st_law : Stmt := top 22
/-! ### the mirrors -/
abbrev N_make_net : List Str := ["nodes", "links", "monitors", "given", "rows", "name", "one", "other"]
def m_make_net : Fn := runF 8 <|
    sq (sst 4 (lc (iter (vr 1)) (.tp [5, 6, 7]) (yes) (dtup (acons (vr 5) (acons (ap oMin2 (acons (vr 6) (acons (vr 7) (anil)))) (acons (ap oMax2 (acons (vr 6) (acons (vr 7) (anil)))) (anil))))) [5, 6, 7])) <|
    ret (dtup (acons (ap oTuple (acons (un oSSet (vr 0)) (anil))) (acons (ap oTuple (acons (ap oSorted (acons (vr 4) (anil))) (anil))) (acons (ap oTuple (acons (un oSSet (vr 2)) (anil))) (acons (ap oTuple (acons (un oSSet (vr 3)) (anil))) (anil))))))
abbrev N_place_of : List Str := ["net", "name", "at", "link"]
def m_place_of : Fn := runF 4 <|
    sq (sfor (enm (bi oIx (vr 0) (kn (.int 1)))) (.tp [2, 3]) (sif (tb (bi oEq (bi oIx (vr 3) (kn (.int 0))) (vr 1))) (ret (vr 2)) (nop))) <|
    ret (kn .non)
abbrev N_ends_of : List Str := ["net", "name", "link"]
def m_ends_of : Fn := runF 3 <|
    sq (sst 2 (bi oIx (bi oIx (vr 0) (kn (.int 1))) (cal 2 m_place_of (acons (vr 0) (acons (vr 1) (anil)))))) <|
    ret (dtup (acons (bi oIx (vr 2) (kn (.int 1))) (acons (bi oIx (vr 2) (kn (.int 2))) (anil))))
abbrev N_links_at : List Str := ["net", "node", "name", "low", "high"]
def m_links_at : Fn := runF 5 <|
    ret (ap oTuple (acons (lc (iter (bi oIx (vr 0) (kn (.int 1)))) (.tp [2, 3, 4]) (tb (bi oIn (vr 1) (dtup (acons (vr 3) (acons (vr 4) (anil)))))) (vr 2) [2, 3, 4]) (anil)))
abbrev N_weights_alone : List Str := ["net", "name", "link"]
def m_weights_alone : Fn := runF 3 <|
    ret (ap oTuple (acons (lc (iter (bi oIx (vr 0) (kn (.int 1)))) (.nm 2) (yes) (ap oInt (acons (bi oEq (bi oIx (vr 2) (kn (.int 0))) (vr 1)) (anil))) [2]) (anil)))
abbrev N_zero_weights : List Str := ["net"]
def m_zero_weights : Fn := runF 1 <|
    ret (bi oMulX (dtup (acons (kn (.int 0)) (anil))) (ap oLen (acons (bi oIx (vr 0) (kn (.int 1))) (anil))))
abbrev N__law_pool : List Str := ["script", "cell"]
def m__law_pool : Fn := runF 2 <|
    ret (dlst (acons (kn (.int 0)) (acons (kn (.int 23)) (acons (kn (.int 0)) (acons (lc (iter (sl (vr 0) (onone) (osome (kn (.int 63))))) (.nm 1) (yes) (bi oMod (ap oInt (acons (vr 1) (anil))) (bi oShl (kn (.int 1)) (kn (.int 2400)))) [1]) (anil))))))
abbrev N__law_pick : List Str := ["pool", "many", "cells", "cell", "got"]
def m__law_pick : Fn := runF 5 <|
    sq (sst 2 (bi oIx (vr 0) (kn (.int 3)))) <|
    sq (sif (tand (tb (bi oEq (bi oIx (vr 0) (kn (.int 0))) (kn (.int 0)))) (tb (bi oLt (bi oIx (vr 0) (kn (.int 2))) (ap oLen (acons (vr 2) (anil)))))) (sq (sst 3 (bi oIx (vr 2) (bi oIx (vr 0) (kn (.int 2))))) <|
    sq (setIx (vr 0) (kn (.int 2)) (bi oAdd (bi oIx (vr 0) (kn (.int 2))) (kn (.int 1)))) <|
    sq (sif (tb (bi oGe (vr 3) (bi oPow (kn (.int 10)) (kn (.int 18))))) (setIx (vr 0) (kn (.int 0)) (vr 3)) (nop)) <|
    setIx (vr 0) (kn (.int 1)) (bi oMod (ap oInt (acons (bi oAdd (bi oAdd (bi oMulX (bi oIx (vr 0) (kn (.int 1))) (kn (.int 69621))) (bi oMod (ap oInt (acons (vr 3) (anil))) (kn (.int 1000033)))) (kn (.int 7))) (anil))) (kn (.int 1000033)))) (nop)) <|
    sq (sif (tb (bi oGt (bi oIx (vr 0) (kn (.int 0))) (kn (.int 0)))) (sq (sst 4 (bi oMod (ap oInt (acons (bi oIx (vr 0) (kn (.int 0))) (anil))) (vr 1))) <|
    sq (setIx (vr 0) (kn (.int 0)) (bi oFdiv (bi oIx (vr 0) (kn (.int 0))) (vr 1))) <|
    ret (vr 4)) (nop)) <|
    sq (setIx (vr 0) (kn (.int 1)) (bi oMod (ap oInt (acons (bi oAdd (bi oMulX (bi oIx (vr 0) (kn (.int 1))) (kn (.int 6211))) (kn (.int 53))) (anil))) (kn (.int 1000033)))) <|
    ret (bi oMod (ap oInt (acons (bi oFdiv (bi oIx (vr 0) (kn (.int 1))) (kn (.int 7))) (anil))) (vr 1))
abbrev N__law_word : List Str := ["pool", "letters", "signs", "text", "lap"]
def m__law_word : Fn := runF 5 <|
    sq (sst 1 (kn (.str "abcdefghijklmnopqrstuvwxyz"))) <|
    sq (sst 2 (bi oAdd (vr 1) (kn (.str "0123456789")))) <|
    sq (sst 3 (bi oIx (vr 1) (cal 2 m__law_pick (acons (vr 0) (acons (kn (.int 26)) (anil)))))) <|
    sq (sfor (range1 (bi oMulX (cal 2 m__law_pick (acons (vr 0) (acons (kn (.int 3)) (anil)))) (cal 2 m__law_pick (acons (vr 0) (acons (kn (.int 4)) (anil)))))) (.nm 4) (sst 3 (bi oAdd (vr 3) (bi oIx (vr 2) (cal 2 m__law_pick (acons (vr 0) (acons (kn (.int 36)) (anil)))))))) <|
    sq (sif (tb (bi oEq (cal 2 m__law_pick (acons (vr 0) (acons (kn (.int 3)) (anil)))) (kn (.int 0)))) (sq (sst 3 (bi oAdd (vr 3) (kn (.str ".")))) <|
    sfor (range1 (bi oAdd (kn (.int 1)) (bi oMulX (cal 2 m__law_pick (acons (vr 0) (acons (kn (.int 2)) (anil)))) (cal 2 m__law_pick (acons (vr 0) (acons (kn (.int 8)) (anil))))))) (.nm 4) (sst 3 (bi oAdd (vr 3) (bi oIx (vr 2) (cal 2 m__law_pick (acons (vr 0) (acons (kn (.int 36)) (anil)))))))) (nop)) <|
    sq (sif (tb (bi oIn (vr 3) (dtup (acons (kn (.str "node")) (acons (kn (.str "link")) (acons (kn (.str "monitor")) (acons (kn (.str "given")) (acons (kn (.str "read")) (acons (kn (.str "row")) (acons (kn (.str "bundle")) (acons (kn (.str "free")) (acons (kn (.str "told")) (acons (kn (.str "tree")) (acons (kn (.str "o")) (acons (kn (.str "w")) (anil)))))))))))))))) (ret (kn (.str "u4"))) (nop)) <|
    ret (vr 3)
abbrev N__law_words : List Str := ["pool", "many", "other", "words", "lap", "word", "number"]
def m__law_words : Fn := runF 7 <|
    sq (sst 3 (dlst (anil))) <|
    sq (sfor (range1 (vr 1)) (.nm 4) (sq (sst 5 (cal 1 m__law_word (acons (vr 0) (anil)))) <|
    sq (sif (tand (tb (bi oGt (ap oLen (acons (vr 2) (anil))) (kn (.int 0)))) (tb (bi oEq (cal 2 m__law_pick (acons (vr 0) (acons (kn (.int 4)) (anil)))) (kn (.int 0))))) (sst 5 (bi oIx (vr 2) (cal 2 m__law_pick (acons (vr 0) (acons (ap oLen (acons (vr 2) (anil))) (anil)))))) (nop)) <|
    sq (sif (tb (bi oIn (vr 5) (vr 3))) (sfor (range1 (bi oAdd (vr 1) (kn (.int 1)))) (.nm 6) (sq (sst 5 (bi oAdd (kn (.str "y")) (ap oStr (acons (vr 6) (anil))))) <|
    sif (tb (bi oNotIn (vr 5) (vr 3))) (brk) (nop))) (nop)) <|
    drp (app (vr 3) (vr 5)))) <|
    ret (vr 3)
abbrev N__law_shuffled : List Str := ["pool", "row", "left", "fresh", "lap"]
def m__law_shuffled : Fn := runF 5 <|
    sq (sst 2 (ap oList (acons (vr 1) (anil)))) <|
    sq (sst 3 (dlst (anil))) <|
    sq (sfor (range1 (ap oLen (acons (vr 1) (anil)))) (.nm 4) (drp (app (vr 3) (popAt (vr 2) (cal 2 m__law_pick (acons (vr 0) (acons (ap oLen (acons (vr 2) (anil))) (anil)))))))) <|
    ret (vr 3)
abbrev N__law_some : List Str := ["pool", "row", "fresh", "name"]
def m__law_some : Fn := runF 4 <|
    sq (sst 2 (dlst (anil))) <|
    sq (sfor (iter (vr 1)) (.nm 3) (sif (tb (bi oEq (cal 2 m__law_pick (acons (vr 0) (acons (kn (.int 2)) (anil)))) (kn (.int 0)))) (sq (drp (app (vr 2) (vr 3))) <|
    sif (tb (bi oEq (cal 2 m__law_pick (acons (vr 0) (acons (kn (.int 3)) (anil)))) (kn (.int 0)))) (drp (app (vr 2) (vr 3))) (nop)) (nop))) <|
    ret (cal 2 m__law_shuffled (acons (vr 0) (acons (vr 2) (anil))))
abbrev N__law_lot : List Str := ["row", "fresh", "name"]
def m__law_lot : Fn := runF 3 <|
    sq (sst 1 (dlst (anil))) <|
    sq (sfor (iter (ap oSorted (acons (vr 0) (anil)))) (.nm 2) (sif (tor (tb (bi oEq (ap oLen (acons (vr 1) (anil))) (kn (.int 0)))) (tb (bi oNe (bi oIx (vr 1) (bi oSub (ap oLen (acons (vr 1) (anil))) (kn (.int 1)))) (vr 2)))) (drp (app (vr 1) (vr 2))) (nop))) <|
    ret (ap oTuple (acons (vr 1) (anil)))
abbrev N__law_same : List Str := ["told", "due", "at"]
def b__law_same (self : Fn) : Fn := runF 3 <|
    sq (sif (tru (ap oIsi (acons (vr 1) (acons (kn (.ty "tuple")) (anil))))) (sq (sif (tor (tnot (tru (ap oIsi (acons (vr 0) (acons (kn (.ty "tuple")) (anil)))))) (tb (bi oNe (ap oLen (acons (vr 0) (anil))) (ap oLen (acons (vr 1) (anil)))))) (ret (kn (.bl false))) (nop)) <|
    sq (sfor (range1 (ap oLen (acons (vr 1) (anil)))) (.nm 2) (sif (tnot (tru (cal 2 self (acons (bi oIx (vr 0) (vr 2)) (acons (bi oIx (vr 1) (vr 2)) (anil)))))) (ret (kn (.bl false))) (nop))) <|
    ret (kn (.bl true))) (nop)) <|
    sq (sif (tru (ap oIsi (acons (vr 1) (acons (kn (.ty "str")) (anil))))) (ret (eand (ap oIsi (acons (vr 0) (acons (kn (.ty "str")) (anil)))) (bi oEq (vr 0) (vr 1)))) (nop)) <|
    sq (sif (tru (ap oIsi (acons (vr 1) (acons (kn (.ty "int")) (anil))))) (ret (eand (ap oIsi (acons (vr 0) (acons (kn (.ty "int")) (anil)))) (eand (enot (ap oIsi (acons (vr 0) (acons (kn (.ty "bool")) (anil))))) (bi oEq (vr 0) (vr 1))))) (nop)) <|
    ret (kn (.bl false))
def m__law_same : Fn := recF b__law_same 12
abbrev N__law_ends : List Str := ["pool", "nodes", "one", "two"]
def m__law_ends : Fn := runF 4 <|
    sq (sst 2 (cal 2 m__law_pick (acons (vr 0) (acons (ap oLen (acons (vr 1) (anil))) (anil))))) <|
    sq (sst 3 (cal 2 m__law_pick (acons (vr 0) (acons (bi oSub (ap oLen (acons (vr 1) (anil))) (kn (.int 1))) (anil))))) <|
    sq (sif (tb (bi oGe (vr 3) (vr 2))) (sst 3 (bi oAdd (vr 3) (kn (.int 1)))) (nop)) <|
    ret (dtup (acons (bi oIx (vr 1) (vr 2)) (acons (bi oIx (vr 1) (vr 3)) (anil))))
abbrev N__law_links : List Str := ["pool", "nodes", "names", "links", "ends", "name"]
def m__law_links : Fn := runF 6 <|
    sq (sst 3 (dlst (anil))) <|
    sq (sst 4 (cal 2 m__law_ends (acons (vr 0) (acons (vr 1) (anil))))) <|
    sq (sfor (iter (vr 2)) (.nm 5) (sq (sif (tb (bi oGt (cal 2 m__law_pick (acons (vr 0) (acons (kn (.int 4)) (anil)))) (kn (.int 0)))) (sst 4 (cal 2 m__law_ends (acons (vr 0) (acons (vr 1) (anil))))) (sst 4 (dtup (acons (bi oIx (vr 4) (kn (.int 1))) (acons (bi oIx (vr 4) (kn (.int 0))) (anil)))))) <|
    drp (app (vr 3) (dtup (acons (vr 5) (acons (bi oIx (vr 4) (kn (.int 0))) (acons (bi oIx (vr 4) (kn (.int 1))) (anil)))))))) <|
    ret (vr 3)
abbrev N__law_due : List Str := ["nodes", "links", "monitors", "given", "rows", "name", "link"]
def m__law_due : Fn := runF 7 <|
    sq (sst 4 (dlst (anil))) <|
    sq (sfor (iter (ap oSorted (acons (lc (iter (vr 1)) (.nm 6) (yes) (bi oIx (vr 6) (kn (.int 0))) [6]) (anil)))) (.nm 5) (sfor (iter (vr 1)) (.nm 6) (sif (tb (bi oEq (bi oIx (vr 6) (kn (.int 0))) (vr 5))) (drp (app (vr 4) (dtup (acons (vr 5) (acons (ap oMin2 (acons (bi oIx (vr 6) (kn (.int 1))) (acons (bi oIx (vr 6) (kn (.int 2))) (anil)))) (acons (ap oMax2 (acons (bi oIx (vr 6) (kn (.int 1))) (acons (bi oIx (vr 6) (kn (.int 2))) (anil)))) (anil))))))) (nop)))) <|
    ret (dtup (acons (cal 1 m__law_lot (acons (vr 0) (anil))) (acons (ap oTuple (acons (vr 4) (anil))) (acons (cal 1 m__law_lot (acons (vr 2) (anil))) (acons (cal 1 m__law_lot (acons (vr 3) (anil))) (anil))))))
abbrev N__law_read : List Str := ["net", "many", "at", "name", "node", "due", "link"]
def m__law_read : Fn := runF 7 <|
    sq (sst 1 (ap oLen (acons (bi oIx (vr 0) (kn (.int 1))) (anil)))) <|
    sq (sif (tnot (tru (cal 2 m__law_same (acons (cal 1 m_zero_weights (acons (vr 0) (anil))) (acons (bi oMulX (dtup (acons (kn (.int 0)) (anil))) (vr 1)) (anil)))))) (ret (kn (.bl false))) (nop)) <|
    sq (sfor (range1 (vr 1)) (.nm 2) (sq (sst 3 (bi oIx (bi oIx (bi oIx (vr 0) (kn (.int 1))) (vr 2)) (kn (.int 0)))) <|
    sq (sif (tnot (tru (cal 2 m__law_same (acons (cal 2 m_ends_of (acons (vr 0) (acons (vr 3) (anil)))) (acons (dtup (acons (bi oIx (bi oIx (bi oIx (vr 0) (kn (.int 1))) (vr 2)) (kn (.int 1))) (acons (bi oIx (bi oIx (bi oIx (vr 0) (kn (.int 1))) (vr 2)) (kn (.int 2))) (anil)))) (anil)))))) (ret (kn (.bl false))) (nop)) <|
    sq (sif (tnot (tru (cal 2 m__law_same (acons (cal 2 m_place_of (acons (vr 0) (acons (vr 3) (anil)))) (acons (vr 2) (anil)))))) (ret (kn (.bl false))) (nop)) <|
    sif (tnot (tru (cal 2 m__law_same (acons (cal 2 m_weights_alone (acons (vr 0) (acons (vr 3) (anil)))) (acons (bi oAdd (bi oAdd (bi oMulX (dtup (acons (kn (.int 0)) (anil))) (vr 2)) (dtup (acons (kn (.int 1)) (anil)))) (bi oMulX (dtup (acons (kn (.int 0)) (anil))) (bi oSub (bi oSub (vr 1) (vr 2)) (kn (.int 1))))) (anil)))))) (ret (kn (.bl false))) (nop))) <|
    sq (sfor (iter (bi oIx (vr 0) (kn (.int 0)))) (.nm 4) (sq (sst 5 (lc (iter (bi oIx (vr 0) (kn (.int 1)))) (.nm 6) (tb (bi oIn (vr 4) (dtup (acons (bi oIx (vr 6) (kn (.int 1))) (acons (bi oIx (vr 6) (kn (.int 2))) (anil)))))) (bi oIx (vr 6) (kn (.int 0))) [6])) <|
    sif (tnot (tru (cal 2 m__law_same (acons (cal 2 m_links_at (acons (vr 0) (acons (vr 4) (anil)))) (acons (ap oTuple (acons (vr 5) (anil))) (anil)))))) (ret (kn (.bl false))) (nop))) <|
    ret (kn (.bl true))
abbrev N__law_made : List Str := ["pool", "many", "count", "nodes", "links", "monitors", "given", "twice", "due", "net", "back", "turned", "again", "plain", "link"]
def m__law_made : Fn := runF 15 <|
    sq (sst 3 (cal 3 m__law_words (acons (vr 0) (acons (vr 1) (acons (dlst (anil)) (anil)))))) <|
    sq (sst 4 (dlst (anil))) <|
    sq (sif (tb (bi oGt (vr 1) (kn (.int 1)))) (sst 4 (cal 3 m__law_links (acons (vr 0) (acons (vr 3) (acons (cal 3 m__law_words (acons (vr 0) (acons (vr 2) (acons (vr 3) (anil))))) (anil)))))) (nop)) <|
    sq (sst 5 (cal 2 m__law_some (acons (vr 0) (acons (vr 3) (anil))))) <|
    sq (sst 6 (cal 2 m__law_some (acons (vr 0) (acons (lc (iter (vr 4)) (.nm 14) (yes) (bi oIx (vr 14) (kn (.int 0))) [14]) (anil))))) <|
    sq (sst 7 (ap oTuple (acons (cal 2 m__law_shuffled (acons (vr 0) (acons (bi oAdd (vr 3) (cal 2 m__law_some (acons (vr 0) (acons (vr 3) (anil))))) (anil)))) (anil)))) <|
    sq (sst 8 (cal 4 m__law_due (acons (vr 3) (acons (vr 4) (acons (vr 5) (acons (vr 6) (anil))))))) <|
    sq (sst 9 (cal 4 m_make_net (acons (vr 7) (acons (ap oTuple (acons (vr 4) (anil))) (acons (ap oTuple (acons (vr 5) (anil))) (acons (ap oTuple (acons (vr 6) (anil))) (anil))))))) <|
    sq (sif (tor (tnot (tru (cal 2 m__law_same (acons (vr 9) (acons (vr 8) (anil)))))) (tnot (tru (cal 1 m__law_read (acons (vr 8) (anil)))))) (ret (kn (.bl false))) (nop)) <|
    sq (sst 10 (ap oTuple (acons (cal 2 m__law_shuffled (acons (vr 0) (acons (vr 4) (anil)))) (anil)))) <|
    sq (sst 11 (ap oTuple (acons (lc (iter (vr 10)) (.nm 14) (yes) (dtup (acons (bi oIx (vr 14) (kn (.int 0))) (acons (bi oIx (vr 14) (kn (.int 2))) (acons (bi oIx (vr 14) (kn (.int 1))) (anil))))) [14]) (anil)))) <|
    sq (sst 12 (calK 4 [1, 3, 0, 2] m_make_net (acons (ap oTuple (acons (bi oAdd (vr 5) (vr 5)) (anil))) (acons (ap oTuple (acons (vr 3) (anil))) (acons (ap oTuple (acons (vr 6) (anil))) (acons (vr 11) (anil))))))) <|
    sq (sif (tnot (tru (cal 2 m__law_same (acons (vr 12) (acons (vr 8) (anil)))))) (ret (kn (.bl false))) (nop)) <|
    sq (sst 13 (cal 4 m_make_net (acons (bi oIx (vr 8) (kn (.int 0))) (acons (bi oIx (vr 8) (kn (.int 1))) (acons (bi oIx (vr 8) (kn (.int 2))) (acons (bi oIx (vr 8) (kn (.int 3))) (anil))))))) <|
    ret (eand (cal 2 m__law_same (acons (vr 13) (acons (vr 8) (anil)))) (cal 2 m__law_same (acons (cal 4 m_make_net (acons (vr 7) (acons (ap oTuple (acons (vr 4) (anil))) (acons (dtup (anil)) (acons (dtup (anil)) (anil)))))) (acons (dtup (acons (bi oIx (vr 8) (kn (.int 0))) (acons (bi oIx (vr 8) (kn (.int 1))) (acons (dtup (anil)) (acons (dtup (anil)) (anil)))))) (anil)))))
abbrev N__law_named : List Str := ["none", "net", "due"]
def m__law_named : Fn := runF 3 <|
    sq (sst 0 (dtup (acons (dtup (anil)) (acons (dtup (anil)) (acons (dtup (anil)) (acons (dtup (anil)) (anil))))))) <|
    sq (sif (tor (tnot (tru (cal 2 m__law_same (acons (cal 4 m_make_net (acons (dtup (anil)) (acons (dtup (anil)) (acons (dtup (anil)) (acons (dtup (anil)) (anil)))))) (acons (vr 0) (anil)))))) (tnot (tru (cal 2 m__law_same (acons (cal 1 m_zero_weights (acons (vr 0) (anil))) (acons (dtup (anil)) (anil))))))) (ret (kn (.bl false))) (nop)) <|
    sq (sst 1 (cal 4 m_make_net (acons (dtup (acons (kn (.str "b")) (acons (kn (.str "a")) (acons (kn (.str "b")) (acons (kn (.str "c")) (anil)))))) (acons (dtup (acons (dtup (acons (kn (.str "r")) (acons (kn (.str "b")) (acons (kn (.str "a")) (anil))))) (acons (dtup (acons (kn (.str "k")) (acons (kn (.str "a")) (acons (kn (.str "b")) (anil))))) (anil)))) (acons (dtup (acons (kn (.str "b")) (acons (kn (.str "a")) (acons (kn (.str "b")) (anil))))) (acons (dtup (acons (kn (.str "r")) (acons (kn (.str "r")) (anil)))) (anil))))))) <|
    sq (sst 2 (dtup (acons (dtup (acons (kn (.str "a")) (acons (kn (.str "b")) (acons (kn (.str "c")) (anil))))) (acons (dtup (acons (dtup (acons (kn (.str "k")) (acons (kn (.str "a")) (acons (kn (.str "b")) (anil))))) (acons (dtup (acons (kn (.str "r")) (acons (kn (.str "a")) (acons (kn (.str "b")) (anil))))) (anil)))) (acons (dtup (acons (kn (.str "a")) (acons (kn (.str "b")) (anil)))) (acons (dtup (acons (kn (.str "r")) (anil))) (anil))))))) <|
    sq (sif (tor (tnot (tru (cal 2 m__law_same (acons (vr 1) (acons (vr 2) (anil)))))) (tnot (tru (cal 2 m__law_same (acons (calK 2 [1, 0] m_links_at (acons (kn (.str "c")) (acons (vr 2) (anil)))) (acons (dtup (anil)) (anil))))))) (ret (kn (.bl false))) (nop)) <|
    sq (sif (tor (tnot (tru (cal 2 m__law_same (acons (calK 2 [1, 0] m_ends_of (acons (kn (.str "r")) (acons (vr 2) (anil)))) (acons (dtup (acons (kn (.str "a")) (acons (kn (.str "b")) (anil)))) (anil)))))) (tnot (tru (cal 2 m__law_same (acons (calK 2 [1, 0] m_place_of (acons (kn (.str "r")) (acons (vr 2) (anil)))) (acons (kn (.int 1)) (anil))))))) (ret (kn (.bl false))) (nop)) <|
    ret (eand (cal 2 m__law_same (acons (calK 2 [1, 0] m_weights_alone (acons (kn (.str "r")) (acons (vr 2) (anil)))) (acons (dtup (acons (kn (.int 0)) (acons (kn (.int 1)) (anil)))) (anil)))) (cal 2 m__law_same (acons (calK 1 [0] m_zero_weights (acons (vr 2) (anil))) (acons (dtup (acons (kn (.int 0)) (acons (kn (.int 0)) (anil)))) (anil)))))
abbrev N_law : List Str := ["script", "pool", "lap"]
def m_law : Fn := runF 3 <|
    sq (sst 1 (cal 1 m__law_pool (acons (vr 0) (anil)))) <|
    sq (sif (tnot (tru (cal 0 m__law_named anil))) (ret (kn (.bl false))) (nop)) <|
    sq (sfor (range1 (kn (.int 2))) (.nm 2) (sif (tnot (tru (cal 3 m__law_made (acons (vr 1) (acons (bi oAdd (kn (.int 2)) (cal 2 m__law_pick (acons (vr 1) (acons (kn (.int 5)) (anil))))) (acons (bi oAdd (kn (.int 1)) (cal 2 m__law_pick (acons (vr 1) (acons (kn (.int 9)) (anil))))) (anil))))))) (ret (kn (.bl false))) (nop))) <|
    sq (sif (tnot (tru (cal 3 m__law_made (acons (vr 1) (acons (cal 2 m__law_pick (acons (vr 1) (acons (kn (.int 3)) (anil)))) (acons (cal 2 m__law_pick (acons (vr 1) (acons (kn (.int 4)) (anil)))) (anil))))))) (ret (kn (.bl false))) (nop)) <|
    sq (sif (tand (tb (bi oEq (cal 2 m__law_pick (acons (vr 1) (acons (kn (.int 7)) (anil)))) (kn (.int 0)))) (tnot (tru (cal 3 m__law_made (acons (vr 1) (acons (kn (.int 30)) (acons (kn (.int 60)) (anil)))))))) (ret (kn (.bl false))) (nop)) <|
    ret (cal 0 m__law_named anil)
/-! ### what the top has made -/
structure Pk (K : PySem.W.Frag) (mg : MGl) where
  d_make_net : DefAt K mg "make_net" "make_net" st_make_net ["nodes", "links", "monitors", "given"]
  d_place_of : DefAt K mg "place_of" "place_of" st_place_of ["net", "name"]
  d_ends_of : DefAt K mg "ends_of" "ends_of" st_ends_of ["net", "name"]
  d_links_at : DefAt K mg "links_at" "links_at" st_links_at ["net", "node"]
  d_weights_alone : DefAt K mg "weights_alone" "weights_alone" st_weights_alone ["net", "name"]
  d_zero_weights : DefAt K mg "zero_weights" "zero_weights" st_zero_weights ["net"]
  d__law_pool : DefAt K mg "_law_pool" "_law_pool" st__law_pool ["script"]
  d__law_pick : DefAt K mg "_law_pick" "_law_pick" st__law_pick ["pool", "many"]
  d__law_word : DefAt K mg "_law_word" "_law_word" st__law_word ["pool"]
  d__law_words : DefAt K mg "_law_words" "_law_words" st__law_words ["pool", "many", "other"]
  d__law_shuffled : DefAt K mg "_law_shuffled" "_law_shuffled" st__law_shuffled ["pool", "row"]
  d__law_some : DefAt K mg "_law_some" "_law_some" st__law_some ["pool", "row"]
  d__law_lot : DefAt K mg "_law_lot" "_law_lot" st__law_lot ["row"]
  d__law_same : DefAt K mg "_law_same" "_law_same" st__law_same ["told", "due"]
  d__law_ends : DefAt K mg "_law_ends" "_law_ends" st__law_ends ["pool", "nodes"]
  d__law_links : DefAt K mg "_law_links" "_law_links" st__law_links ["pool", "nodes", "names"]
  d__law_due : DefAt K mg "_law_due" "_law_due" st__law_due ["nodes", "links", "monitors", "given"]
  d__law_read : DefAt K mg "_law_read" "_law_read" st__law_read ["net"]
  d__law_made : DefAt K mg "_law_made" "_law_made" st__law_made ["pool", "many", "count"]
  d__law_named : DefAt K mg "_law_named" "_law_named" st__law_named []
  d_law : DefAt K mg "law" "law" st_law ["script"]
  z_bool : mg "bool" = none
  z_enumerate : mg "enumerate" = none
  z_int : mg "int" = none
  z_isinstance : mg "isinstance" = none
  z_len : mg "len" = none
  z_list : mg "list" = none
  z_max : mg "max" = none
  z_min : mg "min" = none
  z_range : mg "range" = none
  z_set : mg "set" = none
  z_sorted : mg "sorted" = none
  z_str : mg "str" = none
  z_tuple : mg "tuple" = none
section
variable {P : Program} {w : World} {K : PySem.W.Frag} {mg : MGl} {base : Heap}
theorem kb_ends_of_1_0 (T : Pk K mg) : ∀ (s : Shared) (ws : List Value), ws.length = (["name", "net"] : List Str).length → BindsTo s T.d_ends_of.fd ⟨[], (["name", "net"] : List Str).zip ws⟩ ((["net", "name"] : List Str).zip (([1, 0] : List Nat).map fun i => ws.getD i .none)) := by
  obtain ⟨oc, od, kV, doc, pmm, an, cdv, ct, osl, e, lk, hcd⟩ := T.d_ends_of.fn.ex
  rw [e]
  intro s ws hl
  match ws, hl with
  | [u0, u1], _ => exact .of_eq rfl
theorem kb_links_at_1_0 (T : Pk K mg) : ∀ (s : Shared) (ws : List Value), ws.length = (["node", "net"] : List Str).length → BindsTo s T.d_links_at.fd ⟨[], (["node", "net"] : List Str).zip ws⟩ ((["net", "node"] : List Str).zip (([1, 0] : List Nat).map fun i => ws.getD i .none)) := by
  obtain ⟨oc, od, kV, doc, pmm, an, cdv, ct, osl, e, lk, hcd⟩ := T.d_links_at.fn.ex
  rw [e]
  intro s ws hl
  match ws, hl with
  | [u0, u1], _ => exact .of_eq rfl
theorem kb_make_net_1_3_0_2 (T : Pk K mg) : ∀ (s : Shared) (ws : List Value), ws.length = (["monitors", "nodes", "given", "links"] : List Str).length → BindsTo s T.d_make_net.fd ⟨[], (["monitors", "nodes", "given", "links"] : List Str).zip ws⟩ ((["nodes", "links", "monitors", "given"] : List Str).zip (([1, 3, 0, 2] : List Nat).map fun i => ws.getD i .none)) := by
  obtain ⟨oc, od, kV, doc, pmm, an, cdv, ct, osl, e, lk, hcd⟩ := T.d_make_net.fn.ex
  rw [e]
  intro s ws hl
  match ws, hl with
  | [u0, u1, u2, u3], _ => exact .of_eq rfl
theorem kb_place_of_1_0 (T : Pk K mg) : ∀ (s : Shared) (ws : List Value), ws.length = (["name", "net"] : List Str).length → BindsTo s T.d_place_of.fd ⟨[], (["name", "net"] : List Str).zip ws⟩ ((["net", "name"] : List Str).zip (([1, 0] : List Nat).map fun i => ws.getD i .none)) := by
  obtain ⟨oc, od, kV, doc, pmm, an, cdv, ct, osl, e, lk, hcd⟩ := T.d_place_of.fn.ex
  rw [e]
  intro s ws hl
  match ws, hl with
  | [u0, u1], _ => exact .of_eq rfl
theorem kb_weights_alone_1_0 (T : Pk K mg) : ∀ (s : Shared) (ws : List Value), ws.length = (["name", "net"] : List Str).length → BindsTo s T.d_weights_alone.fd ⟨[], (["name", "net"] : List Str).zip ws⟩ ((["net", "name"] : List Str).zip (([1, 0] : List Nat).map fun i => ws.getD i .none)) := by
  obtain ⟨oc, od, kV, doc, pmm, an, cdv, ct, osl, e, lk, hcd⟩ := T.d_weights_alone.fn.ex
  rw [e]
  intro s ws hl
  match ws, hl with
  | [u0, u1], _ => exact .of_eq rfl
theorem kb_zero_weights_0 (T : Pk K mg) : ∀ (s : Shared) (ws : List Value), ws.length = (["net"] : List Str).length → BindsTo s T.d_zero_weights.fd ⟨[], (["net"] : List Str).zip ws⟩ ((["net"] : List Str).zip (([0] : List Nat).map fun i => ws.getD i .none)) := by
  obtain ⟨oc, od, kV, doc, pmm, an, cdv, ct, osl, e, lk, hcd⟩ := T.d_zero_weights.fn.ex
  rw [e]
  intro s ws hl
  match ws, hl with
  | [u0], _ => exact .of_eq rfl
theorem sc_make_net : FnScope N_make_net ["nodes", "links", "monitors", "given"] (defScope st_make_net) := ⟨rfl, rfl, rfl, by decide +kernel, rfl, by decide +kernel, by decide +kernel⟩
theorem ok_make_net (T : Pk K mg) : DOk P w K mg base 1 T.d_make_net.a T.d_make_net.fd ["nodes", "links", "monitors", "given"] m_make_net := by
  refine okF T.d_make_net.fn sc_make_net (by decide) fun cdv A outer s H E hr => ?_
  have hu : (A.deeper (envOfC "make_net" (defScope st_make_net) s.heap.objs.size T.d_make_net.a cdv)).units + 64 < cLine := by have := hr.un; omega
  have hu5 : (A.deeper (envOfC "make_net" (defScope st_make_net) s.heap.objs.size T.d_make_net.a cdv)).units + 65 < cLine := by have := hr.un; omega
  have tk := takes_of (X := cxOf (L2.CX P w) P w K mg base N_make_net "make_net" (defScope st_make_net) T.d_make_net.a cdv A outer s H E) rfl rfl rfl rfl
  exact ss_cons (ss_setLc (i := 4) (own := [("name", 5), ("one", 6), ("other", 7)]) rfl sc_make_net.nd (si_any (sv 1)) (blkOk_of (show blkB N_make_net (defScope st_make_net) _ [("name", 5), ("one", 6), ("other", 7)] = true by decide +kernel)) (by decide) (fun s H C cl fp => sg_tup rfl (sgs_cons (i := 5) (sgs_cons (i := 6) (sgs_cons (i := 7) (sgs_nil) sc_make_net.nd) sc_make_net.nd) sc_make_net.nd)) (fun s H C cl fp => sts_nil) (fun s H C cl fp => se_tup (sa_cons (sv 5) (sa_cons (se_blt (r_min2 rfl) T.z_min (sa_cons (sv 6) (sa_cons (sv 7) (sa_nil)))) (sa_cons (se_blt (r_max2 rfl) T.z_max (sa_cons (sv 6) (sa_cons (sv 7) (sa_nil)))) (sa_nil))))) (hsw := by rfl)) (
    ss_one (ss_ret (se_tup (sa_cons (se_typ r_tuple T.z_tuple (sa_cons (se_sset rfl hu T.z_sorted T.z_set (sv 0)) (sa_nil))) (sa_cons (se_typ r_tuple T.z_tuple (sa_cons (se_blt (r_sorted hu) T.z_sorted (sa_cons (sv 4) (sa_nil))) (sa_nil))) (sa_cons (se_typ r_tuple T.z_tuple (sa_cons (se_sset rfl hu T.z_sorted T.z_set (sv 2)) (sa_nil))) (sa_cons (se_typ r_tuple T.z_tuple (sa_cons (se_sset rfl hu T.z_sorted T.z_set (sv 3)) (sa_nil))) (sa_nil))))))))
theorem sc_place_of : FnScope N_place_of ["net", "name"] (defScope st_place_of) := ⟨rfl, rfl, rfl, by decide +kernel, rfl, by decide +kernel, by decide +kernel⟩
theorem ok_place_of (T : Pk K mg) : DOk P w K mg base 1 T.d_place_of.a T.d_place_of.fd ["net", "name"] m_place_of := by
  refine okF T.d_place_of.fn sc_place_of (by decide) fun cdv A outer s H E hr => ?_
  have hu : (A.deeper (envOfC "place_of" (defScope st_place_of) s.heap.objs.size T.d_place_of.a cdv)).units + 64 < cLine := by have := hr.un; omega
  have hu5 : (A.deeper (envOfC "place_of" (defScope st_place_of) s.heap.objs.size T.d_place_of.a cdv)).units + 65 < cLine := by have := hr.un; omega
  have tk := takes_of (X := cxOf (L2.CX P w) P w K mg base N_place_of "place_of" (defScope st_place_of) T.d_place_of.a cdv A outer s H E) rfl rfl rfl rfl
  exact ss_cons (ss_for (passes_of rfl) rfl (si_enum T.z_enumerate (se_ix (sv 0) (sint))) (sg_tup rfl (sgs_cons (i := 2) (sgs_cons (i := 3) (sgs_nil) sc_place_of.nd) sc_place_of.nd)) (ss_one (ss_if (tcmp (r_eq hu) (fun _ _ _ _ h => h) (se_ix (sv 3) (sint)) (sv 1) (nomark _)) (ss_one (ss_ret (sv 2))) (ss_nil)))) (
    ss_one (ss_ret (snon)))
theorem sc_ends_of : FnScope N_ends_of ["net", "name"] (defScope st_ends_of) := ⟨rfl, rfl, rfl, by decide +kernel, rfl, by decide +kernel, by decide +kernel⟩
theorem ok_ends_of (T : Pk K mg) : DOk P w K mg base 2 T.d_ends_of.a T.d_ends_of.fd ["net", "name"] m_ends_of := by
  refine okF T.d_ends_of.fn sc_ends_of (by decide) fun cdv A outer s H E hr => ?_
  have hu : (A.deeper (envOfC "ends_of" (defScope st_ends_of) s.heap.objs.size T.d_ends_of.a cdv)).units + 64 < cLine := by have := hr.un; omega
  have hu5 : (A.deeper (envOfC "ends_of" (defScope st_ends_of) s.heap.objs.size T.d_ends_of.a cdv)).units + 65 < cLine := by have := hr.un; omega
  have tk := takes_of (X := cxOf (L2.CX P w) P w K mg base N_ends_of "ends_of" (defScope st_ends_of) T.d_ends_of.a cdv A outer s H E) rfl rfl rfl rfl
  exact ss_cons (ss_set (i := 2) (se_ix (se_ix (sv 0) (sint)) (se_call tk ((ok_place_of T).mono (by decide)) hr T.d_place_of.hm T.d_place_of.hk T.d_place_of.bi (sa_cons (sv 0) (sa_cons (sv 1) (sa_nil))))) sc_ends_of.nd) (
    ss_one (ss_ret (se_tup (sa_cons (se_ix (sv 2) (sint)) (sa_cons (se_ix (sv 2) (sint)) (sa_nil))))))
theorem sc_links_at : FnScope N_links_at ["net", "node"] (defScope st_links_at) := ⟨rfl, rfl, rfl, by decide +kernel, rfl, by decide +kernel, by decide +kernel⟩
theorem ok_links_at (T : Pk K mg) : DOk P w K mg base 1 T.d_links_at.a T.d_links_at.fd ["net", "node"] m_links_at := by
  refine okF T.d_links_at.fn sc_links_at (by decide) fun cdv A outer s H E hr => ?_
  have hu : (A.deeper (envOfC "links_at" (defScope st_links_at) s.heap.objs.size T.d_links_at.a cdv)).units + 64 < cLine := by have := hr.un; omega
  have hu5 : (A.deeper (envOfC "links_at" (defScope st_links_at) s.heap.objs.size T.d_links_at.a cdv)).units + 65 < cLine := by have := hr.un; omega
  have tk := takes_of (X := cxOf (L2.CX P w) P w K mg base N_links_at "links_at" (defScope st_links_at) T.d_links_at.a cdv A outer s H E) rfl rfl rfl rfl
  exact ss_one (ss_ret (se_typ r_tuple T.z_tuple (sa_cons (se_lc (own := [("name", 2), ("low", 3), ("high", 4)]) rfl sc_links_at.nd (si_any (se_ix (sv 0) (sint))) (blkOk_of (show blkB N_links_at (defScope st_links_at) _ [("name", 2), ("low", 3), ("high", 4)] = true by decide +kernel)) (by decide) (fun s H C cl fp => sg_tup rfl (sgs_cons (i := 2) (sgs_cons (i := 3) (sgs_cons (i := 4) (sgs_nil) sc_links_at.nd) sc_links_at.nd) sc_links_at.nd)) (fun s H C cl fp => sts_one (tcmp (r_in hu5) (fun _ _ _ _ h => h) (sv 1) (se_tup (sa_cons (sv 3) (sa_cons (sv 4) (sa_nil)))) (by rfl))) (fun s H C cl fp => sv 2)) (sa_nil))))
theorem sc_weights_alone : FnScope N_weights_alone ["net", "name"] (defScope st_weights_alone) := ⟨rfl, rfl, rfl, by decide +kernel, rfl, by decide +kernel, by decide +kernel⟩
theorem ok_weights_alone (T : Pk K mg) : DOk P w K mg base 1 T.d_weights_alone.a T.d_weights_alone.fd ["net", "name"] m_weights_alone := by
  refine okF T.d_weights_alone.fn sc_weights_alone (by decide) fun cdv A outer s H E hr => ?_
  have hu : (A.deeper (envOfC "weights_alone" (defScope st_weights_alone) s.heap.objs.size T.d_weights_alone.a cdv)).units + 64 < cLine := by have := hr.un; omega
  have hu5 : (A.deeper (envOfC "weights_alone" (defScope st_weights_alone) s.heap.objs.size T.d_weights_alone.a cdv)).units + 65 < cLine := by have := hr.un; omega
  have tk := takes_of (X := cxOf (L2.CX P w) P w K mg base N_weights_alone "weights_alone" (defScope st_weights_alone) T.d_weights_alone.a cdv A outer s H E) rfl rfl rfl rfl
  exact ss_one (ss_ret (se_typ r_tuple T.z_tuple (sa_cons (se_lc (own := [("link", 2)]) rfl sc_weights_alone.nd (si_any (se_ix (sv 0) (sint))) (blkOk_of (show blkB N_weights_alone (defScope st_weights_alone) _ [("link", 2)] = true by decide +kernel)) (by decide) (fun s H C cl fp => sg_name (i := 2) sc_weights_alone.nd) (fun s H C cl fp => sts_nil) (fun s H C cl fp => se_typ r_intc T.z_int (sa_cons (scmp (r_eq hu) (fun _ _ _ _ h => h) (se_ix (sv 2) (sint)) (sv 1) (nomark _)) (sa_nil)))) (sa_nil))))
theorem sc_zero_weights : FnScope N_zero_weights ["net"] (defScope st_zero_weights) := ⟨rfl, rfl, rfl, by decide +kernel, rfl, by decide +kernel, by decide +kernel⟩
theorem ok_zero_weights (T : Pk K mg) : DOk P w K mg base 1 T.d_zero_weights.a T.d_zero_weights.fd ["net"] m_zero_weights := by
  refine okF T.d_zero_weights.fn sc_zero_weights (by decide) fun cdv A outer s H E hr => ?_
  have hu : (A.deeper (envOfC "zero_weights" (defScope st_zero_weights) s.heap.objs.size T.d_zero_weights.a cdv)).units + 64 < cLine := by have := hr.un; omega
  have hu5 : (A.deeper (envOfC "zero_weights" (defScope st_zero_weights) s.heap.objs.size T.d_zero_weights.a cdv)).units + 65 < cLine := by have := hr.un; omega
  have tk := takes_of (X := cxOf (L2.CX P w) P w K mg base N_zero_weights "zero_weights" (defScope st_zero_weights) T.d_zero_weights.a cdv A outer s H E) rfl rfl rfl rfl
  exact ss_one (ss_ret (sbin r_mulX (fun _ _ _ _ h => h) (se_tup (sa_cons (sint) (sa_nil))) (se_blt r_len T.z_len (sa_cons (se_ix (sv 0) (sint)) (sa_nil)))))
theorem sc__law_pool : FnScope N__law_pool ["script"] (defScope st__law_pool) := ⟨rfl, rfl, rfl, by decide +kernel, rfl, by decide +kernel, by decide +kernel⟩
theorem ok__law_pool (T : Pk K mg) : DOk P w K mg base 1 T.d__law_pool.a T.d__law_pool.fd ["script"] m__law_pool := by
  refine okF T.d__law_pool.fn sc__law_pool (by decide) fun cdv A outer s H E hr => ?_
  have hu : (A.deeper (envOfC "_law_pool" (defScope st__law_pool) s.heap.objs.size T.d__law_pool.a cdv)).units + 64 < cLine := by have := hr.un; omega
  have hu5 : (A.deeper (envOfC "_law_pool" (defScope st__law_pool) s.heap.objs.size T.d__law_pool.a cdv)).units + 65 < cLine := by have := hr.un; omega
  have tk := takes_of (X := cxOf (L2.CX P w) P w K mg base N__law_pool "_law_pool" (defScope st__law_pool) T.d__law_pool.a cdv A outer s H E) rfl rfl rfl rfl
  exact ss_one (ss_ret (se_lst (sa_cons (sint) (sa_cons (sint) (sa_cons (sint) (sa_cons (se_lc (own := [("cell", 1)]) rfl sc__law_pool.nd (si_any (se_sl (sv 0) (so_none) (so_some (sint)))) (blkOk_of (show blkB N__law_pool (defScope st__law_pool) _ [("cell", 1)] = true by decide +kernel)) (by decide) (fun s H C cl fp => sg_name (i := 1) sc__law_pool.nd) (fun s H C cl fp => sts_nil) (fun s H C cl fp => sbin r_mod (fun _ _ _ _ h => h) (se_typ r_intc T.z_int (sa_cons (sv 1) (sa_nil))) (sbin r_shl (fun _ _ _ _ h => h) (sint) (sint)))) (sa_nil)))))))
theorem sc__law_pick : FnScope N__law_pick ["pool", "many"] (defScope st__law_pick) := ⟨rfl, rfl, rfl, by decide +kernel, rfl, by decide +kernel, by decide +kernel⟩
theorem ok__law_pick (T : Pk K mg) : DOk P w K mg base 1 T.d__law_pick.a T.d__law_pick.fd ["pool", "many"] m__law_pick := by
  refine okF T.d__law_pick.fn sc__law_pick (by decide) fun cdv A outer s H E hr => ?_
  have hu : (A.deeper (envOfC "_law_pick" (defScope st__law_pick) s.heap.objs.size T.d__law_pick.a cdv)).units + 64 < cLine := by have := hr.un; omega
  have hu5 : (A.deeper (envOfC "_law_pick" (defScope st__law_pick) s.heap.objs.size T.d__law_pick.a cdv)).units + 65 < cLine := by have := hr.un; omega
  have tk := takes_of (X := cxOf (L2.CX P w) P w K mg base N__law_pick "_law_pick" (defScope st__law_pick) T.d__law_pick.a cdv A outer s H E) rfl rfl rfl rfl
  exact ss_cons (ss_set (i := 2) (se_ix (sv 0) (sint)) sc__law_pick.nd) (
    ss_cons (ss_if ((sw_and (tcmp (r_eq hu) (fun _ _ _ _ h => h) (se_ix (sv 0) (sint)) (sint) (nomark _)) (sw_and1 (tcmp r_lt (fun _ _ _ _ h => h) (se_ix (sv 0) (sint)) (se_blt r_len T.z_len (sa_cons (sv 2) (sa_nil))) (nomark _)))).pt) (ss_cons (ss_set (i := 3) (se_ix (sv 2) (se_ix (sv 0) (sint))) sc__law_pick.nd) (
    ss_cons (ss_setIx (sbin r_add (fun _ _ _ _ h => h) (se_ix (sv 0) (sint)) (sint)) (sv 0) (sint)) (
    ss_cons (ss_if (tcmp r_ge (fun _ _ _ _ h => h) (sv 3) (sbin r_pow (fun _ _ _ _ h => h) (sint) (sint)) (nomark _)) (ss_one (ss_setIx (sv 3) (sv 0) (sint))) (ss_nil)) (
    ss_one (ss_setIx (sbin r_mod (fun _ _ _ _ h => h) (se_typ r_intc T.z_int (sa_cons (sbin r_add (fun _ _ _ _ h => h) (sbin r_add (fun _ _ _ _ h => h) (sbin r_mulX (fun _ _ _ _ h => h) (se_ix (sv 0) (sint)) (sint)) (sbin r_mod (fun _ _ _ _ h => h) (se_typ r_intc T.z_int (sa_cons (sv 3) (sa_nil))) (sint))) (sint)) (sa_nil))) (sint)) (sv 0) (sint)))))) (ss_nil)) (
    ss_cons (ss_if (tcmp r_gt (fun _ _ _ _ h => h) (se_ix (sv 0) (sint)) (sint) (nomark _)) (ss_cons (ss_set (i := 4) (sbin r_mod (fun _ _ _ _ h => h) (se_typ r_intc T.z_int (sa_cons (se_ix (sv 0) (sint)) (sa_nil))) (sv 1)) sc__law_pick.nd) (
    ss_cons (ss_setIx (sbin r_fdiv (fun _ _ _ _ h => h) (se_ix (sv 0) (sint)) (sv 1)) (sv 0) (sint)) (
    ss_one (ss_ret (sv 4))))) (ss_nil)) (
    ss_cons (ss_setIx (sbin r_mod (fun _ _ _ _ h => h) (se_typ r_intc T.z_int (sa_cons (sbin r_add (fun _ _ _ _ h => h) (sbin r_mulX (fun _ _ _ _ h => h) (se_ix (sv 0) (sint)) (sint)) (sint)) (sa_nil))) (sint)) (sv 0) (sint)) (
    ss_one (ss_ret (sbin r_mod (fun _ _ _ _ h => h) (se_typ r_intc T.z_int (sa_cons (sbin r_fdiv (fun _ _ _ _ h => h) (se_ix (sv 0) (sint)) (sint)) (sa_nil))) (sv 1)))))))
theorem sc__law_word : FnScope N__law_word ["pool"] (defScope st__law_word) := ⟨rfl, rfl, rfl, by decide +kernel, rfl, by decide +kernel, by decide +kernel⟩
theorem ok__law_word (T : Pk K mg) : DOk P w K mg base 2 T.d__law_word.a T.d__law_word.fd ["pool"] m__law_word := by
  refine okF T.d__law_word.fn sc__law_word (by decide) fun cdv A outer s H E hr => ?_
  have hu : (A.deeper (envOfC "_law_word" (defScope st__law_word) s.heap.objs.size T.d__law_word.a cdv)).units + 64 < cLine := by have := hr.un; omega
  have hu5 : (A.deeper (envOfC "_law_word" (defScope st__law_word) s.heap.objs.size T.d__law_word.a cdv)).units + 65 < cLine := by have := hr.un; omega
  have tk := takes_of (X := cxOf (L2.CX P w) P w K mg base N__law_word "_law_word" (defScope st__law_word) T.d__law_word.a cdv A outer s H E) rfl rfl rfl rfl
  exact ss_cons (ss_set (i := 1) (sstr) sc__law_word.nd) (
    ss_cons (ss_set (i := 2) (sbin r_add (fun _ _ _ _ h => h) (sv 1) (sstr)) sc__law_word.nd) (
    ss_cons (ss_set (i := 3) (se_ix (sv 1) (se_call tk ((ok__law_pick T).mono (by decide)) hr T.d__law_pick.hm T.d__law_pick.hk T.d__law_pick.bi (sa_cons (sv 0) (sa_cons (sint) (sa_nil))))) sc__law_word.nd) (
    ss_cons (ss_for (passes_of rfl) rfl (si_range1 T.z_range (sbin r_mulX (fun _ _ _ _ h => h) (se_call tk ((ok__law_pick T).mono (by decide)) hr T.d__law_pick.hm T.d__law_pick.hk T.d__law_pick.bi (sa_cons (sv 0) (sa_cons (sint) (sa_nil)))) (se_call tk ((ok__law_pick T).mono (by decide)) hr T.d__law_pick.hm T.d__law_pick.hk T.d__law_pick.bi (sa_cons (sv 0) (sa_cons (sint) (sa_nil)))))) (sg_name (i := 4) sc__law_word.nd) (ss_one (ss_set (i := 3) (sbin r_add (fun _ _ _ _ h => h) (sv 3) (se_ix (sv 2) (se_call tk ((ok__law_pick T).mono (by decide)) hr T.d__law_pick.hm T.d__law_pick.hk T.d__law_pick.bi (sa_cons (sv 0) (sa_cons (sint) (sa_nil)))))) sc__law_word.nd))) (
    ss_cons (ss_if (tcmp (r_eq hu) (fun _ _ _ _ h => h) (se_call tk ((ok__law_pick T).mono (by decide)) hr T.d__law_pick.hm T.d__law_pick.hk T.d__law_pick.bi (sa_cons (sv 0) (sa_cons (sint) (sa_nil)))) (sint) (nomark _)) (ss_cons (ss_set (i := 3) (sbin r_add (fun _ _ _ _ h => h) (sv 3) (sstr)) sc__law_word.nd) (
    ss_one (ss_for (passes_of rfl) rfl (si_range1 T.z_range (sbin r_add (fun _ _ _ _ h => h) (sint) (sbin r_mulX (fun _ _ _ _ h => h) (se_call tk ((ok__law_pick T).mono (by decide)) hr T.d__law_pick.hm T.d__law_pick.hk T.d__law_pick.bi (sa_cons (sv 0) (sa_cons (sint) (sa_nil)))) (se_call tk ((ok__law_pick T).mono (by decide)) hr T.d__law_pick.hm T.d__law_pick.hk T.d__law_pick.bi (sa_cons (sv 0) (sa_cons (sint) (sa_nil))))))) (sg_name (i := 4) sc__law_word.nd) (ss_one (ss_set (i := 3) (sbin r_add (fun _ _ _ _ h => h) (sv 3) (se_ix (sv 2) (se_call tk ((ok__law_pick T).mono (by decide)) hr T.d__law_pick.hm T.d__law_pick.hk T.d__law_pick.bi (sa_cons (sv 0) (sa_cons (sint) (sa_nil)))))) sc__law_word.nd))))) (ss_nil)) (
    ss_cons (ss_if (tcmp (r_in hu5) (fun _ _ _ _ h => h) (sv 3) (se_tup (sa_cons (sstr) (sa_cons (sstr) (sa_cons (sstr) (sa_cons (sstr) (sa_cons (sstr) (sa_cons (sstr) (sa_cons (sstr) (sa_cons (sstr) (sa_cons (sstr) (sa_cons (sstr) (sa_cons (sstr) (sa_cons (sstr) (sa_nil)))))))))))))) (by rfl)) (ss_one (ss_ret (sstr))) (ss_nil)) (
    ss_one (ss_ret (sv 3))))))))
theorem sc__law_words : FnScope N__law_words ["pool", "many", "other"] (defScope st__law_words) := ⟨rfl, rfl, rfl, by decide +kernel, rfl, by decide +kernel, by decide +kernel⟩
theorem ok__law_words (T : Pk K mg) : DOk P w K mg base 3 T.d__law_words.a T.d__law_words.fd ["pool", "many", "other"] m__law_words := by
  refine okF T.d__law_words.fn sc__law_words (by decide) fun cdv A outer s H E hr => ?_
  have hu : (A.deeper (envOfC "_law_words" (defScope st__law_words) s.heap.objs.size T.d__law_words.a cdv)).units + 64 < cLine := by have := hr.un; omega
  have hu5 : (A.deeper (envOfC "_law_words" (defScope st__law_words) s.heap.objs.size T.d__law_words.a cdv)).units + 65 < cLine := by have := hr.un; omega
  have tk := takes_of (X := cxOf (L2.CX P w) P w K mg base N__law_words "_law_words" (defScope st__law_words) T.d__law_words.a cdv A outer s H E) rfl rfl rfl rfl
  exact ss_cons (ss_set (i := 3) (se_lst (sa_nil)) sc__law_words.nd) (
    ss_cons (ss_for (passes_of rfl) rfl (si_range1 T.z_range (sv 1)) (sg_name (i := 4) sc__law_words.nd) (ss_cons (ss_set (i := 5) (se_call tk ((ok__law_word T).mono (by decide)) hr T.d__law_word.hm T.d__law_word.hk T.d__law_word.bi (sa_cons (sv 0) (sa_nil))) sc__law_words.nd) (
    ss_cons (ss_if ((sw_and (tcmp r_gt (fun _ _ _ _ h => h) (se_blt r_len T.z_len (sa_cons (sv 2) (sa_nil))) (sint) (nomark _)) (sw_and1 (tcmp (r_eq hu) (fun _ _ _ _ h => h) (se_call tk ((ok__law_pick T).mono (by decide)) hr T.d__law_pick.hm T.d__law_pick.hk T.d__law_pick.bi (sa_cons (sv 0) (sa_cons (sint) (sa_nil)))) (sint) (nomark _)))).pt) (ss_one (ss_set (i := 5) (se_ix (sv 2) (se_call tk ((ok__law_pick T).mono (by decide)) hr T.d__law_pick.hm T.d__law_pick.hk T.d__law_pick.bi (sa_cons (sv 0) (sa_cons (se_blt r_len T.z_len (sa_cons (sv 2) (sa_nil))) (sa_nil))))) sc__law_words.nd)) (ss_nil)) (
    ss_cons (ss_if (tcmp (r_in hu5) (fun _ _ _ _ h => h) (sv 5) (sv 3) (by rfl)) (ss_one (ss_for (passes_of rfl) rfl (si_range1 T.z_range (sbin r_add (fun _ _ _ _ h => h) (sv 1) (sint))) (sg_name (i := 6) sc__law_words.nd) (ss_cons (ss_set (i := 5) (sbin r_add (fun _ _ _ _ h => h) (sstr) (se_typ r_strc T.z_str (sa_cons (sv 6) (sa_nil)))) sc__law_words.nd) (
    ss_one (ss_if (tcmp (r_notIn hu5) (fun _ _ _ _ h => h) (sv 5) (sv 3) (by rfl)) (ss_one (ss_brk)) (ss_nil)))))) (ss_nil)) (
    ss_one (ss_drop (se_app (sv 3) (sv 5)))))))) (
    ss_one (ss_ret (sv 3))))
theorem sc__law_shuffled : FnScope N__law_shuffled ["pool", "row"] (defScope st__law_shuffled) := ⟨rfl, rfl, rfl, by decide +kernel, rfl, by decide +kernel, by decide +kernel⟩
theorem ok__law_shuffled (T : Pk K mg) : DOk P w K mg base 2 T.d__law_shuffled.a T.d__law_shuffled.fd ["pool", "row"] m__law_shuffled := by
  refine okF T.d__law_shuffled.fn sc__law_shuffled (by decide) fun cdv A outer s H E hr => ?_
  have hu : (A.deeper (envOfC "_law_shuffled" (defScope st__law_shuffled) s.heap.objs.size T.d__law_shuffled.a cdv)).units + 64 < cLine := by have := hr.un; omega
  have hu5 : (A.deeper (envOfC "_law_shuffled" (defScope st__law_shuffled) s.heap.objs.size T.d__law_shuffled.a cdv)).units + 65 < cLine := by have := hr.un; omega
  have tk := takes_of (X := cxOf (L2.CX P w) P w K mg base N__law_shuffled "_law_shuffled" (defScope st__law_shuffled) T.d__law_shuffled.a cdv A outer s H E) rfl rfl rfl rfl
  exact ss_cons (ss_set (i := 2) (se_typ r_list T.z_list (sa_cons (sv 1) (sa_nil))) sc__law_shuffled.nd) (
    ss_cons (ss_set (i := 3) (se_lst (sa_nil)) sc__law_shuffled.nd) (
    ss_cons (ss_for (passes_of rfl) rfl (si_range1 T.z_range (se_blt r_len T.z_len (sa_cons (sv 1) (sa_nil)))) (sg_name (i := 4) sc__law_shuffled.nd) (ss_one (ss_drop (se_app (sv 3) (se_popAt (sv 2) (se_call tk ((ok__law_pick T).mono (by decide)) hr T.d__law_pick.hm T.d__law_pick.hk T.d__law_pick.bi (sa_cons (sv 0) (sa_cons (se_blt r_len T.z_len (sa_cons (sv 2) (sa_nil))) (sa_nil))))))))) (
    ss_one (ss_ret (sv 3)))))
theorem sc__law_some : FnScope N__law_some ["pool", "row"] (defScope st__law_some) := ⟨rfl, rfl, rfl, by decide +kernel, rfl, by decide +kernel, by decide +kernel⟩
theorem ok__law_some (T : Pk K mg) : DOk P w K mg base 3 T.d__law_some.a T.d__law_some.fd ["pool", "row"] m__law_some := by
  refine okF T.d__law_some.fn sc__law_some (by decide) fun cdv A outer s H E hr => ?_
  have hu : (A.deeper (envOfC "_law_some" (defScope st__law_some) s.heap.objs.size T.d__law_some.a cdv)).units + 64 < cLine := by have := hr.un; omega
  have hu5 : (A.deeper (envOfC "_law_some" (defScope st__law_some) s.heap.objs.size T.d__law_some.a cdv)).units + 65 < cLine := by have := hr.un; omega
  have tk := takes_of (X := cxOf (L2.CX P w) P w K mg base N__law_some "_law_some" (defScope st__law_some) T.d__law_some.a cdv A outer s H E) rfl rfl rfl rfl
  exact ss_cons (ss_set (i := 2) (se_lst (sa_nil)) sc__law_some.nd) (
    ss_cons (ss_for (passes_of rfl) rfl (si_any (sv 1)) (sg_name (i := 3) sc__law_some.nd) (ss_one (ss_if (tcmp (r_eq hu) (fun _ _ _ _ h => h) (se_call tk ((ok__law_pick T).mono (by decide)) hr T.d__law_pick.hm T.d__law_pick.hk T.d__law_pick.bi (sa_cons (sv 0) (sa_cons (sint) (sa_nil)))) (sint) (nomark _)) (ss_cons (ss_drop (se_app (sv 2) (sv 3))) (
    ss_one (ss_if (tcmp (r_eq hu) (fun _ _ _ _ h => h) (se_call tk ((ok__law_pick T).mono (by decide)) hr T.d__law_pick.hm T.d__law_pick.hk T.d__law_pick.bi (sa_cons (sv 0) (sa_cons (sint) (sa_nil)))) (sint) (nomark _)) (ss_one (ss_drop (se_app (sv 2) (sv 3)))) (ss_nil)))) (ss_nil)))) (
    ss_one (ss_ret (se_call tk ((ok__law_shuffled T).mono (by decide)) hr T.d__law_shuffled.hm T.d__law_shuffled.hk T.d__law_shuffled.bi (sa_cons (sv 0) (sa_cons (sv 2) (sa_nil)))))))
theorem sc__law_lot : FnScope N__law_lot ["row"] (defScope st__law_lot) := ⟨rfl, rfl, rfl, by decide +kernel, rfl, by decide +kernel, by decide +kernel⟩
theorem ok__law_lot (T : Pk K mg) : DOk P w K mg base 1 T.d__law_lot.a T.d__law_lot.fd ["row"] m__law_lot := by
  refine okF T.d__law_lot.fn sc__law_lot (by decide) fun cdv A outer s H E hr => ?_
  have hu : (A.deeper (envOfC "_law_lot" (defScope st__law_lot) s.heap.objs.size T.d__law_lot.a cdv)).units + 64 < cLine := by have := hr.un; omega
  have hu5 : (A.deeper (envOfC "_law_lot" (defScope st__law_lot) s.heap.objs.size T.d__law_lot.a cdv)).units + 65 < cLine := by have := hr.un; omega
  have tk := takes_of (X := cxOf (L2.CX P w) P w K mg base N__law_lot "_law_lot" (defScope st__law_lot) T.d__law_lot.a cdv A outer s H E) rfl rfl rfl rfl
  exact ss_cons (ss_set (i := 1) (se_lst (sa_nil)) sc__law_lot.nd) (
    ss_cons (ss_for (passes_of rfl) rfl (si_any (se_blt (r_sorted hu) T.z_sorted (sa_cons (sv 0) (sa_nil)))) (sg_name (i := 2) sc__law_lot.nd) (ss_one (ss_if ((sw_or (tcmp (r_eq hu) (fun _ _ _ _ h => h) (se_blt r_len T.z_len (sa_cons (sv 1) (sa_nil))) (sint) (nomark _)) (sw_or1 (tcmp (r_ne hu) (fun _ _ _ _ h => h) (se_ix (sv 1) (sbin r_sub (fun _ _ _ _ h => h) (se_blt r_len T.z_len (sa_cons (sv 1) (sa_nil))) (sint))) (sv 2) (nomark _)))).pt) (ss_one (ss_drop (se_app (sv 1) (sv 2)))) (ss_nil)))) (
    ss_one (ss_ret (se_typ r_tuple T.z_tuple (sa_cons (sv 1) (sa_nil))))))
theorem sc__law_same : FnScope N__law_same ["told", "due"] (defScope st__law_same) := ⟨rfl, rfl, rfl, by decide +kernel, rfl, by decide +kernel, by decide +kernel⟩
theorem okb__law_same (T : Pk K mg) (k : Nat) (self : Fn) (G : DOk P w K mg base k T.d__law_same.a T.d__law_same.fd ["told", "due"] self) (hk : 0 ≤ k) : DOk P w K mg base (k + 1) T.d__law_same.a T.d__law_same.fd ["told", "due"] (b__law_same self) := by
  refine okF T.d__law_same.fn sc__law_same (by decide) fun cdv A outer s H E hr => ?_
  have hu : (A.deeper (envOfC "_law_same" (defScope st__law_same) s.heap.objs.size T.d__law_same.a cdv)).units + 64 < cLine := by have := hr.un; omega
  have hu5 : (A.deeper (envOfC "_law_same" (defScope st__law_same) s.heap.objs.size T.d__law_same.a cdv)).units + 65 < cLine := by have := hr.un; omega
  have tk := takes_of (X := cxOf (L2.CX P w) P w K mg base N__law_same "_law_same" (defScope st__law_same) T.d__law_same.a cdv A outer s H E) rfl rfl rfl rfl
  exact ss_cons (ss_if (stru (se_blt r_isi T.z_isinstance (sa_cons (sv 1) (sa_cons (s_ty T.z_tuple) (sa_nil))))) (ss_cons (ss_if ((sw_or (st_not (stru (se_blt r_isi T.z_isinstance (sa_cons (sv 0) (sa_cons (s_ty T.z_tuple) (sa_nil)))))) (sw_or1 (tcmp (r_ne hu) (fun _ _ _ _ h => h) (se_blt r_len T.z_len (sa_cons (sv 0) (sa_nil))) (se_blt r_len T.z_len (sa_cons (sv 1) (sa_nil))) (nomark _)))).pt) (ss_one (ss_ret (sbl))) (ss_nil)) (
    ss_cons (ss_for (passes_of rfl) rfl (si_range1 T.z_range (se_blt r_len T.z_len (sa_cons (sv 1) (sa_nil)))) (sg_name (i := 2) sc__law_same.nd) (ss_one (ss_if (st_not (stru (se_call tk G hr T.d__law_same.hm T.d__law_same.hk T.d__law_same.bi (sa_cons (se_ix (sv 0) (sv 2)) (sa_cons (se_ix (sv 1) (sv 2)) (sa_nil)))))) (ss_one (ss_ret (sbl))) (ss_nil)))) (
    ss_one (ss_ret (sbl))))) (ss_nil)) (
    ss_cons (ss_if (stru (se_blt r_isi T.z_isinstance (sa_cons (sv 1) (sa_cons (s_ty T.z_str) (sa_nil))))) (ss_one (ss_ret (se_and (se_blt r_isi T.z_isinstance (sa_cons (sv 0) (sa_cons (s_ty T.z_str) (sa_nil)))) (se_one (scmp (r_eq hu) (fun _ _ _ _ h => h) (sv 0) (sv 1) (nomark _)))))) (ss_nil)) (
    ss_cons (ss_if (stru (se_blt r_isi T.z_isinstance (sa_cons (sv 1) (sa_cons (s_ty T.z_int) (sa_nil))))) (ss_one (ss_ret (se_and (se_blt r_isi T.z_isinstance (sa_cons (sv 0) (sa_cons (s_ty T.z_int) (sa_nil)))) (se_and (se_not (se_blt r_isi T.z_isinstance (sa_cons (sv 0) (sa_cons (s_ty T.z_bool) (sa_nil))))) (se_one (scmp (r_eq hu) (fun _ _ _ _ h => h) (sv 0) (sv 1) (nomark _))))))) (ss_nil)) (
    ss_one (ss_ret (sbl)))))
theorem ok__law_same (T : Pk K mg) : DOk P w K mg base 12 T.d__law_same.a T.d__law_same.fd ["told", "due"] m__law_same := okRec2 (fun k F G hk => okb__law_same T k F G hk) 12
theorem sc__law_ends : FnScope N__law_ends ["pool", "nodes"] (defScope st__law_ends) := ⟨rfl, rfl, rfl, by decide +kernel, rfl, by decide +kernel, by decide +kernel⟩
theorem ok__law_ends (T : Pk K mg) : DOk P w K mg base 2 T.d__law_ends.a T.d__law_ends.fd ["pool", "nodes"] m__law_ends := by
  refine okF T.d__law_ends.fn sc__law_ends (by decide) fun cdv A outer s H E hr => ?_
  have hu : (A.deeper (envOfC "_law_ends" (defScope st__law_ends) s.heap.objs.size T.d__law_ends.a cdv)).units + 64 < cLine := by have := hr.un; omega
  have hu5 : (A.deeper (envOfC "_law_ends" (defScope st__law_ends) s.heap.objs.size T.d__law_ends.a cdv)).units + 65 < cLine := by have := hr.un; omega
  have tk := takes_of (X := cxOf (L2.CX P w) P w K mg base N__law_ends "_law_ends" (defScope st__law_ends) T.d__law_ends.a cdv A outer s H E) rfl rfl rfl rfl
  exact ss_cons (ss_set (i := 2) (se_call tk ((ok__law_pick T).mono (by decide)) hr T.d__law_pick.hm T.d__law_pick.hk T.d__law_pick.bi (sa_cons (sv 0) (sa_cons (se_blt r_len T.z_len (sa_cons (sv 1) (sa_nil))) (sa_nil)))) sc__law_ends.nd) (
    ss_cons (ss_set (i := 3) (se_call tk ((ok__law_pick T).mono (by decide)) hr T.d__law_pick.hm T.d__law_pick.hk T.d__law_pick.bi (sa_cons (sv 0) (sa_cons (sbin r_sub (fun _ _ _ _ h => h) (se_blt r_len T.z_len (sa_cons (sv 1) (sa_nil))) (sint)) (sa_nil)))) sc__law_ends.nd) (
    ss_cons (ss_if (tcmp r_ge (fun _ _ _ _ h => h) (sv 3) (sv 2) (nomark _)) (ss_one (ss_set (i := 3) (sbin r_add (fun _ _ _ _ h => h) (sv 3) (sint)) sc__law_ends.nd)) (ss_nil)) (
    ss_one (ss_ret (se_tup (sa_cons (se_ix (sv 1) (sv 2)) (sa_cons (se_ix (sv 1) (sv 3)) (sa_nil))))))))
theorem sc__law_links : FnScope N__law_links ["pool", "nodes", "names"] (defScope st__law_links) := ⟨rfl, rfl, rfl, by decide +kernel, rfl, by decide +kernel, by decide +kernel⟩
theorem ok__law_links (T : Pk K mg) : DOk P w K mg base 3 T.d__law_links.a T.d__law_links.fd ["pool", "nodes", "names"] m__law_links := by
  refine okF T.d__law_links.fn sc__law_links (by decide) fun cdv A outer s H E hr => ?_
  have hu : (A.deeper (envOfC "_law_links" (defScope st__law_links) s.heap.objs.size T.d__law_links.a cdv)).units + 64 < cLine := by have := hr.un; omega
  have hu5 : (A.deeper (envOfC "_law_links" (defScope st__law_links) s.heap.objs.size T.d__law_links.a cdv)).units + 65 < cLine := by have := hr.un; omega
  have tk := takes_of (X := cxOf (L2.CX P w) P w K mg base N__law_links "_law_links" (defScope st__law_links) T.d__law_links.a cdv A outer s H E) rfl rfl rfl rfl
  exact ss_cons (ss_set (i := 3) (se_lst (sa_nil)) sc__law_links.nd) (
    ss_cons (ss_set (i := 4) (se_call tk ((ok__law_ends T).mono (by decide)) hr T.d__law_ends.hm T.d__law_ends.hk T.d__law_ends.bi (sa_cons (sv 0) (sa_cons (sv 1) (sa_nil)))) sc__law_links.nd) (
    ss_cons (ss_for (passes_of rfl) rfl (si_any (sv 2)) (sg_name (i := 5) sc__law_links.nd) (ss_cons (ss_if (tcmp r_gt (fun _ _ _ _ h => h) (se_call tk ((ok__law_pick T).mono (by decide)) hr T.d__law_pick.hm T.d__law_pick.hk T.d__law_pick.bi (sa_cons (sv 0) (sa_cons (sint) (sa_nil)))) (sint) (nomark _)) (ss_one (ss_set (i := 4) (se_call tk ((ok__law_ends T).mono (by decide)) hr T.d__law_ends.hm T.d__law_ends.hk T.d__law_ends.bi (sa_cons (sv 0) (sa_cons (sv 1) (sa_nil)))) sc__law_links.nd)) (ss_one (ss_set (i := 4) (se_tup (sa_cons (se_ix (sv 4) (sint)) (sa_cons (se_ix (sv 4) (sint)) (sa_nil)))) sc__law_links.nd))) (
    ss_one (ss_drop (se_app (sv 3) (se_tup (sa_cons (sv 5) (sa_cons (se_ix (sv 4) (sint)) (sa_cons (se_ix (sv 4) (sint)) (sa_nil)))))))))) (
    ss_one (ss_ret (sv 3)))))
theorem sc__law_due : FnScope N__law_due ["nodes", "links", "monitors", "given"] (defScope st__law_due) := ⟨rfl, rfl, rfl, by decide +kernel, rfl, by decide +kernel, by decide +kernel⟩
theorem ok__law_due (T : Pk K mg) : DOk P w K mg base 2 T.d__law_due.a T.d__law_due.fd ["nodes", "links", "monitors", "given"] m__law_due := by
  refine okF T.d__law_due.fn sc__law_due (by decide) fun cdv A outer s H E hr => ?_
  have hu : (A.deeper (envOfC "_law_due" (defScope st__law_due) s.heap.objs.size T.d__law_due.a cdv)).units + 64 < cLine := by have := hr.un; omega
  have hu5 : (A.deeper (envOfC "_law_due" (defScope st__law_due) s.heap.objs.size T.d__law_due.a cdv)).units + 65 < cLine := by have := hr.un; omega
  have tk := takes_of (X := cxOf (L2.CX P w) P w K mg base N__law_due "_law_due" (defScope st__law_due) T.d__law_due.a cdv A outer s H E) rfl rfl rfl rfl
  exact ss_cons (ss_set (i := 4) (se_lst (sa_nil)) sc__law_due.nd) (
    ss_cons (ss_for (passes_of rfl) rfl (si_any (se_blt (r_sorted hu) T.z_sorted (sa_cons (se_lc (own := [("link", 6)]) rfl sc__law_due.nd (si_any (sv 1)) (blkOk_of (show blkB N__law_due (defScope st__law_due) _ [("link", 6)] = true by decide +kernel)) (by decide) (fun s H C cl fp => sg_name (i := 6) sc__law_due.nd) (fun s H C cl fp => sts_nil) (fun s H C cl fp => se_ix (sv 6) (sint))) (sa_nil)))) (sg_name (i := 5) sc__law_due.nd) (ss_one (ss_for (passes_of rfl) rfl (si_any (sv 1)) (sg_name (i := 6) sc__law_due.nd) (ss_one (ss_if (tcmp (r_eq hu) (fun _ _ _ _ h => h) (se_ix (sv 6) (sint)) (sv 5) (nomark _)) (ss_one (ss_drop (se_app (sv 4) (se_tup (sa_cons (sv 5) (sa_cons (se_blt (r_min2 rfl) T.z_min (sa_cons (se_ix (sv 6) (sint)) (sa_cons (se_ix (sv 6) (sint)) (sa_nil)))) (sa_cons (se_blt (r_max2 rfl) T.z_max (sa_cons (se_ix (sv 6) (sint)) (sa_cons (se_ix (sv 6) (sint)) (sa_nil)))) (sa_nil)))))))) (ss_nil)))))) (
    ss_one (ss_ret (se_tup (sa_cons (se_call tk ((ok__law_lot T).mono (by decide)) hr T.d__law_lot.hm T.d__law_lot.hk T.d__law_lot.bi (sa_cons (sv 0) (sa_nil))) (sa_cons (se_typ r_tuple T.z_tuple (sa_cons (sv 4) (sa_nil))) (sa_cons (se_call tk ((ok__law_lot T).mono (by decide)) hr T.d__law_lot.hm T.d__law_lot.hk T.d__law_lot.bi (sa_cons (sv 2) (sa_nil))) (sa_cons (se_call tk ((ok__law_lot T).mono (by decide)) hr T.d__law_lot.hm T.d__law_lot.hk T.d__law_lot.bi (sa_cons (sv 3) (sa_nil))) (sa_nil)))))))))
theorem sc__law_read : FnScope N__law_read ["net"] (defScope st__law_read) := ⟨rfl, rfl, rfl, by decide +kernel, rfl, by decide +kernel, by decide +kernel⟩
theorem ok__law_read (T : Pk K mg) : DOk P w K mg base 13 T.d__law_read.a T.d__law_read.fd ["net"] m__law_read := by
  refine okF T.d__law_read.fn sc__law_read (by decide) fun cdv A outer s H E hr => ?_
  have hu : (A.deeper (envOfC "_law_read" (defScope st__law_read) s.heap.objs.size T.d__law_read.a cdv)).units + 64 < cLine := by have := hr.un; omega
  have hu5 : (A.deeper (envOfC "_law_read" (defScope st__law_read) s.heap.objs.size T.d__law_read.a cdv)).units + 65 < cLine := by have := hr.un; omega
  have tk := takes_of (X := cxOf (L2.CX P w) P w K mg base N__law_read "_law_read" (defScope st__law_read) T.d__law_read.a cdv A outer s H E) rfl rfl rfl rfl
  exact ss_cons (ss_set (i := 1) (se_blt r_len T.z_len (sa_cons (se_ix (sv 0) (sint)) (sa_nil))) sc__law_read.nd) (
    ss_cons (ss_if (st_not (stru (se_call tk ((ok__law_same T).mono (by decide)) hr T.d__law_same.hm T.d__law_same.hk T.d__law_same.bi (sa_cons (se_call tk ((ok_zero_weights T).mono (by decide)) hr T.d_zero_weights.hm T.d_zero_weights.hk T.d_zero_weights.bi (sa_cons (sv 0) (sa_nil))) (sa_cons (sbin r_mulX (fun _ _ _ _ h => h) (se_tup (sa_cons (sint) (sa_nil))) (sv 1)) (sa_nil)))))) (ss_one (ss_ret (sbl))) (ss_nil)) (
    ss_cons (ss_for (passes_of rfl) rfl (si_range1 T.z_range (sv 1)) (sg_name (i := 2) sc__law_read.nd) (ss_cons (ss_set (i := 3) (se_ix (se_ix (se_ix (sv 0) (sint)) (sv 2)) (sint)) sc__law_read.nd) (
    ss_cons (ss_if (st_not (stru (se_call tk ((ok__law_same T).mono (by decide)) hr T.d__law_same.hm T.d__law_same.hk T.d__law_same.bi (sa_cons (se_call tk ((ok_ends_of T).mono (by decide)) hr T.d_ends_of.hm T.d_ends_of.hk T.d_ends_of.bi (sa_cons (sv 0) (sa_cons (sv 3) (sa_nil)))) (sa_cons (se_tup (sa_cons (se_ix (se_ix (se_ix (sv 0) (sint)) (sv 2)) (sint)) (sa_cons (se_ix (se_ix (se_ix (sv 0) (sint)) (sv 2)) (sint)) (sa_nil)))) (sa_nil)))))) (ss_one (ss_ret (sbl))) (ss_nil)) (
    ss_cons (ss_if (st_not (stru (se_call tk ((ok__law_same T).mono (by decide)) hr T.d__law_same.hm T.d__law_same.hk T.d__law_same.bi (sa_cons (se_call tk ((ok_place_of T).mono (by decide)) hr T.d_place_of.hm T.d_place_of.hk T.d_place_of.bi (sa_cons (sv 0) (sa_cons (sv 3) (sa_nil)))) (sa_cons (sv 2) (sa_nil)))))) (ss_one (ss_ret (sbl))) (ss_nil)) (
    ss_one (ss_if (st_not (stru (se_call tk ((ok__law_same T).mono (by decide)) hr T.d__law_same.hm T.d__law_same.hk T.d__law_same.bi (sa_cons (se_call tk ((ok_weights_alone T).mono (by decide)) hr T.d_weights_alone.hm T.d_weights_alone.hk T.d_weights_alone.bi (sa_cons (sv 0) (sa_cons (sv 3) (sa_nil)))) (sa_cons (sbin r_add (fun _ _ _ _ h => h) (sbin r_add (fun _ _ _ _ h => h) (sbin r_mulX (fun _ _ _ _ h => h) (se_tup (sa_cons (sint) (sa_nil))) (sv 2)) (se_tup (sa_cons (sint) (sa_nil)))) (sbin r_mulX (fun _ _ _ _ h => h) (se_tup (sa_cons (sint) (sa_nil))) (sbin r_sub (fun _ _ _ _ h => h) (sbin r_sub (fun _ _ _ _ h => h) (sv 1) (sv 2)) (sint)))) (sa_nil)))))) (ss_one (ss_ret (sbl))) (ss_nil))))))) (
    ss_cons (ss_for (passes_of rfl) rfl (si_any (se_ix (sv 0) (sint))) (sg_name (i := 4) sc__law_read.nd) (ss_cons (ss_setLc (i := 5) (own := [("link", 6)]) rfl sc__law_read.nd (si_any (se_ix (sv 0) (sint))) (blkOk_of (show blkB N__law_read (defScope st__law_read) _ [("link", 6)] = true by decide +kernel)) (by decide) (fun s H C cl fp => sg_name (i := 6) sc__law_read.nd) (fun s H C cl fp => sts_one (tcmp (r_in hu5) (fun _ _ _ _ h => h) (sv 4) (se_tup (sa_cons (se_ix (sv 6) (sint)) (sa_cons (se_ix (sv 6) (sint)) (sa_nil)))) (by rfl))) (fun s H C cl fp => se_ix (sv 6) (sint)) (hsw := by rfl)) (
    ss_one (ss_if (st_not (stru (se_call tk ((ok__law_same T).mono (by decide)) hr T.d__law_same.hm T.d__law_same.hk T.d__law_same.bi (sa_cons (se_call tk ((ok_links_at T).mono (by decide)) hr T.d_links_at.hm T.d_links_at.hk T.d_links_at.bi (sa_cons (sv 0) (sa_cons (sv 4) (sa_nil)))) (sa_cons (se_typ r_tuple T.z_tuple (sa_cons (sv 5) (sa_nil))) (sa_nil)))))) (ss_one (ss_ret (sbl))) (ss_nil))))) (
    ss_one (ss_ret (sbl))))))
theorem sc__law_made : FnScope N__law_made ["pool", "many", "count"] (defScope st__law_made) := ⟨rfl, rfl, rfl, by decide +kernel, rfl, by decide +kernel, by decide +kernel⟩
theorem ok__law_made (T : Pk K mg) : DOk P w K mg base 14 T.d__law_made.a T.d__law_made.fd ["pool", "many", "count"] m__law_made := by
  refine okF T.d__law_made.fn sc__law_made (by decide) fun cdv A outer s H E hr => ?_
  have hu : (A.deeper (envOfC "_law_made" (defScope st__law_made) s.heap.objs.size T.d__law_made.a cdv)).units + 64 < cLine := by have := hr.un; omega
  have hu5 : (A.deeper (envOfC "_law_made" (defScope st__law_made) s.heap.objs.size T.d__law_made.a cdv)).units + 65 < cLine := by have := hr.un; omega
  have tk := takes_of (X := cxOf (L2.CX P w) P w K mg base N__law_made "_law_made" (defScope st__law_made) T.d__law_made.a cdv A outer s H E) rfl rfl rfl rfl
  exact ss_cons (ss_set (i := 3) (se_call tk ((ok__law_words T).mono (by decide)) hr T.d__law_words.hm T.d__law_words.hk T.d__law_words.bi (sa_cons (sv 0) (sa_cons (sv 1) (sa_cons (se_lst (sa_nil)) (sa_nil))))) sc__law_made.nd) (
    ss_cons (ss_set (i := 4) (se_lst (sa_nil)) sc__law_made.nd) (
    ss_cons (ss_if (tcmp r_gt (fun _ _ _ _ h => h) (sv 1) (sint) (nomark _)) (ss_one (ss_set (i := 4) (se_call tk ((ok__law_links T).mono (by decide)) hr T.d__law_links.hm T.d__law_links.hk T.d__law_links.bi (sa_cons (sv 0) (sa_cons (sv 3) (sa_cons (se_call tk ((ok__law_words T).mono (by decide)) hr T.d__law_words.hm T.d__law_words.hk T.d__law_words.bi (sa_cons (sv 0) (sa_cons (sv 2) (sa_cons (sv 3) (sa_nil))))) (sa_nil))))) sc__law_made.nd)) (ss_nil)) (
    ss_cons (ss_set (i := 5) (se_call tk ((ok__law_some T).mono (by decide)) hr T.d__law_some.hm T.d__law_some.hk T.d__law_some.bi (sa_cons (sv 0) (sa_cons (sv 3) (sa_nil)))) sc__law_made.nd) (
    ss_cons (ss_set (i := 6) (se_call tk ((ok__law_some T).mono (by decide)) hr T.d__law_some.hm T.d__law_some.hk T.d__law_some.bi (sa_cons (sv 0) (sa_cons (se_lc (own := [("link", 14)]) rfl sc__law_made.nd (si_any (sv 4)) (blkOk_of (show blkB N__law_made (defScope st__law_made) _ [("link", 14)] = true by decide +kernel)) (by decide) (fun s H C cl fp => sg_name (i := 14) sc__law_made.nd) (fun s H C cl fp => sts_nil) (fun s H C cl fp => se_ix (sv 14) (sint))) (sa_nil)))) sc__law_made.nd) (
    ss_cons (ss_set (i := 7) (se_typ r_tuple T.z_tuple (sa_cons (se_call tk ((ok__law_shuffled T).mono (by decide)) hr T.d__law_shuffled.hm T.d__law_shuffled.hk T.d__law_shuffled.bi (sa_cons (sv 0) (sa_cons (sbin r_add (fun _ _ _ _ h => h) (sv 3) (se_call tk ((ok__law_some T).mono (by decide)) hr T.d__law_some.hm T.d__law_some.hk T.d__law_some.bi (sa_cons (sv 0) (sa_cons (sv 3) (sa_nil))))) (sa_nil)))) (sa_nil))) sc__law_made.nd) (
    ss_cons (ss_set (i := 8) (se_call tk ((ok__law_due T).mono (by decide)) hr T.d__law_due.hm T.d__law_due.hk T.d__law_due.bi (sa_cons (sv 3) (sa_cons (sv 4) (sa_cons (sv 5) (sa_cons (sv 6) (sa_nil)))))) sc__law_made.nd) (
    ss_cons (ss_set (i := 9) (se_call tk ((ok_make_net T).mono (by decide)) hr T.d_make_net.hm T.d_make_net.hk T.d_make_net.bi (sa_cons (sv 7) (sa_cons (se_typ r_tuple T.z_tuple (sa_cons (sv 4) (sa_nil))) (sa_cons (se_typ r_tuple T.z_tuple (sa_cons (sv 5) (sa_nil))) (sa_cons (se_typ r_tuple T.z_tuple (sa_cons (sv 6) (sa_nil))) (sa_nil)))))) sc__law_made.nd) (
    ss_cons (ss_if ((sw_or (st_not (stru (se_call tk ((ok__law_same T).mono (by decide)) hr T.d__law_same.hm T.d__law_same.hk T.d__law_same.bi (sa_cons (sv 9) (sa_cons (sv 8) (sa_nil)))))) (sw_or1 (st_not (stru (se_call tk ((ok__law_read T).mono (by decide)) hr T.d__law_read.hm T.d__law_read.hk T.d__law_read.bi (sa_cons (sv 8) (sa_nil))))))).pt) (ss_one (ss_ret (sbl))) (ss_nil)) (
    ss_cons (ss_set (i := 10) (se_typ r_tuple T.z_tuple (sa_cons (se_call tk ((ok__law_shuffled T).mono (by decide)) hr T.d__law_shuffled.hm T.d__law_shuffled.hk T.d__law_shuffled.bi (sa_cons (sv 0) (sa_cons (sv 4) (sa_nil)))) (sa_nil))) sc__law_made.nd) (
    ss_cons (ss_set (i := 11) (se_typ r_tuple T.z_tuple (sa_cons (se_lc (own := [("link", 14)]) rfl sc__law_made.nd (si_any (sv 10)) (blkOk_of (show blkB N__law_made (defScope st__law_made) _ [("link", 14)] = true by decide +kernel)) (by decide) (fun s H C cl fp => sg_name (i := 14) sc__law_made.nd) (fun s H C cl fp => sts_nil) (fun s H C cl fp => se_tup (sa_cons (se_ix (sv 14) (sint)) (sa_cons (se_ix (sv 14) (sint)) (sa_cons (se_ix (sv 14) (sint)) (sa_nil)))))) (sa_nil))) sc__law_made.nd) (
    ss_cons (ss_set (i := 12) (se_callK0 (ks := ["monitors", "nodes", "given", "links"]) (pm := [1, 3, 0, 2]) tk ((ok_make_net T).mono (by decide)) hr T.d_make_net.hm T.d_make_net.hk (kb_make_net_1_3_0_2 T) rfl (sk_cons (se_typ r_tuple T.z_tuple (sa_cons (sbin r_add (fun _ _ _ _ h => h) (sv 5) (sv 5)) (sa_nil))) (sk_cons (se_typ r_tuple T.z_tuple (sa_cons (sv 3) (sa_nil))) (sk_cons (se_typ r_tuple T.z_tuple (sa_cons (sv 6) (sa_nil))) (sk_cons (sv 11) (sk_nil)))))) sc__law_made.nd) (
    ss_cons (ss_if (st_not (stru (se_call tk ((ok__law_same T).mono (by decide)) hr T.d__law_same.hm T.d__law_same.hk T.d__law_same.bi (sa_cons (sv 12) (sa_cons (sv 8) (sa_nil)))))) (ss_one (ss_ret (sbl))) (ss_nil)) (
    ss_cons (ss_set (i := 13) (se_call tk ((ok_make_net T).mono (by decide)) hr T.d_make_net.hm T.d_make_net.hk T.d_make_net.bi (sa_cons (se_ix (sv 8) (sint)) (sa_cons (se_ix (sv 8) (sint)) (sa_cons (se_ix (sv 8) (sint)) (sa_cons (se_ix (sv 8) (sint)) (sa_nil)))))) sc__law_made.nd) (
    ss_one (ss_ret (se_and (se_call tk ((ok__law_same T).mono (by decide)) hr T.d__law_same.hm T.d__law_same.hk T.d__law_same.bi (sa_cons (sv 13) (sa_cons (sv 8) (sa_nil)))) (se_one (se_call tk ((ok__law_same T).mono (by decide)) hr T.d__law_same.hm T.d__law_same.hk T.d__law_same.bi (sa_cons (se_call tk ((ok_make_net T).mono (by decide)) hr T.d_make_net.hm T.d_make_net.hk T.d_make_net.bi (sa_cons (sv 7) (sa_cons (se_typ r_tuple T.z_tuple (sa_cons (sv 4) (sa_nil))) (sa_cons (se_tup (sa_nil)) (sa_cons (se_tup (sa_nil)) (sa_nil)))))) (sa_cons (se_tup (sa_cons (se_ix (sv 8) (sint)) (sa_cons (se_ix (sv 8) (sint)) (sa_cons (se_tup (sa_nil)) (sa_cons (se_tup (sa_nil)) (sa_nil)))))) (sa_nil)))))))))))))))))))))
theorem sc__law_named : FnScope N__law_named [] (defScope st__law_named) := ⟨rfl, rfl, rfl, by decide +kernel, rfl, by decide +kernel, by decide +kernel⟩
theorem ok__law_named (T : Pk K mg) : DOk P w K mg base 13 T.d__law_named.a T.d__law_named.fd [] m__law_named := by
  refine okF T.d__law_named.fn sc__law_named (by decide) fun cdv A outer s H E hr => ?_
  have hu : (A.deeper (envOfC "_law_named" (defScope st__law_named) s.heap.objs.size T.d__law_named.a cdv)).units + 64 < cLine := by have := hr.un; omega
  have hu5 : (A.deeper (envOfC "_law_named" (defScope st__law_named) s.heap.objs.size T.d__law_named.a cdv)).units + 65 < cLine := by have := hr.un; omega
  have tk := takes_of (X := cxOf (L2.CX P w) P w K mg base N__law_named "_law_named" (defScope st__law_named) T.d__law_named.a cdv A outer s H E) rfl rfl rfl rfl
  exact ss_cons (ss_set (i := 0) (se_tup (sa_cons (se_tup (sa_nil)) (sa_cons (se_tup (sa_nil)) (sa_cons (se_tup (sa_nil)) (sa_cons (se_tup (sa_nil)) (sa_nil)))))) sc__law_named.nd) (
    ss_cons (ss_if ((sw_or (st_not (stru (se_call tk ((ok__law_same T).mono (by decide)) hr T.d__law_same.hm T.d__law_same.hk T.d__law_same.bi (sa_cons (se_call tk ((ok_make_net T).mono (by decide)) hr T.d_make_net.hm T.d_make_net.hk T.d_make_net.bi (sa_cons (se_tup (sa_nil)) (sa_cons (se_tup (sa_nil)) (sa_cons (se_tup (sa_nil)) (sa_cons (se_tup (sa_nil)) (sa_nil)))))) (sa_cons (sv 0) (sa_nil)))))) (sw_or1 (st_not (stru (se_call tk ((ok__law_same T).mono (by decide)) hr T.d__law_same.hm T.d__law_same.hk T.d__law_same.bi (sa_cons (se_call tk ((ok_zero_weights T).mono (by decide)) hr T.d_zero_weights.hm T.d_zero_weights.hk T.d_zero_weights.bi (sa_cons (sv 0) (sa_nil))) (sa_cons (se_tup (sa_nil)) (sa_nil)))))))).pt) (ss_one (ss_ret (sbl))) (ss_nil)) (
    ss_cons (ss_set (i := 1) (se_call tk ((ok_make_net T).mono (by decide)) hr T.d_make_net.hm T.d_make_net.hk T.d_make_net.bi (sa_cons (se_tup (sa_cons (sstr) (sa_cons (sstr) (sa_cons (sstr) (sa_cons (sstr) (sa_nil)))))) (sa_cons (se_tup (sa_cons (se_tup (sa_cons (sstr) (sa_cons (sstr) (sa_cons (sstr) (sa_nil))))) (sa_cons (se_tup (sa_cons (sstr) (sa_cons (sstr) (sa_cons (sstr) (sa_nil))))) (sa_nil)))) (sa_cons (se_tup (sa_cons (sstr) (sa_cons (sstr) (sa_cons (sstr) (sa_nil))))) (sa_cons (se_tup (sa_cons (sstr) (sa_cons (sstr) (sa_nil)))) (sa_nil)))))) sc__law_named.nd) (
    ss_cons (ss_set (i := 2) (se_tup (sa_cons (se_tup (sa_cons (sstr) (sa_cons (sstr) (sa_cons (sstr) (sa_nil))))) (sa_cons (se_tup (sa_cons (se_tup (sa_cons (sstr) (sa_cons (sstr) (sa_cons (sstr) (sa_nil))))) (sa_cons (se_tup (sa_cons (sstr) (sa_cons (sstr) (sa_cons (sstr) (sa_nil))))) (sa_nil)))) (sa_cons (se_tup (sa_cons (sstr) (sa_cons (sstr) (sa_nil)))) (sa_cons (se_tup (sa_cons (sstr) (sa_nil))) (sa_nil)))))) sc__law_named.nd) (
    ss_cons (ss_if ((sw_or (st_not (stru (se_call tk ((ok__law_same T).mono (by decide)) hr T.d__law_same.hm T.d__law_same.hk T.d__law_same.bi (sa_cons (sv 1) (sa_cons (sv 2) (sa_nil)))))) (sw_or1 (st_not (stru (se_call tk ((ok__law_same T).mono (by decide)) hr T.d__law_same.hm T.d__law_same.hk T.d__law_same.bi (sa_cons (se_callK0 (ks := ["node", "net"]) (pm := [1, 0]) tk ((ok_links_at T).mono (by decide)) hr T.d_links_at.hm T.d_links_at.hk (kb_links_at_1_0 T) rfl (sk_cons (sstr) (sk_cons (sv 2) (sk_nil)))) (sa_cons (se_tup (sa_nil)) (sa_nil)))))))).pt) (ss_one (ss_ret (sbl))) (ss_nil)) (
    ss_cons (ss_if ((sw_or (st_not (stru (se_call tk ((ok__law_same T).mono (by decide)) hr T.d__law_same.hm T.d__law_same.hk T.d__law_same.bi (sa_cons (se_callK0 (ks := ["name", "net"]) (pm := [1, 0]) tk ((ok_ends_of T).mono (by decide)) hr T.d_ends_of.hm T.d_ends_of.hk (kb_ends_of_1_0 T) rfl (sk_cons (sstr) (sk_cons (sv 2) (sk_nil)))) (sa_cons (se_tup (sa_cons (sstr) (sa_cons (sstr) (sa_nil)))) (sa_nil)))))) (sw_or1 (st_not (stru (se_call tk ((ok__law_same T).mono (by decide)) hr T.d__law_same.hm T.d__law_same.hk T.d__law_same.bi (sa_cons (se_callK0 (ks := ["name", "net"]) (pm := [1, 0]) tk ((ok_place_of T).mono (by decide)) hr T.d_place_of.hm T.d_place_of.hk (kb_place_of_1_0 T) rfl (sk_cons (sstr) (sk_cons (sv 2) (sk_nil)))) (sa_cons (sint) (sa_nil)))))))).pt) (ss_one (ss_ret (sbl))) (ss_nil)) (
    ss_one (ss_ret (se_and (se_call tk ((ok__law_same T).mono (by decide)) hr T.d__law_same.hm T.d__law_same.hk T.d__law_same.bi (sa_cons (se_callK0 (ks := ["name", "net"]) (pm := [1, 0]) tk ((ok_weights_alone T).mono (by decide)) hr T.d_weights_alone.hm T.d_weights_alone.hk (kb_weights_alone_1_0 T) rfl (sk_cons (sstr) (sk_cons (sv 2) (sk_nil)))) (sa_cons (se_tup (sa_cons (sint) (sa_cons (sint) (sa_nil)))) (sa_nil)))) (se_one (se_call tk ((ok__law_same T).mono (by decide)) hr T.d__law_same.hm T.d__law_same.hk T.d__law_same.bi (sa_cons (se_callK0 (ks := ["net"]) (pm := [0]) tk ((ok_zero_weights T).mono (by decide)) hr T.d_zero_weights.hm T.d_zero_weights.hk (kb_zero_weights_0 T) rfl (sk_cons (sv 2) (sk_nil))) (sa_cons (se_tup (sa_cons (sint) (sa_cons (sint) (sa_nil)))) (sa_nil)))))))))))))
theorem sc_law : FnScope N_law ["script"] (defScope st_law) := ⟨rfl, rfl, rfl, by decide +kernel, rfl, by decide +kernel, by decide +kernel⟩
theorem ok_law (T : Pk K mg) : DOk P w K mg base 15 T.d_law.a T.d_law.fd ["script"] m_law := by
  refine okF T.d_law.fn sc_law (by decide) fun cdv A outer s H E hr => ?_
  have hu : (A.deeper (envOfC "law" (defScope st_law) s.heap.objs.size T.d_law.a cdv)).units + 64 < cLine := by have := hr.un; omega
  have hu5 : (A.deeper (envOfC "law" (defScope st_law) s.heap.objs.size T.d_law.a cdv)).units + 65 < cLine := by have := hr.un; omega
  have tk := takes_of (X := cxOf (L2.CX P w) P w K mg base N_law "law" (defScope st_law) T.d_law.a cdv A outer s H E) rfl rfl rfl rfl
  exact ss_cons (ss_set (i := 1) (se_call tk ((ok__law_pool T).mono (by decide)) hr T.d__law_pool.hm T.d__law_pool.hk T.d__law_pool.bi (sa_cons (sv 0) (sa_nil))) sc_law.nd) (
    ss_cons (ss_if (st_not (stru (se_call0 tk ((ok__law_named T).mono (by decide)) hr T.d__law_named.hm T.d__law_named.hk T.d__law_named.bi))) (ss_one (ss_ret (sbl))) (ss_nil)) (
    ss_cons (ss_for (passes_of rfl) rfl (si_range1 T.z_range (sint)) (sg_name (i := 2) sc_law.nd) (ss_one (ss_if (st_not (stru (se_call tk ((ok__law_made T).mono (by decide)) hr T.d__law_made.hm T.d__law_made.hk T.d__law_made.bi (sa_cons (sv 1) (sa_cons (sbin r_add (fun _ _ _ _ h => h) (sint) (se_call tk ((ok__law_pick T).mono (by decide)) hr T.d__law_pick.hm T.d__law_pick.hk T.d__law_pick.bi (sa_cons (sv 1) (sa_cons (sint) (sa_nil))))) (sa_cons (sbin r_add (fun _ _ _ _ h => h) (sint) (se_call tk ((ok__law_pick T).mono (by decide)) hr T.d__law_pick.hm T.d__law_pick.hk T.d__law_pick.bi (sa_cons (sv 1) (sa_cons (sint) (sa_nil))))) (sa_nil))))))) (ss_one (ss_ret (sbl))) (ss_nil)))) (
    ss_cons (ss_if (st_not (stru (se_call tk ((ok__law_made T).mono (by decide)) hr T.d__law_made.hm T.d__law_made.hk T.d__law_made.bi (sa_cons (sv 1) (sa_cons (se_call tk ((ok__law_pick T).mono (by decide)) hr T.d__law_pick.hm T.d__law_pick.hk T.d__law_pick.bi (sa_cons (sv 1) (sa_cons (sint) (sa_nil)))) (sa_cons (se_call tk ((ok__law_pick T).mono (by decide)) hr T.d__law_pick.hm T.d__law_pick.hk T.d__law_pick.bi (sa_cons (sv 1) (sa_cons (sint) (sa_nil)))) (sa_nil))))))) (ss_one (ss_ret (sbl))) (ss_nil)) (
    ss_cons (ss_if ((sw_and (tcmp (r_eq hu) (fun _ _ _ _ h => h) (se_call tk ((ok__law_pick T).mono (by decide)) hr T.d__law_pick.hm T.d__law_pick.hk T.d__law_pick.bi (sa_cons (sv 1) (sa_cons (sint) (sa_nil)))) (sint) (nomark _)) (sw_and1 (st_not (stru (se_call tk ((ok__law_made T).mono (by decide)) hr T.d__law_made.hm T.d__law_made.hk T.d__law_made.bi (sa_cons (sv 1) (sa_cons (sint) (sa_cons (sint) (sa_nil))))))))).pt) (ss_one (ss_ret (sbl))) (ss_nil)) (
    ss_one (ss_ret (se_call0 tk ((ok__law_named T).mono (by decide)) hr T.d__law_named.hm T.d__law_named.hk T.d__law_named.bi)))))))
end
theorem all_mk {w : World} {K : PySem.W.Frag} {h : Heap} {mg : Str → Option Value} {fa : Addr} (KI : K.In h) (G : h.Ns mainGlobals mg) (hfa : mg "law" = some (.ref fa))
    {f0 : Addr} {od0 an0 : Option Addr} {sl0 : Array (Option Value)} {oc0 kV0 dc0 pm0 cd0 ct0 : Value}
    {f1 : Addr} {od1 an1 : Option Addr} {sl1 : Array (Option Value)} {oc1 kV1 dc1 pm1 cd1 ct1 : Value}
    {f2 : Addr} {od2 an2 : Option Addr} {sl2 : Array (Option Value)} {oc2 kV2 dc2 pm2 cd2 ct2 : Value}
    {f3 : Addr} {od3 an3 : Option Addr} {sl3 : Array (Option Value)} {oc3 kV3 dc3 pm3 cd3 ct3 : Value}
    {f4 : Addr} {od4 an4 : Option Addr} {sl4 : Array (Option Value)} {oc4 kV4 dc4 pm4 cd4 ct4 : Value}
    {f5 : Addr} {od5 an5 : Option Addr} {sl5 : Array (Option Value)} {oc5 kV5 dc5 pm5 cd5 ct5 : Value}
    {f6 : Addr} {od6 an6 : Option Addr} {sl6 : Array (Option Value)} {oc6 kV6 dc6 pm6 cd6 ct6 : Value}
    {f7 : Addr} {od7 an7 : Option Addr} {sl7 : Array (Option Value)} {oc7 kV7 dc7 pm7 cd7 ct7 : Value}
    {f8 : Addr} {od8 an8 : Option Addr} {sl8 : Array (Option Value)} {oc8 kV8 dc8 pm8 cd8 ct8 : Value}
    {f9 : Addr} {od9 an9 : Option Addr} {sl9 : Array (Option Value)} {oc9 kV9 dc9 pm9 cd9 ct9 : Value}
    {f10 : Addr} {od10 an10 : Option Addr} {sl10 : Array (Option Value)} {oc10 kV10 dc10 pm10 cd10 ct10 : Value}
    {f11 : Addr} {od11 an11 : Option Addr} {sl11 : Array (Option Value)} {oc11 kV11 dc11 pm11 cd11 ct11 : Value}
    {f12 : Addr} {od12 an12 : Option Addr} {sl12 : Array (Option Value)} {oc12 kV12 dc12 pm12 cd12 ct12 : Value}
    {f13 : Addr} {od13 an13 : Option Addr} {sl13 : Array (Option Value)} {oc13 kV13 dc13 pm13 cd13 ct13 : Value}
    {f14 : Addr} {od14 an14 : Option Addr} {sl14 : Array (Option Value)} {oc14 kV14 dc14 pm14 cd14 ct14 : Value}
    {f15 : Addr} {od15 an15 : Option Addr} {sl15 : Array (Option Value)} {oc15 kV15 dc15 pm15 cd15 ct15 : Value}
    {f16 : Addr} {od16 an16 : Option Addr} {sl16 : Array (Option Value)} {oc16 kV16 dc16 pm16 cd16 ct16 : Value}
    {f17 : Addr} {od17 an17 : Option Addr} {sl17 : Array (Option Value)} {oc17 kV17 dc17 pm17 cd17 ct17 : Value}
    {f18 : Addr} {od18 an18 : Option Addr} {sl18 : Array (Option Value)} {oc18 kV18 dc18 pm18 cd18 ct18 : Value}
    {f19 : Addr} {od19 an19 : Option Addr} {sl19 : Array (Option Value)} {oc19 kV19 dc19 pm19 cd19 ct19 : Value}
    {f20 : Addr} {od20 an20 : Option Addr} {sl20 : Array (Option Value)} {oc20 kV20 dc20 pm20 cd20 ct20 : Value}
    (a0 : PySem.W.nsIn K mainGlobals "make_net" = some (some (.ref f0))) (l0 : K.lookup f0 = some ⟨oc0, od0, .func (PySem.W.fnOf "make_net" "make_net" (defArgs st_make_net) (defBody st_make_net) (defScope st_make_net) .none kV0 dc0 pm0 an0 cd0 ct0), sl0⟩) (c0 : PySem.W.codeIn K cd0 "make_net" = true) (k0 : PySem.W.keepIn K (.ref f0) = true)
    (a1 : PySem.W.nsIn K mainGlobals "place_of" = some (some (.ref f1))) (l1 : K.lookup f1 = some ⟨oc1, od1, .func (PySem.W.fnOf "place_of" "place_of" (defArgs st_place_of) (defBody st_place_of) (defScope st_place_of) .none kV1 dc1 pm1 an1 cd1 ct1), sl1⟩) (c1 : PySem.W.codeIn K cd1 "place_of" = true) (k1 : PySem.W.keepIn K (.ref f1) = true)
    (a2 : PySem.W.nsIn K mainGlobals "ends_of" = some (some (.ref f2))) (l2 : K.lookup f2 = some ⟨oc2, od2, .func (PySem.W.fnOf "ends_of" "ends_of" (defArgs st_ends_of) (defBody st_ends_of) (defScope st_ends_of) .none kV2 dc2 pm2 an2 cd2 ct2), sl2⟩) (c2 : PySem.W.codeIn K cd2 "ends_of" = true) (k2 : PySem.W.keepIn K (.ref f2) = true)
    (a3 : PySem.W.nsIn K mainGlobals "links_at" = some (some (.ref f3))) (l3 : K.lookup f3 = some ⟨oc3, od3, .func (PySem.W.fnOf "links_at" "links_at" (defArgs st_links_at) (defBody st_links_at) (defScope st_links_at) .none kV3 dc3 pm3 an3 cd3 ct3), sl3⟩) (c3 : PySem.W.codeIn K cd3 "links_at" = true) (k3 : PySem.W.keepIn K (.ref f3) = true)
    (a4 : PySem.W.nsIn K mainGlobals "weights_alone" = some (some (.ref f4))) (l4 : K.lookup f4 = some ⟨oc4, od4, .func (PySem.W.fnOf "weights_alone" "weights_alone" (defArgs st_weights_alone) (defBody st_weights_alone) (defScope st_weights_alone) .none kV4 dc4 pm4 an4 cd4 ct4), sl4⟩) (c4 : PySem.W.codeIn K cd4 "weights_alone" = true) (k4 : PySem.W.keepIn K (.ref f4) = true)
    (a5 : PySem.W.nsIn K mainGlobals "zero_weights" = some (some (.ref f5))) (l5 : K.lookup f5 = some ⟨oc5, od5, .func (PySem.W.fnOf "zero_weights" "zero_weights" (defArgs st_zero_weights) (defBody st_zero_weights) (defScope st_zero_weights) .none kV5 dc5 pm5 an5 cd5 ct5), sl5⟩) (c5 : PySem.W.codeIn K cd5 "zero_weights" = true) (k5 : PySem.W.keepIn K (.ref f5) = true)
    (a6 : PySem.W.nsIn K mainGlobals "_law_pool" = some (some (.ref f6))) (l6 : K.lookup f6 = some ⟨oc6, od6, .func (PySem.W.fnOf "_law_pool" "_law_pool" (defArgs st__law_pool) (defBody st__law_pool) (defScope st__law_pool) .none kV6 dc6 pm6 an6 cd6 ct6), sl6⟩) (c6 : PySem.W.codeIn K cd6 "_law_pool" = true) (k6 : PySem.W.keepIn K (.ref f6) = true)
    (a7 : PySem.W.nsIn K mainGlobals "_law_pick" = some (some (.ref f7))) (l7 : K.lookup f7 = some ⟨oc7, od7, .func (PySem.W.fnOf "_law_pick" "_law_pick" (defArgs st__law_pick) (defBody st__law_pick) (defScope st__law_pick) .none kV7 dc7 pm7 an7 cd7 ct7), sl7⟩) (c7 : PySem.W.codeIn K cd7 "_law_pick" = true) (k7 : PySem.W.keepIn K (.ref f7) = true)
    (a8 : PySem.W.nsIn K mainGlobals "_law_word" = some (some (.ref f8))) (l8 : K.lookup f8 = some ⟨oc8, od8, .func (PySem.W.fnOf "_law_word" "_law_word" (defArgs st__law_word) (defBody st__law_word) (defScope st__law_word) .none kV8 dc8 pm8 an8 cd8 ct8), sl8⟩) (c8 : PySem.W.codeIn K cd8 "_law_word" = true) (k8 : PySem.W.keepIn K (.ref f8) = true)
    (a9 : PySem.W.nsIn K mainGlobals "_law_words" = some (some (.ref f9))) (l9 : K.lookup f9 = some ⟨oc9, od9, .func (PySem.W.fnOf "_law_words" "_law_words" (defArgs st__law_words) (defBody st__law_words) (defScope st__law_words) .none kV9 dc9 pm9 an9 cd9 ct9), sl9⟩) (c9 : PySem.W.codeIn K cd9 "_law_words" = true) (k9 : PySem.W.keepIn K (.ref f9) = true)
    (a10 : PySem.W.nsIn K mainGlobals "_law_shuffled" = some (some (.ref f10))) (l10 : K.lookup f10 = some ⟨oc10, od10, .func (PySem.W.fnOf "_law_shuffled" "_law_shuffled" (defArgs st__law_shuffled) (defBody st__law_shuffled) (defScope st__law_shuffled) .none kV10 dc10 pm10 an10 cd10 ct10), sl10⟩) (c10 : PySem.W.codeIn K cd10 "_law_shuffled" = true) (k10 : PySem.W.keepIn K (.ref f10) = true)
    (a11 : PySem.W.nsIn K mainGlobals "_law_some" = some (some (.ref f11))) (l11 : K.lookup f11 = some ⟨oc11, od11, .func (PySem.W.fnOf "_law_some" "_law_some" (defArgs st__law_some) (defBody st__law_some) (defScope st__law_some) .none kV11 dc11 pm11 an11 cd11 ct11), sl11⟩) (c11 : PySem.W.codeIn K cd11 "_law_some" = true) (k11 : PySem.W.keepIn K (.ref f11) = true)
    (a12 : PySem.W.nsIn K mainGlobals "_law_lot" = some (some (.ref f12))) (l12 : K.lookup f12 = some ⟨oc12, od12, .func (PySem.W.fnOf "_law_lot" "_law_lot" (defArgs st__law_lot) (defBody st__law_lot) (defScope st__law_lot) .none kV12 dc12 pm12 an12 cd12 ct12), sl12⟩) (c12 : PySem.W.codeIn K cd12 "_law_lot" = true) (k12 : PySem.W.keepIn K (.ref f12) = true)
    (a13 : PySem.W.nsIn K mainGlobals "_law_same" = some (some (.ref f13))) (l13 : K.lookup f13 = some ⟨oc13, od13, .func (PySem.W.fnOf "_law_same" "_law_same" (defArgs st__law_same) (defBody st__law_same) (defScope st__law_same) .none kV13 dc13 pm13 an13 cd13 ct13), sl13⟩) (c13 : PySem.W.codeIn K cd13 "_law_same" = true) (k13 : PySem.W.keepIn K (.ref f13) = true)
    (a14 : PySem.W.nsIn K mainGlobals "_law_ends" = some (some (.ref f14))) (l14 : K.lookup f14 = some ⟨oc14, od14, .func (PySem.W.fnOf "_law_ends" "_law_ends" (defArgs st__law_ends) (defBody st__law_ends) (defScope st__law_ends) .none kV14 dc14 pm14 an14 cd14 ct14), sl14⟩) (c14 : PySem.W.codeIn K cd14 "_law_ends" = true) (k14 : PySem.W.keepIn K (.ref f14) = true)
    (a15 : PySem.W.nsIn K mainGlobals "_law_links" = some (some (.ref f15))) (l15 : K.lookup f15 = some ⟨oc15, od15, .func (PySem.W.fnOf "_law_links" "_law_links" (defArgs st__law_links) (defBody st__law_links) (defScope st__law_links) .none kV15 dc15 pm15 an15 cd15 ct15), sl15⟩) (c15 : PySem.W.codeIn K cd15 "_law_links" = true) (k15 : PySem.W.keepIn K (.ref f15) = true)
    (a16 : PySem.W.nsIn K mainGlobals "_law_due" = some (some (.ref f16))) (l16 : K.lookup f16 = some ⟨oc16, od16, .func (PySem.W.fnOf "_law_due" "_law_due" (defArgs st__law_due) (defBody st__law_due) (defScope st__law_due) .none kV16 dc16 pm16 an16 cd16 ct16), sl16⟩) (c16 : PySem.W.codeIn K cd16 "_law_due" = true) (k16 : PySem.W.keepIn K (.ref f16) = true)
    (a17 : PySem.W.nsIn K mainGlobals "_law_read" = some (some (.ref f17))) (l17 : K.lookup f17 = some ⟨oc17, od17, .func (PySem.W.fnOf "_law_read" "_law_read" (defArgs st__law_read) (defBody st__law_read) (defScope st__law_read) .none kV17 dc17 pm17 an17 cd17 ct17), sl17⟩) (c17 : PySem.W.codeIn K cd17 "_law_read" = true) (k17 : PySem.W.keepIn K (.ref f17) = true)
    (a18 : PySem.W.nsIn K mainGlobals "_law_made" = some (some (.ref f18))) (l18 : K.lookup f18 = some ⟨oc18, od18, .func (PySem.W.fnOf "_law_made" "_law_made" (defArgs st__law_made) (defBody st__law_made) (defScope st__law_made) .none kV18 dc18 pm18 an18 cd18 ct18), sl18⟩) (c18 : PySem.W.codeIn K cd18 "_law_made" = true) (k18 : PySem.W.keepIn K (.ref f18) = true)
    (a19 : PySem.W.nsIn K mainGlobals "_law_named" = some (some (.ref f19))) (l19 : K.lookup f19 = some ⟨oc19, od19, .func (PySem.W.fnOf "_law_named" "_law_named" (defArgs st__law_named) (defBody st__law_named) (defScope st__law_named) .none kV19 dc19 pm19 an19 cd19 ct19), sl19⟩) (c19 : PySem.W.codeIn K cd19 "_law_named" = true) (k19 : PySem.W.keepIn K (.ref f19) = true)
    (a20 : PySem.W.nsIn K mainGlobals "law" = some (some (.ref f20))) (l20 : K.lookup f20 = some ⟨oc20, od20, .func (PySem.W.fnOf "law" "law" (defArgs st_law) (defBody st_law) (defScope st_law) .none kV20 dc20 pm20 an20 cd20 ct20), sl20⟩) (c20 : PySem.W.codeIn K cd20 "law" = true) (k20 : PySem.W.keepIn K (.ref f20) = true)
    (z_bool : PySem.W.nsIn K mainGlobals "bool" = some none)
    (z_enumerate : PySem.W.nsIn K mainGlobals "enumerate" = some none)
    (z_int : PySem.W.nsIn K mainGlobals "int" = some none)
    (z_isinstance : PySem.W.nsIn K mainGlobals "isinstance" = some none)
    (z_len : PySem.W.nsIn K mainGlobals "len" = some none)
    (z_list : PySem.W.nsIn K mainGlobals "list" = some none)
    (z_max : PySem.W.nsIn K mainGlobals "max" = some none)
    (z_min : PySem.W.nsIn K mainGlobals "min" = some none)
    (z_range : PySem.W.nsIn K mainGlobals "range" = some none)
    (z_set : PySem.W.nsIn K mainGlobals "set" = some none)
    (z_sorted : PySem.W.nsIn K mainGlobals "sorted" = some none)
    (z_str : PySem.W.nsIn K mainGlobals "str" = some none)
    (z_tuple : PySem.W.nsIn K mainGlobals "tuple" = some none)
    : Nonempty { T : Pk K mg // T.d_law.a = fa ∧ ∀ (s : Shared) (v : Value), BindsTo s T.d_law.fd ⟨[v], []⟩ [("script", v)] } := by
  have e := hfa.symm.trans (PySem.W.mg_of KI G a20)
  cases e
  exact ⟨⟨{
    d_make_net := ⟨_, _, PySem.W.mg_of KI G a0, k0, fun_mk (st := st_make_net) l0 c0 k0, (fun_mk (st := st_make_net) l0 c0 k0).binds (ps := ["nodes", "links", "monitors", "given"]) fun _ _ _ _ _ _ us hl => match us, hl with | [_, _, _, _], _ => rfl⟩
    d_place_of := ⟨_, _, PySem.W.mg_of KI G a1, k1, fun_mk (st := st_place_of) l1 c1 k1, (fun_mk (st := st_place_of) l1 c1 k1).binds (ps := ["net", "name"]) fun _ _ _ _ _ _ us hl => match us, hl with | [_, _], _ => rfl⟩
    d_ends_of := ⟨_, _, PySem.W.mg_of KI G a2, k2, fun_mk (st := st_ends_of) l2 c2 k2, (fun_mk (st := st_ends_of) l2 c2 k2).binds (ps := ["net", "name"]) fun _ _ _ _ _ _ us hl => match us, hl with | [_, _], _ => rfl⟩
    d_links_at := ⟨_, _, PySem.W.mg_of KI G a3, k3, fun_mk (st := st_links_at) l3 c3 k3, (fun_mk (st := st_links_at) l3 c3 k3).binds (ps := ["net", "node"]) fun _ _ _ _ _ _ us hl => match us, hl with | [_, _], _ => rfl⟩
    d_weights_alone := ⟨_, _, PySem.W.mg_of KI G a4, k4, fun_mk (st := st_weights_alone) l4 c4 k4, (fun_mk (st := st_weights_alone) l4 c4 k4).binds (ps := ["net", "name"]) fun _ _ _ _ _ _ us hl => match us, hl with | [_, _], _ => rfl⟩
    d_zero_weights := ⟨_, _, PySem.W.mg_of KI G a5, k5, fun_mk (st := st_zero_weights) l5 c5 k5, (fun_mk (st := st_zero_weights) l5 c5 k5).binds (ps := ["net"]) fun _ _ _ _ _ _ us hl => match us, hl with | [_], _ => rfl⟩
    d__law_pool := ⟨_, _, PySem.W.mg_of KI G a6, k6, fun_mk (st := st__law_pool) l6 c6 k6, (fun_mk (st := st__law_pool) l6 c6 k6).binds (ps := ["script"]) fun _ _ _ _ _ _ us hl => match us, hl with | [_], _ => rfl⟩
    d__law_pick := ⟨_, _, PySem.W.mg_of KI G a7, k7, fun_mk (st := st__law_pick) l7 c7 k7, (fun_mk (st := st__law_pick) l7 c7 k7).binds (ps := ["pool", "many"]) fun _ _ _ _ _ _ us hl => match us, hl with | [_, _], _ => rfl⟩
    d__law_word := ⟨_, _, PySem.W.mg_of KI G a8, k8, fun_mk (st := st__law_word) l8 c8 k8, (fun_mk (st := st__law_word) l8 c8 k8).binds (ps := ["pool"]) fun _ _ _ _ _ _ us hl => match us, hl with | [_], _ => rfl⟩
    d__law_words := ⟨_, _, PySem.W.mg_of KI G a9, k9, fun_mk (st := st__law_words) l9 c9 k9, (fun_mk (st := st__law_words) l9 c9 k9).binds (ps := ["pool", "many", "other"]) fun _ _ _ _ _ _ us hl => match us, hl with | [_, _, _], _ => rfl⟩
    d__law_shuffled := ⟨_, _, PySem.W.mg_of KI G a10, k10, fun_mk (st := st__law_shuffled) l10 c10 k10, (fun_mk (st := st__law_shuffled) l10 c10 k10).binds (ps := ["pool", "row"]) fun _ _ _ _ _ _ us hl => match us, hl with | [_, _], _ => rfl⟩
    d__law_some := ⟨_, _, PySem.W.mg_of KI G a11, k11, fun_mk (st := st__law_some) l11 c11 k11, (fun_mk (st := st__law_some) l11 c11 k11).binds (ps := ["pool", "row"]) fun _ _ _ _ _ _ us hl => match us, hl with | [_, _], _ => rfl⟩
    d__law_lot := ⟨_, _, PySem.W.mg_of KI G a12, k12, fun_mk (st := st__law_lot) l12 c12 k12, (fun_mk (st := st__law_lot) l12 c12 k12).binds (ps := ["row"]) fun _ _ _ _ _ _ us hl => match us, hl with | [_], _ => rfl⟩
    d__law_same := ⟨_, _, PySem.W.mg_of KI G a13, k13, fun_mk (st := st__law_same) l13 c13 k13, (fun_mk (st := st__law_same) l13 c13 k13).binds (ps := ["told", "due"]) fun _ _ _ _ _ _ us hl => match us, hl with | [_, _], _ => rfl⟩
    d__law_ends := ⟨_, _, PySem.W.mg_of KI G a14, k14, fun_mk (st := st__law_ends) l14 c14 k14, (fun_mk (st := st__law_ends) l14 c14 k14).binds (ps := ["pool", "nodes"]) fun _ _ _ _ _ _ us hl => match us, hl with | [_, _], _ => rfl⟩
    d__law_links := ⟨_, _, PySem.W.mg_of KI G a15, k15, fun_mk (st := st__law_links) l15 c15 k15, (fun_mk (st := st__law_links) l15 c15 k15).binds (ps := ["pool", "nodes", "names"]) fun _ _ _ _ _ _ us hl => match us, hl with | [_, _, _], _ => rfl⟩
    d__law_due := ⟨_, _, PySem.W.mg_of KI G a16, k16, fun_mk (st := st__law_due) l16 c16 k16, (fun_mk (st := st__law_due) l16 c16 k16).binds (ps := ["nodes", "links", "monitors", "given"]) fun _ _ _ _ _ _ us hl => match us, hl with | [_, _, _, _], _ => rfl⟩
    d__law_read := ⟨_, _, PySem.W.mg_of KI G a17, k17, fun_mk (st := st__law_read) l17 c17 k17, (fun_mk (st := st__law_read) l17 c17 k17).binds (ps := ["net"]) fun _ _ _ _ _ _ us hl => match us, hl with | [_], _ => rfl⟩
    d__law_made := ⟨_, _, PySem.W.mg_of KI G a18, k18, fun_mk (st := st__law_made) l18 c18 k18, (fun_mk (st := st__law_made) l18 c18 k18).binds (ps := ["pool", "many", "count"]) fun _ _ _ _ _ _ us hl => match us, hl with | [_, _, _], _ => rfl⟩
    d__law_named := ⟨_, _, PySem.W.mg_of KI G a19, k19, fun_mk (st := st__law_named) l19 c19 k19, (fun_mk (st := st__law_named) l19 c19 k19).binds (ps := []) fun _ _ _ _ _ _ us hl => match us, hl with | [], _ => rfl⟩
    d_law := ⟨_, _, PySem.W.mg_of KI G a20, k20, fun_mk (st := st_law) l20 c20 k20, (fun_mk (st := st_law) l20 c20 k20).binds (ps := ["script"]) fun _ _ _ _ _ _ us hl => match us, hl with | [_], _ => rfl⟩
    z_bool := PySem.W.mg_none_of KI G z_bool
    z_enumerate := PySem.W.mg_none_of KI G z_enumerate
    z_int := PySem.W.mg_none_of KI G z_int
    z_isinstance := PySem.W.mg_none_of KI G z_isinstance
    z_len := PySem.W.mg_none_of KI G z_len
    z_list := PySem.W.mg_none_of KI G z_list
    z_max := PySem.W.mg_none_of KI G z_max
    z_min := PySem.W.mg_none_of KI G z_min
    z_range := PySem.W.mg_none_of KI G z_range
    z_set := PySem.W.mg_none_of KI G z_set
    z_sorted := PySem.W.mg_none_of KI G z_sorted
    z_str := PySem.W.mg_none_of KI G z_str
    z_tuple := PySem.W.mg_none_of KI G z_tuple
  }, rfl, fun s v => .of_eq rfl⟩⟩
theorem walk {l : PySem.W.OpenLaw} {q : Program} {loose : List Str} {XP : (Str → Option Value) → Heap → Prop} {YP : World → Heap → Prop} {d : DefRec} {K : Params → PySem.W.Frag} (hn : l.most = some 63) (hdf : d.params.defaults = [])
    (hY : ∀ (w : World) (h : Heap), YP w h → (K w.params).In h)
    (F : ∀ (w : World) (mg : Str → Option Value) (fa : Addr) (h : Heap), (K w.params).In h → h.Ns mainGlobals mg → mg d.name = some (.ref fa) → Nonempty { T : Pk (K w.params) mg // T.d_law.a = fa ∧ ∀ (s : Shared) (v : Value), BindsTo s T.d_law.fd ⟨[v], []⟩ [("script", v)] })
    (law : ∀ ns : List Int, ns.length ≤ 63 → ∃ mh, m_law [.rol (ns.map .int)] [] = .ok (.bl true) mh) :
    PySem.W.WalkO q loose XP YP l.row.toRowW d [] (fun f vs => PySem.call f vs) :=
  L2.walk_of (n := 63) (k := 15) (x := "script") (CX := fun w => L2.CX l.prog w) (sp := fun w => spLawD (K w.params)) hn (by decide) hdf ⟨rfl, by decide, by decide⟩ hY
    (fun w mg fa h KI G hfa => by
      obtain ⟨T, e, hb⟩ := F w mg fa h KI G hfa
      subst e
      exact ⟨T.d_law.fd, hb, fun base _ _ => law_of (ok_law T) law⟩)
    (fun w H a ns hl ho hS => law_end w H a ns hl ho hS) fun _ _ _ _ _ z => by
      obtain ⟨_, _, _, _, _, _, _, _, _, _, _, _, no⟩ := z
      exact no.elim
end K03
/-! Det, part S: what must hold ahead of a mirror (plain Lean, no program in sight). -/
namespace Det
open PySem

/-- r ends well with Q, or with an exception and E (an inductive word: nothing is run to read it) -/
inductive Res.wp {α : Type} : Res α → (α → MH → Prop) → (Exn → MH → Prop) → Prop
  | ok {a : α} {h : MH} {Q : α → MH → Prop} {E : Exn → MH → Prop} : Q a h → Res.wp (.ok a h) Q E
  | ex {x : Exn} {h : MH} {Q : α → MH → Prop} {E : Exn → MH → Prop} : E x h → Res.wp (.ex x h) Q E
structure Po where
  nx : Nv → MH → Prop
  rt : D → MH → Prop
  bk : Nv → MH → Prop
  ct : Nv → MH → Prop
  ex : Exn → Nv → MH → Prop
inductive SRes.wp : SRes → Po → Prop
  | nx {e : Nv} {h : MH} {O : Po} : O.nx e h → SRes.wp (.nx e h) O
  | bk {e : Nv} {h : MH} {O : Po} : O.bk e h → SRes.wp (.bk e h) O
  | ct {e : Nv} {h : MH} {O : Po} : O.ct e h → SRes.wp (.ct e h) O
  | rt {d : D} {h : MH} {O : Po} : O.rt d h → SRes.wp (.rt d h) O
  | ex {x : Exn} {e : Nv} {h : MH} {O : Po} : O.ex x e h → SRes.wp (.ex x e h) O
inductive owp {α : Type} : Option (α × MH) → (α → MH → Prop) → Prop
  | some {a : α} {h : MH} {Q : α → MH → Prop} : Q a h → owp (.some (a, h)) Q
section
variable {α β : Type} {Q Q' : α → MH → Prop} {E E' : Exn → MH → Prop} {mh : MH} {env : Nv} {O : Po}
@[simp] theorem wp_ok {a : α} : (Res.ok a mh).wp Q E ↔ Q a mh := ⟨fun h => by cases h; assumption, .ok⟩
@[simp] theorem wp_no : (Res.no : Res α).wp Q E ↔ False := ⟨(fun h => nomatch h), False.elim⟩
@[simp] theorem wp_ex {x : Exn} : (Res.ex x mh : Res α).wp Q E ↔ E x mh := ⟨fun h => by cases h; assumption, .ex⟩
@[simp] theorem swp_nx {e : Nv} : (SRes.nx e mh).wp O ↔ O.nx e mh := ⟨fun h => by cases h; assumption, .nx⟩
@[simp] theorem swp_bk {e : Nv} : (SRes.bk e mh).wp O ↔ O.bk e mh := ⟨fun h => by cases h; assumption, .bk⟩
@[simp] theorem swp_ct {e : Nv} : (SRes.ct e mh).wp O ↔ O.ct e mh := ⟨fun h => by cases h; assumption, .ct⟩
@[simp] theorem swp_rt {d : D} : (SRes.rt d mh).wp O ↔ O.rt d mh := ⟨fun h => by cases h; assumption, .rt⟩
@[simp] theorem swp_ex {x : Exn} {e : Nv} : (SRes.ex x e mh).wp O ↔ O.ex x e mh := ⟨fun h => by cases h; assumption, .ex⟩
@[simp] theorem swp_no : SRes.no.wp O ↔ False := ⟨(fun h => nomatch h), False.elim⟩
@[simp] theorem owp_some {a : α} : owp (some (a, mh)) Q ↔ Q a mh := ⟨fun h => by cases h; assumption, .some⟩
@[simp] theorem owp_none : owp (none : Option (α × MH)) Q ↔ False := ⟨(fun h => nomatch h), False.elim⟩
@[simp] theorem wp_bind {r : Res α} {k : α → MH → Res β} {Q : β → MH → Prop} : (r.bind k).wp Q E ↔ r.wp (fun a h => (k a h).wp Q E) E := by
  cases r with
  | ok a h => exact ⟨fun q => .ok q, fun q => by cases q; assumption⟩
  | ex x h => exact ⟨fun q => .ex (wp_ex.mp q), fun q => .ex (wp_ex.mp q)⟩
  | no => exact wp_no.trans wp_no.symm
@[simp] theorem wp_ofO {o : Option (α × MH)} : (Res.ofO o).wp Q E ↔ owp o Q := by
  cases o with
  | none => exact wp_no.trans owp_none.symm
  | some p => obtain ⟨a, h⟩ := p; exact wp_ok.trans owp_some.symm
theorem Res.wp_mono {r : Res α} (h : r.wp Q E) (hq : ∀ a h, Q a h → Q' a h) (he : ∀ x h, E x h → E' x h) : r.wp Q' E' := by
  cases h with
  | ok h => exact .ok (hq _ _ h)
  | ex h => exact .ex (he _ _ h)
theorem SRes.wp_mono {r : SRes} {O O' : Po} (h : r.wp O) (h1 : ∀ e h, O.nx e h → O'.nx e h) (h2 : ∀ e h, O.rt e h → O'.rt e h) (h3 : ∀ e h, O.bk e h → O'.bk e h) (h4 : ∀ e h, O.ct e h → O'.ct e h) (h5 : ∀ x e h, O.ex x e h → O'.ex x e h) : r.wp O' := by
  cases h with
  | nx h => exact .nx (h1 _ _ h)
  | bk h => exact .bk (h3 _ _ h)
  | ct h => exact .ct (h4 _ _ h)
  | rt h => exact .rt (h2 _ _ h)
  | ex h => exact .ex (h5 _ _ _ h)
/-! with the wish behind, as the end of a run says it -/
theorem wp_end {r : Res α} (h : r.wp Q fun _ _ => False) : ∃ a m, r = .ok a m ∧ Q a m := by
  cases h with
  | ok h => exact ⟨_, _, rfl, h⟩
  | ex h => exact h.elim
theorem wp_bind_iff {r : Res α} {k : α → MH → Res β} {Q : β → MH → Prop} {P : α → MH → Prop} (hk : ∀ a h, (k a h).wp Q E ↔ P a h) : (r.bind k).wp Q E ↔ r.wp P E := by
  rw [wp_bind]
  exact ⟨fun h => Res.wp_mono h (fun a m q => (hk a m).mp q) fun _ _ q => q, fun h => Res.wp_mono h (fun a m q => (hk a m).mpr q) fun _ _ q => q⟩
theorem wp_lift {r : Res α} {k : α → MH → SRes} : (lift r env k).wp O ↔ r.wp (fun a h => (k a h).wp O) (fun x h => O.ex x env h) := by
  cases r with
  | ok a h => exact ⟨fun q => .ok q, fun q => by cases q; assumption⟩
  | ex x h => exact ⟨fun q => .ex (swp_ex.mp q), fun q => .ex (wp_ex.mp q)⟩
  | no => exact swp_no.trans wp_no.symm
theorem wp_lift_iff {r : Res α} {k : α → MH → SRes} {P : α → MH → Prop} (hk : ∀ a h, (k a h).wp O ↔ P a h) : (lift r env k).wp O ↔ r.wp P (fun x h => O.ex x env h) := by
  rw [wp_lift]
  exact ⟨fun h => Res.wp_mono h (fun a m q => (hk a m).mp q) fun _ _ q => q, fun h => Res.wp_mono h (fun a m q => (hk a m).mpr q) fun _ _ q => q⟩
/-! ### expressions -/
variable {f g : ME} {ft gt : MT} {fa : MA} {Qd : D → MH → Prop} {Qb : Bool → MH → Prop} {Ql : List D → MH → Prop}
@[simp] theorem wp_vr {i : Nat} : (vr i env mh).wp Qd E ↔ ∃ d, env[i]? = some (some d) ∧ Qd d mh := by
  unfold vr
  cases env[i]? with
  | none => simp
  | some o => cases o <;> simp
@[simp] theorem wp_kn {d : D} : (kn d env mh).wp Qd E ↔ Qd d mh := wp_ok
@[simp] theorem wp_anil : (anil env mh).wp Ql E ↔ Ql [] mh := wp_ok
@[simp] theorem wp_acons : (acons f fa env mh).wp Ql E ↔ (f env mh).wp (fun d h => (fa env h).wp (fun ds h2 => Ql (d :: ds) h2) E) E := by
  unfold acons; simp
@[simp] theorem wp_un {o : Op1} : (un o f env mh).wp Qd E ↔ (f env mh).wp (fun a h => owp (o a h) Qd) E := by unfold un; simp
@[simp] theorem wp_bi {o : Op2} : (bi o f g env mh).wp Qd E ↔ (f env mh).wp (fun a h => (g env h).wp (fun b h2 => owp (o a b h2) Qd) E) E := by unfold bi; simp
@[simp] theorem wp_ap {o : OpA} : (ap o fa env mh).wp Qd E ↔ (fa env mh).wp (fun as h => owp (o as h) Qd) E := by unfold ap; simp
@[simp] theorem wp_tb : (tb f env mh).wp Qb E ↔ (f env mh).wp (fun a h => ∃ b, a = .bl b ∧ Qb b h) E := wp_bind_iff fun a h => by cases a <;> simp
@[simp] theorem wp_tru : (tru f env mh).wp Qb E ↔ (f env mh).wp (fun a h => ∃ b, truD a h = some b ∧ Qb b h) E := wp_bind_iff fun a h => by cases truD a h <;> simp
theorem wp_ite {α : Type} {c : Prop} [Decidable c] {a b : Res α} {Q : α → MH → Prop} : (if c then a else b).wp Q E ↔ (c → a.wp Q E) ∧ (¬ c → b.wp Q E) := by
  split <;> simp [*]
@[simp] theorem wp_tand : (tand ft gt env mh).wp Qb E ↔ (ft env mh).wp (fun b h => (b = true → (gt env h).wp Qb E) ∧ (b = false → Qb false h)) E := wp_bind_iff fun b h => by cases b <;> simp
@[simp] theorem wp_tor : (tor ft gt env mh).wp Qb E ↔ (ft env mh).wp (fun b h => (b = true → Qb true h) ∧ (b = false → (gt env h).wp Qb E)) E := wp_bind_iff fun b h => by cases b <;> simp
@[simp] theorem wp_tnot : (tnot ft env mh).wp Qb E ↔ (ft env mh).wp (fun b h => Qb (!b) h) E := by unfold tnot; simp
@[simp] theorem wp_yes : (yes env mh).wp Qb E ↔ Qb true mh := wp_ok
@[simp] theorem wp_eand : (eand f g env mh).wp Qd E ↔ (f env mh).wp (fun a h => ∃ b, truD a h = some b ∧ (b = true → (g env h).wp Qd E) ∧ (b = false → Qd a h)) E := wp_bind_iff fun a h => by
  cases truD a h with
  | none => simp
  | some b => cases b <;> simp
@[simp] theorem wp_eor : (eor f g env mh).wp Qd E ↔ (f env mh).wp (fun a h => ∃ b, truD a h = some b ∧ (b = true → Qd a h) ∧ (b = false → (g env h).wp Qd E)) E := wp_bind_iff fun a h => by
  cases truD a h with
  | none => simp
  | some b => cases b <;> simp
@[simp] theorem wp_enot : (enot f env mh).wp Qd E ↔ (f env mh).wp (fun a h => ∃ b, truD a h = some b ∧ Qd (.bl (!b)) h) E := wp_bind_iff fun a h => by cases truD a h <;> simp
@[simp] theorem wp_eif : (eif ft f g env mh).wp Qd E ↔ (ft env mh).wp (fun b h => (b = true → (f env h).wp Qd E) ∧ (b = false → (g env h).wp Qd E)) E := wp_bind_iff fun b h => by cases b <;> simp
theorem wp_if_no {α : Type} {c : Prop} [Decidable c] {a : Res α} {Q : α → MH → Prop} : (if c then a else .no).wp Q E ↔ c ∧ a.wp Q E := by
  by_cases h : c
  · rw [if_pos h]; exact ⟨fun q => ⟨h, q⟩, fun q => q.2⟩
  · rw [if_neg h]; exact ⟨(fun q => nomatch q), fun q => absurd q.1 h⟩
@[simp] theorem wp_cal {n : Nat} {F : Fn} : (cal n F fa env mh).wp Qd E ↔ (fa env mh).wp (fun ds h => ds.length = n ∧ (F ds h).wp Qd E) E := wp_bind_iff fun _ _ => wp_if_no
@[simp] theorem wp_calK {n : Nat} {pm : List Nat} {F : Fn} : (calK n pm F fa env mh).wp Qd E ↔ (fa env mh).wp (fun ds h => ds.length = n ∧ (F (pickD pm ds) h).wp Qd E) E := wp_bind_iff fun _ _ => wp_if_no
@[simp] theorem wp_dtup : (dtup fa env mh).wp Qd E ↔ (fa env mh).wp (fun ds h => ds.length ≤ sizeLine ∧ Qd (.tup ds) h) E := wp_bind_iff fun _ _ => wp_if_no.trans (by simp)
@[simp] theorem wp_dlst : (dlst fa env mh).wp Qd E ↔ (fa env mh).wp (fun ds h => ds.length ≤ sizeLine ∧ Qd (.ref h.length) (h ++ [.lst ds])) E := wp_bind_iff fun _ _ => wp_if_no.trans (by simp)
@[simp] theorem wp_app : (app f g env mh).wp Qd E ↔ (f env mh).wp (fun o h => ∃ n, o = .ref n ∧ (∃ ys, h[n]? = some (.lst ys)) ∧ (g env h).wp (fun d h2 => ∃ xs, h2[n]? = some (.lst xs) ∧ xs.length < sizeLine ∧ Qd .non (h2.set n (.lst (xs ++ [d])))) E) E := wp_bind_iff fun o h => by
  cases o with
  | ref n =>
    simp only [D.ref.injEq, exists_eq_left']
    have inner : ∀ (d : D) (h2 : MH), (match h2[n]? with | some (.lst xs) => if xs.length < sizeLine then Res.ok D.non (h2.set n (.lst (xs ++ [d]))) else .no | _ => .no).wp Qd E ↔ ∃ xs, h2[n]? = some (.lst xs) ∧ xs.length < sizeLine ∧ Qd .non (h2.set n (.lst (xs ++ [d]))) := fun d h2 => by
      cases h2[n]? with
      | none => simp
      | some ob =>
        cases ob with
        | lst xs => exact wp_if_no.trans (by simp)
        | dk _ => simp
        | dt _ => simp
    cases hn : h[n]? with
    | none => simp
    | some ob =>
      cases ob with
      | lst ys => exact (wp_bind_iff inner).trans (by simp)
      | dk _ => simp
      | dt _ => simp
  | _ => simp
/-! ### statements -/
variable {s t : MS}
@[simp] theorem wp_nop : (nop env mh).wp O ↔ O.nx env mh := swp_nx
@[simp] theorem wp_brk : (brk env mh).wp O ↔ O.bk env mh := swp_bk
@[simp] theorem wp_cnt : (cnt env mh).wp O ↔ O.ct env mh := swp_ct
@[simp] theorem wp_retN : (retN env mh).wp O ↔ O.rt .non mh := swp_rt
@[simp] theorem wp_sq : (sq s t env mh).wp O ↔ (s env mh).wp { O with nx := fun e h => (t e h).wp O } := by
  unfold sq
  cases s env mh <;> simp
@[simp] theorem wp_sst {i : Nat} : (sst i f env mh).wp O ↔ (f env mh).wp (fun d h => O.nx (env.set i (some d)) h) (fun x h => O.ex x env h) := wp_lift_iff fun _ _ => swp_nx
@[simp] theorem wp_drp : (drp f env mh).wp O ↔ (f env mh).wp (fun d h => O.nx env h) (fun x h => O.ex x env h) := wp_lift_iff fun _ _ => swp_nx
@[simp] theorem wp_ret : (ret f env mh).wp O ↔ (f env mh).wp (fun d h => O.rt d h) (fun x h => O.ex x env h) := wp_lift_iff fun _ _ => swp_rt
@[simp] theorem wp_sif : (sif ft s t env mh).wp O ↔ (ft env mh).wp (fun b h => (b = true → (s env h).wp O) ∧ (b = false → (t env h).wp O)) (fun x h => O.ex x env h) := wp_lift_iff fun b _ => by cases b <;> simp
@[simp] theorem wp_asg {p : Pat} : (asg p f env mh).wp O ↔ (f env mh).wp (fun d h => ∃ e, setP p d env = some e ∧ O.nx e h) (fun x h => O.ex x env h) := wp_lift_iff fun d _ => by cases setP p d env <;> simp
@[simp] theorem wp_setIx {fo fi : ME} : (setIx fo fi f env mh).wp O ↔ (f env mh).wp (fun v h => (fo env h).wp (fun o h2 => (fi env h2).wp (fun i h3 => ∃ n k xs j, o = .ref n ∧ i = .int k ∧ h3[n]? = some (.lst xs) ∧ L2.ixN xs.length k = some j ∧ O.nx env (h3.set n (.lst (xs.set j v)))) (fun x h => O.ex x env h)) (fun x h => O.ex x env h)) (fun x h => O.ex x env h) :=
  wp_lift_iff fun v _ => wp_lift_iff fun o _ => wp_lift_iff fun i h3 => by
    cases o with
    | ref n =>
      cases i with
      | int k =>
        simp only
        cases hn : h3[n]? with
        | none => simp [hn]
        | some ob =>
          cases ob with
          | lst xs =>
            simp only
            cases hj : L2.ixN xs.length k with
            | none => simp [hn, hj]
            | some j => simp [hn, hj]
          | dk _ => simp [hn]
          | dt _ => simp [hn]
      | _ => simp
    | _ => simp
@[simp] theorem wp_sfor {fi : MI} {p : Pat} : (sfor fi p s env mh).wp O ↔ (fi env mh).wp (fun it h => (loopF it.chk p s it.items env h).wp O) (fun x h => O.ex x env h) := wp_lift
/-- a loop by what holds ahead of each turn -/
theorem loop_wp {chk : MH → Bool} {p : Pat} {ds : List D} (I : Nat → Nv → MH → Prop) (h0 : I 0 env mh)
    (hs : ∀ i d env mh, ds[i]? = some d → I i env mh → chk mh = true ∧ ∃ e, setP p d env = some e ∧ (s e mh).wp { nx := I (i + 1), ct := I (i + 1), bk := O.nx, rt := O.rt, ex := O.ex })
    (hd : ∀ env mh, I ds.length env mh → chk mh = true ∧ O.nx env mh) : (loopF chk p s ds env mh).wp O := by
  have go : ∀ (rest : List D) (i : Nat) (env : Nv) (mh : MH), (∀ k, rest[k]? = ds[i + k]?) → i + rest.length = ds.length → I i env mh → (loopF chk p s rest env mh).wp O := by
    intro rest
    induction rest with
    | nil =>
      intro i env mh _ hl hi
      have e : i = ds.length := by simpa using hl
      subst e
      obtain ⟨h1, h2⟩ := hd _ _ hi
      unfold loopF
      rw [if_pos h1]; exact .nx h2
    | cons d rest ih =>
      intro i env mh hr hl hi
      have hd0 : ds[i]? = some d := by have := hr 0; simpa using this.symm
      obtain ⟨h1, e, h2, h3⟩ := hs i d env mh hd0 hi
      have next : ∀ env mh, I (i + 1) env mh → (loopF chk p s rest env mh).wp O := fun env mh q => ih (i + 1) env mh (fun k => by have := hr (k + 1); rw [List.getElem?_cons_succ] at this; rw [this]; congr 1; omega) (by simp at hl; omega) q
      unfold loopF
      rw [if_pos h1, h2]
      simp only
      cases hb : s e mh with
      | nx e2 m2 => rw [hb] at h3; exact next _ _ (swp_nx.mp h3)
      | ct e2 m2 => rw [hb] at h3; exact next _ _ (swp_ct.mp h3)
      | bk e2 m2 => rw [hb] at h3; exact .nx (by simpa using h3)
      | rt d2 m2 => rw [hb] at h3; exact .rt (by simpa using h3)
      | ex x e2 m2 => rw [hb] at h3; exact .ex (by simpa using h3)
      | no => rw [hb] at h3; exact nomatch h3
  exact go ds 0 env mh (fun k => by rw [Nat.zero_add]) (by simp) h0
/-- a while by what holds ahead of each turn and a number that falls -/
theorem while_wp {n : Nat} (I : Nat → Nv → MH → Prop) (m0 : Nat) (hm : m0 < n) (h0 : I m0 env mh)
    (hs : ∀ m env mh, I m env mh → (ft env mh).wp (fun b h => (b = true → (s env h).wp { nx := fun e h => ∃ m', m' < m ∧ I m' e h, ct := fun e h => ∃ m', m' < m ∧ I m' e h, bk := O.nx, rt := O.rt, ex := O.ex }) ∧ (b = false → O.nx env h)) (fun x h => O.ex x env h)) :
    (whl ft s n env mh).wp O := by
  induction n generalizing m0 env mh with
  | zero => omega
  | succ n ih =>
    unfold whl
    rw [wp_lift]
    refine Res.wp_mono (hs m0 env mh h0) (fun b h q => ?_) fun _ _ q => q
    cases b with
    | false => exact .nx (q.2 rfl)
    | true =>
      have q := q.1 rfl
      simp only [if_true]
      cases hb : s env h with
      | nx e2 m2 => rw [hb] at q; obtain ⟨m', lt, q⟩ := swp_nx.mp q; exact ih m' (by omega) q
      | ct e2 m2 => rw [hb] at q; obtain ⟨m', lt, q⟩ := swp_ct.mp q; exact ih m' (by omega) q
      | bk e2 m2 => rw [hb] at q; exact .nx (by simpa using q)
      | rt d2 m2 => rw [hb] at q; exact .rt (by simpa using q)
      | ex x e2 m2 => rw [hb] at q; exact .ex (by simpa using q)
      | no => rw [hb] at q; exact nomatch q
@[simp] theorem wp_runF {n : Nat} {ds : List D} : (runF n s ds mh).wp Qd E ↔ (s (ds.map some ++ List.replicate (n - ds.length) none) mh).wp { nx := fun _ h => Qd .non h, rt := Qd, bk := fun _ _ => False, ct := fun _ _ => False, ex := fun x _ h => E x h } := by
  unfold runF
  cases s (ds.map some ++ List.replicate (n - ds.length) none) mh <;> simp
/-! ### comprehensions -/
theorem wp_nox {r : Res α} : r.nox.wp Q E ↔ r.wp Q (fun _ _ => False) := by
  cases r <;> simp [Res.nox]
@[simp] theorem wp_lc {fi : MI} {p : Pat} {vs : List Nat} : (lc fi p ft f vs env mh).wp Qd E ↔ (fi env mh).wp (fun it h => (loopC h.length it.chk p ft f (wipeD env vs) it.items (h ++ [.lst []])).wp Qd E) E := by
  unfold lc; rw [wp_bind]
/-- a comprehension by what holds ahead of each turn: acc the list so far -/
theorem comp_wp {n : Nat} {chk : MH → Bool} {p : Pat} {ds : List D} (I : Nat → List D → MH → Prop) (acc0 : List D) (hacc : mh[n]? = some (.lst acc0)) (h0 : I 0 acc0 mh)
    (hI : ∀ i acc mh, I i acc mh → mh[n]? = some (.lst acc))
    (hs : ∀ i d acc mh, ds[i]? = some d → I i acc mh → chk mh = true ∧ ∃ e, setP p d env = some e ∧ (ft e mh).wp (fun b h => (b = true → (f e h).wp (fun y h2 => h2[n]? = some (.lst acc) ∧ acc.length < sizeLine ∧ I (i + 1) (acc ++ [y]) (h2.set n (.lst (acc ++ [y])))) fun _ _ => False) ∧ (b = false → I (i + 1) acc h)) fun _ _ => False)
    (hd : ∀ acc mh, I ds.length acc mh → chk mh = true ∧ Qd (.ref n) mh) : (loopC n chk p ft f env ds mh).wp Qd E := by
  have go : ∀ (rest : List D) (i : Nat) (acc : List D) (mh : MH), (∀ k, rest[k]? = ds[i + k]?) → i + rest.length = ds.length → I i acc mh → (loopC n chk p ft f env rest mh).wp Qd E := by
    intro rest
    induction rest with
    | nil =>
      intro i acc mh _ hl hi
      have e : i = ds.length := by simpa using hl
      subst e
      obtain ⟨h1, h2⟩ := hd _ _ hi
      unfold loopC
      rw [if_pos h1]; exact .ok h2
    | cons d rest ih =>
      intro i acc mh hr hl hi
      have hd0 : ds[i]? = some d := by have := hr 0; simpa using this.symm
      obtain ⟨h1, e, h2, h3⟩ := hs i d acc mh hd0 hi
      have next : ∀ acc mh, I (i + 1) acc mh → (loopC n chk p ft f env rest mh).wp Qd E := fun acc mh q => ih (i + 1) acc mh (fun k => by have := hr (k + 1); rw [List.getElem?_cons_succ] at this; rw [this]; congr 1; omega) (by simp at hl; omega) q
      unfold loopC
      rw [if_pos h1, h2]
      simp only
      rw [wp_bind, wp_nox]
      refine Res.wp_mono h3 (fun b h q => ?_) fun _ _ q => q.elim
      cases b with
      | false => exact next _ _ (q.2 rfl)
      | true =>
        simp only [if_true]
        rw [wp_bind, wp_nox]
        refine Res.wp_mono (q.1 rfl) (fun y h2 q2 => ?_) fun _ _ q => q.elim
        obtain ⟨a1, a2, a3⟩ := q2
        simp only [a1, if_pos a2]
        exact next _ _ a3
  exact go ds 0 acc0 mh (fun k => by rw [Nat.zero_add]) (by simp) h0
end
end Det
/-! Det, part T: the laws' pool; operations on known data. -/
namespace Det
open PySem
/-- nothing that stood is changed, but what is at p -/
def Fr (p : Nat) (mh mh' : MH) : Prop := mh.length ≤ mh'.length ∧ ∀ n, n < mh.length → n ≠ p → mh'[n]? = mh[n]?
theorem Fr.refl (p : Nat) (mh : MH) : Fr p mh mh := ⟨Nat.le_refl _, fun _ _ _ => rfl⟩
theorem Fr.trans {p : Nat} {a b c : MH} (h : Fr p a b) (k : Fr p b c) : Fr p a c := ⟨Nat.le_trans h.1 k.1, fun n hn hp => (k.2 n (Nat.lt_of_lt_of_le hn h.1) hp).trans (h.2 n hn hp)⟩
theorem Fr.get {p n : Nat} {a b : MH} {o : Ob} (h : Fr p a b) (e : a[n]? = some o) (hp : n ≠ p) : b[n]? = some o := (h.2 n (List.getElem?_eq_some_iff.mp e).1 hp).trans e
theorem Fr.push (p : Nat) (mh : MH) (o : Ob) : Fr p mh (mh ++ [o]) := ⟨by simp, fun n hn _ => List.getElem?_append_left hn⟩
theorem Fr.set (p : Nat) (mh : MH) (o : Ob) : Fr p mh (mh.set p o) := ⟨by simp, fun n _ hp => List.getElem?_set_ne (Ne.symm hp)⟩
/-- what was laid since a may change -/
theorem Fr.new {p n : Nat} {a b : MH} {o : Ob} (h : Fr p a b) (hn : a.length ≤ n) : Fr p a (b.set n o) := ⟨by simpa using h.1, fun m hm hp => by rw [List.getElem?_set_ne (by omega)]; exact h.2 m hm hp⟩
theorem Fr.add {p : Nat} {a b : MH} {o : Ob} (h : Fr p a b) : Fr p a (b ++ [o]) := h.trans (Fr.push p b o)
/-- the pool at p: its counts, its cells -/
def PoolAt (p : Nat) (mh : MH) : Prop := ∃ (a b c : Int) (q : Nat) (cells : List Int), mh[p]? = some (.lst [.int a, .int b, .int c, .ref q]) ∧ mh[q]? = some (.lst (cells.map .int)) ∧ q ≠ p ∧ 0 ≤ c ∧ cells.length ≤ 63
theorem PoolAt.lt {p : Nat} {mh : MH} (h : PoolAt p mh) : p < mh.length := by
  obtain ⟨_, _, _, _, _, h, _⟩ := h
  exact (List.getElem?_eq_some_iff.mp h).1
/-- the pool stands while other things are laid or changed -/
theorem PoolAt.push {p : Nat} {mh : MH} (h : PoolAt p mh) (o : Ob) : PoolAt p (mh ++ [o]) := by
  obtain ⟨a, b, c, q, cells, h1, h2, h3⟩ := h
  exact ⟨a, b, c, q, cells, by rw [List.getElem?_append_left (List.getElem?_eq_some_iff.mp h1).1]; exact h1, by rw [List.getElem?_append_left (List.getElem?_eq_some_iff.mp h2).1]; exact h2, h3⟩
/-- the pool and its cells are older than n -/
def PoolB (p n : Nat) (mh : MH) : Prop := p < n ∧ ∃ (a b c : Int) (q : Nat) (cells : List Int), q < n ∧ mh[p]? = some (.lst [.int a, .int b, .int c, .ref q]) ∧ mh[q]? = some (.lst (cells.map .int)) ∧ q ≠ p ∧ 0 ≤ c ∧ cells.length ≤ 63
theorem PoolB.push {p n : Nat} {mh : MH} (h : PoolB p n mh) (o : Ob) : PoolB p n (mh ++ [o]) := by
  obtain ⟨hp, a, b, c, q, cells, hq, h1, h2, h3⟩ := h
  exact ⟨hp, a, b, c, q, cells, hq, by rw [List.getElem?_append_left (List.getElem?_eq_some_iff.mp h1).1]; exact h1, by rw [List.getElem?_append_left (List.getElem?_eq_some_iff.mp h2).1]; exact h2, h3⟩
theorem PoolB.set {p n m : Nat} {mh : MH} (h : PoolB p n mh) (o : Ob) (hm : n ≤ m) : PoolB p n (mh.set m o) := by
  obtain ⟨hp, a, b, c, q, cells, hq, h1, h2, h3⟩ := h
  exact ⟨hp, a, b, c, q, cells, hq, by rw [List.getElem?_set_ne (by omega)]; exact h1, by rw [List.getElem?_set_ne (by omega)]; exact h2, h3⟩
theorem PoolB.mono {p n m : Nat} {mh : MH} (h : PoolB p n mh) (hm : n ≤ m) : PoolB p m mh := by
  obtain ⟨hp, a, b, c, q, cells, hq, r⟩ := h
  exact ⟨by omega, a, b, c, q, cells, by omega, r⟩
/-! ### operations on what is known -/
section
variable {mh : MH} {Q : D → MH → Prop} {i j : Int} {x y : Str} {xs ys : List D} {n : Nat}
@[simp] theorem o_add_i : oAdd (.int i) (.int j) mh = some (.int (i + j), mh) := rfl
@[simp] theorem o_sub_i : oSub (.int i) (.int j) mh = some (.int (i - j), mh) := rfl
@[simp] theorem o_eq_i : oEq (.int i) (.int j) mh = some (.bl (i == j), mh) := rfl
@[simp] theorem o_ne_i : oNe (.int i) (.int j) mh = some (.bl (!(i == j)), mh) := rfl
@[simp] theorem o_eq_s : oEq (.str x) (.str y) mh = some (.bl (x == y), mh) := rfl
@[simp] theorem o_ne_s : oNe (.str x) (.str y) mh = some (.bl (!(x == y)), mh) := rfl
@[simp] theorem o_int : oInt [.int i] mh = some (.int i, mh) := rfl
@[simp] theorem o_mod : owp (oMod (.int i) (.int j) mh) Q ↔ j ≠ 0 ∧ Q (.int (i.fmod j)) mh := by
  simp only [oMod]
  by_cases h : j ≠ 0
  · rw [if_pos h]; simp [h]
  · rw [if_neg h]; simp [h]
@[simp] theorem o_fdiv : owp (oFdiv (.int i) (.int j) mh) Q ↔ (j ≠ 0 ∧ j.natAbs < 1073741824) ∧ Q (.int (i.fdiv j)) mh := by
  simp only [oFdiv]
  by_cases h : j ≠ 0 ∧ j.natAbs < 1073741824
  · rw [if_pos h]; simp [h]
  · rw [if_neg h]; simp [h]
theorem owp_if {α : Type} {c : Prop} [Decidable c] {o : Option (α × MH)} {Q : α → MH → Prop} : owp (if c then o else none) Q ↔ c ∧ owp o Q := by
  by_cases h : c
  · rw [if_pos h]; exact ⟨fun q => ⟨h, q⟩, fun q => q.2⟩
  · rw [if_neg h]; exact ⟨(fun q => nomatch q), fun q => absurd q.1 h⟩
theorem o_mul : owp (oMulX (.int i) (.int j) mh) Q ↔ (((-(2 ^ 64) < i ∧ i < 2 ^ 64) ∨ (-(2 ^ 64) < j ∧ j < 2 ^ 64)) ∨ i.natAbs.log2 + j.natAbs.log2 < 1000000) ∧ Q (.int (i * j)) mh := by
  show owp (if _ then _ else none) Q ↔ _
  rw [owp_if, owp_some]
/-- * by a small number -/
theorem o_mul_r (h : -(2 ^ 64) < j ∧ j < 2 ^ 64) : owp (oMulX (.int i) (.int j) mh) Q ↔ Q (.int (i * j)) mh := by
  rw [o_mul]; exact ⟨fun q => q.2, fun q => ⟨.inl (.inr h), q⟩⟩
theorem o_mul_l (h : -(2 ^ 64) < i ∧ i < 2 ^ 64) : owp (oMulX (.int i) (.int j) mh) Q ↔ Q (.int (i * j)) mh := by
  rw [o_mul]; exact ⟨fun q => q.2, fun q => ⟨.inl (.inl h), q⟩⟩
@[simp] theorem o_pow (k : Int) : owp (oPow (.int i) (.int k) mh) Q ↔ (0 ≤ k ∧ k ≤ 1000000 ∧ i.natAbs < 2 ^ 64) ∧ Q (.int (i ^ k.toNat)) mh := by
  simp only [oPow]
  split
  · rename_i h; simp [h]
  · rename_i h; simp [h]
@[simp] theorem o_shl (k : Int) : owp (oShl (.int i) (.int k) mh) Q ↔ (0 ≤ k ∧ k ≤ 1000000 ∧ i.natAbs < 2 ^ 64) ∧ Q (.int (i * 2 ^ k.toNat)) mh := by
  simp only [oShl]
  split
  · rename_i h; simp [h]
  · rename_i h; simp [h]
@[simp] theorem o_lt_i : oLt (.int i) (.int j) mh = some (.bl (decide (i < j)), mh) := rfl
@[simp] theorem o_le_i : oLe (.int i) (.int j) mh = some (.bl (decide (i ≤ j)), mh) := rfl
@[simp] theorem o_gt_i : oGt (.int i) (.int j) mh = some (.bl (decide (i > j)), mh) := rfl
@[simp] theorem o_ge_i : oGe (.int i) (.int j) mh = some (.bl (decide (i ≥ j)), mh) := rfl
/-- the items of what is read -/
theorem o_ix {c : D} {ds : List D} {d : D} (h : itemsD mh c = some ds) (ha : L2.atI ds i = some d) : oIx c (.int i) mh = some (d, mh) := by
  cases c with
  | str z => simp [itemsD] at h
  | _ => simp [oIx, h, ha]
theorem o_ix_s {c : Nat} (hz : x.length ≤ sizeLine) (ha : L2.atI x.cps.toList i = some c) : oIx (.str x) (.int i) mh = some (.str ⟨#[c]⟩, mh) := by
  simp [oIx, hz, ha]
@[simp] theorem it_tup : itemsD mh (.tup xs) = some xs := rfl
@[simp] theorem it_rol : itemsD mh (.rol xs) = some xs := rfl
theorem it_ref (h : mh[n]? = some (.lst xs)) : itemsD mh (.ref n) = some xs := by simp [itemsD, h]
theorem atI_nat {α : Type} {l : List α} {k : Nat} : L2.atI l (k : Int) = l[k]? := by
  unfold L2.atI L2.ixN
  rw [if_pos (Int.natCast_nonneg k)]
  by_cases h : k < l.length
  · rw [if_pos (by exact_mod_cast h)]; rfl
  · rw [if_neg (by exact_mod_cast h)]; rw [List.getElem?_eq_none (by omega)]; rfl
theorem atI_of {α : Type} {l : List α} {k : Int} (h0 : 0 ≤ k) (h1 : k < l.length) : ∃ a, L2.atI l k = some a ∧ a ∈ l ∧ l[k.toNat]? = some a := by
  obtain ⟨m, rfl⟩ := Int.eq_ofNat_of_zero_le h0
  have hm : m < l.length := by exact_mod_cast h1
  exact ⟨l[m], by rw [atI_nat]; simp [hm], List.getElem_mem hm, by simp [hm]⟩
theorem ixN_of {n : Nat} {k : Int} (h0 : 0 ≤ k) (h1 : k < n) : L2.ixN n k = some k.toNat := by
  unfold L2.ixN; rw [if_pos h0, if_pos h1]
end
section
variable {mh : MH} {Q : D → MH → Prop} {i j : Int} {x y : Str} {xs ys : List D} {n : Nat}
@[simp] theorem ix_ref : owp (oIx (.ref n) (.int i) mh) Q ↔ ∃ xs, mh[n]? = some (.lst xs) ∧ ∃ d, L2.atI xs i = some d ∧ Q d mh := by
  simp only [oIx, itemsD]
  cases h : mh[n]? with
  | none => simp
  | some o =>
    cases o with
    | lst xs =>
      simp only [Option.some.injEq, Ob.lst.injEq, exists_eq_left']
      cases L2.atI xs i <;> simp
    | dk _ => simp
    | dt _ => simp
@[simp] theorem ix_tup : owp (oIx (.tup xs) (.int i) mh) Q ↔ ∃ d, L2.atI xs i = some d ∧ Q d mh := by
  simp only [oIx, itemsD]
  cases L2.atI xs i <;> simp
@[simp] theorem ix_rol : owp (oIx (.rol xs) (.int i) mh) Q ↔ ∃ d, L2.atI xs i = some d ∧ Q d mh := by
  simp only [oIx, itemsD]
  cases L2.atI xs i <;> simp
@[simp] theorem ix_str : owp (oIx (.str x) (.int i) mh) Q ↔ x.length ≤ sizeLine ∧ ∃ c, L2.atI x.cps.toList i = some c ∧ Q (.str ⟨#[c]⟩) mh := by
  simp only [oIx]
  rw [owp_if]
  cases L2.atI x.cps.toList i <;> simp
@[simp] theorem len_ref : owp (oLen [.ref n] mh) Q ↔ (∃ xs, mh[n]? = some (.lst xs) ∧ Q (.int (xs.length : Nat)) mh) ∨ (∃ xs, mh[n]? = some (.dk xs) ∧ Q (.int (xs.length : Nat)) mh) := by
  simp only [oLen, lenD]
  cases h : mh[n]? with
  | none => simp
  | some o => cases o <;> simp
@[simp] theorem len_tup : oLen [.tup xs] mh = some (.int (xs.length : Nat), mh) := rfl
@[simp] theorem len_rol : oLen [.rol xs] mh = some (.int (xs.length : Nat), mh) := rfl
@[simp] theorem len_str : owp (oLen [.str x] mh) Q ↔ x.length ≤ sizeLine ∧ Q (.int (x.length : Nat)) mh := by
  simp only [oLen, lenD]
  split
  · rename_i h; simp [h]
  · rename_i h; simp [h]
end
/-- atI on a written list -/
@[simp] theorem atI_0 {α : Type} {a : α} {l : List α} : L2.atI (a :: l) 0 = some a := by
  have := atI_nat (l := a :: l) (k := 0); simpa using this
theorem atI_s {α : Type} {a : α} {l : List α} {k : Nat} : L2.atI (a :: l) ((k + 1 : Nat) : Int) = L2.atI l (k : Nat) := by
  rw [atI_nat, atI_nat]; simp
@[simp] theorem atI_1 {α : Type} {a b : α} {l : List α} : L2.atI (a :: b :: l) 1 = some b := by
  have := atI_nat (l := a :: b :: l) (k := 1); simpa using this
@[simp] theorem atI_2 {α : Type} {a b c : α} {l : List α} : L2.atI (a :: b :: c :: l) 2 = some c := by
  have := atI_nat (l := a :: b :: c :: l) (k := 2); simpa using this
@[simp] theorem atI_3 {α : Type} {a b c d : α} {l : List α} : L2.atI (a :: b :: c :: d :: l) 3 = some d := by
  have := atI_nat (l := a :: b :: c :: d :: l) (k := 3); simpa using this
@[simp] theorem ixN_0 {n : Nat} : L2.ixN (n + 1) 0 = some 0 := by unfold L2.ixN; simp
@[simp] theorem ixN_1 {n : Nat} : L2.ixN (n + 1 + 1) 1 = some 1 := by unfold L2.ixN; simp; omega
@[simp] theorem ixN_2 {n : Nat} : L2.ixN (n + 1 + 1 + 1) 2 = some 2 := by unfold L2.ixN; simp; omega
@[simp] theorem ixN_3 {n : Nat} : L2.ixN (n + 1 + 1 + 1 + 1) 3 = some 3 := by unfold L2.ixN; simp; omega
theorem fmod_bd {i j : Int} (h : 0 < j) : 0 ≤ i.fmod j ∧ i.fmod j < j := ⟨Int.fmod_nonneg_of_pos i h, Int.fmod_lt_of_pos i h⟩
end Det
/-! Det, part U: sorted lists of texts; more operations on known data. -/
namespace Det
open PySem
/-! ### the order of texts -/
def leS (a b : Str) : Bool := decide (a.cps.toList ≤ b.cps.toList)
theorem leS_refl (a : Str) : leS a a = true := by unfold leS; simp
theorem leS_trans {a b c : Str} (h : leS a b = true) (k : leS b c = true) : leS a c = true := by
  unfold leS at *
  rw [decide_eq_true_eq] at *
  exact List.le_trans h k
theorem leS_total (a b : Str) : (leS a b || leS b a) = true := by
  unfold leS
  rw [Bool.or_eq_true, decide_eq_true_eq, decide_eq_true_eq]
  exact List.le_total _ _
theorem leS_anti {a b : Str} (h : leS a b = true) (k : leS b a = true) : a = b := by
  unfold leS at *
  rw [decide_eq_true_eq] at *
  have e := List.le_antisymm h k
  cases a; cases b
  simp only [Str.mk.injEq]
  exact Array.toList_inj.mp e
theorem ltS_iff (a b : Str) : ltS a b = !leS b a := by
  unfold ltS leS
  by_cases h : a.cps.toList < b.cps.toList
  · have h' : ¬ b.cps.toList ≤ a.cps.toList := fun q => List.not_lt.mpr q h
    simp [h, h']
  · have h' : b.cps.toList ≤ a.cps.toList := List.not_lt.mp h
    simp [h, h']
section
variable {α β : Type} {le : α → α → Bool}
theorem ins_map (f : β → α) (b : β) : ∀ l : List β, ins le (f b) (l.map f) = (ins (fun x y => le (f x) (f y)) b l).map f
  | [] => rfl
  | c :: l => by
    simp only [List.map_cons, ins]
    split
    · rfl
    · simp [ins_map f b l]
theorem isort_map (f : β → α) : ∀ l : List β, isort le (l.map f) = (isort (fun x y => le (f x) (f y)) l).map f
  | [] => rfl
  | b :: l => by simp only [List.map_cons, isort]; rw [isort_map f l, ins_map]
theorem ins_sorted (tr : ∀ a b c, le a b = true → le b c = true → le a c = true) (to : ∀ a b, (le a b || le b a) = true) (a : α) : ∀ l : List α, l.Pairwise (fun x y => le x y = true) → (ins le a l).Pairwise (fun x y => le x y = true)
  | [], _ => by simp [ins]
  | b :: l, h => by
    obtain ⟨h1, h2⟩ := List.pairwise_cons.mp h
    unfold ins
    split
    · rename_i hab
      refine List.pairwise_cons.mpr ⟨fun x hx => ?_, h⟩
      rcases List.mem_cons.mp hx with rfl | hx
      · exact hab
      · exact tr _ _ _ hab (h1 x hx)
    · rename_i hab
      have hba : le b a = true := by
        have := to a b
        rw [Bool.or_eq_true] at this
        exact this.resolve_left hab
      refine List.pairwise_cons.mpr ⟨fun x hx => ?_, ins_sorted tr to a l h2⟩
      rcases List.mem_cons.mp ((ins_perm a l).mem_iff.mp hx) with rfl | hx
      · exact hba
      · exact h1 x hx
theorem isort_sorted (tr : ∀ a b c, le a b = true → le b c = true → le a c = true) (to : ∀ a b, (le a b || le b a) = true) : ∀ l : List α, (isort le l).Pairwise (fun x y => le x y = true)
  | [] => List.Pairwise.nil
  | a :: l => ins_sorted tr to a _ (isort_sorted tr to l)
theorem isort_of_sorted : ∀ l : List α, l.Pairwise (fun x y => le x y = true) → isort le l = l
  | [], _ => rfl
  | a :: l, h => by
    obtain ⟨h1, h2⟩ := List.pairwise_cons.mp h
    show ins le a (isort le l) = _
    rw [isort_of_sorted l h2]
    cases l with
    | nil => rfl
    | cons b l => unfold ins; rw [if_pos (h1 b List.mem_cons_self)]
end
/-- sorted lists of the same members, each once, are one -/
theorem sorted_one {l₁ l₂ : List Str} (s1 : l₁.Pairwise (fun x y => leS x y = true)) (s2 : l₂.Pairwise (fun x y => leS x y = true)) (n1 : l₁.Nodup) (n2 : l₂.Nodup) (h : ∀ a, a ∈ l₁ ↔ a ∈ l₂) : l₁ = l₂ := by
  have p : l₁.Perm l₂ := (List.perm_ext_iff_of_nodup n1 n2).mpr h
  rw [← isort_of_sorted l₁ s1, ← isort_of_sorted l₂ s2]
  exact isort_perm (le := leS) (fun a b c h k => leS_trans h k) leS_total p fun a _ b _ h k => leS_anti h k
/-! ### the lot of a list of texts: sorted, each once -/
def dd (ys : List Str) : List Str → List Str
  | [] => ys
  | x :: xs => dd (if x ∈ ys then ys else ys ++ [x]) xs
theorem addKs_str : ∀ (xs ys : List Str), addKs (ys.map .inr) (xs.map .inr) = (dd ys xs).map .inr
  | [], ys => rfl
  | x :: xs, ys => by
    show addKs (addK (ys.map .inr) (.inr x)) (xs.map .inr) = _
    have e : addK (ys.map .inr) (.inr x) = ((if x ∈ ys then ys else ys ++ [x]).map .inr : List L2.Key) := by
      unfold addK
      by_cases h : x ∈ ys
      · rw [if_pos (List.mem_map.mpr ⟨x, h, rfl⟩), if_pos h]
      · rw [if_neg (fun z => by obtain ⟨y, hy, e⟩ := List.mem_map.mp z; cases e; exact h hy), if_neg h]; simp
    rw [e, addKs_str xs]
    rfl
theorem dd_mem : ∀ (xs ys : List Str) (a : Str), a ∈ dd ys xs ↔ a ∈ ys ∨ a ∈ xs
  | [], ys, a => by simp [dd]
  | x :: xs, ys, a => by
    unfold dd
    rw [dd_mem xs]
    split
    · rename_i h
      constructor
      · rintro (q | q)
        · exact .inl q
        · exact .inr (List.mem_cons_of_mem _ q)
      · rintro (q | q)
        · exact .inl q
        · rcases List.mem_cons.mp q with rfl | q
          · exact .inl h
          · exact .inr q
    · simp [or_assoc]
theorem dd_nodup : ∀ (xs ys : List Str), ys.Nodup → (dd ys xs).Nodup
  | [], ys, h => h
  | x :: xs, ys, h => by
    unfold dd
    refine dd_nodup xs _ ?_
    split
    · exact h
    · rename_i hx
      rw [List.nodup_append]
      exact ⟨h, by simp, fun a ha b hb e => by rw [List.mem_singleton] at hb; subst hb; subst e; exact hx ha⟩
def lotS (xs : List Str) : List Str := isort leS (dd [] xs)
theorem lotS_sorted (xs : List Str) : (lotS xs).Pairwise (fun x y => leS x y = true) := isort_sorted (le := leS) (fun a b c h k => leS_trans h k) leS_total _
theorem lotS_nodup (xs : List Str) : (lotS xs).Nodup := (isort_perm_self _).nodup_iff.mpr (dd_nodup xs [] List.nodup_nil)
theorem lotS_mem (xs : List Str) (a : Str) : a ∈ lotS xs ↔ a ∈ xs := by
  unfold lotS
  rw [(isort_perm_self _).mem_iff, dd_mem]; simp
theorem lotS_one {l xs : List Str} (s : l.Pairwise (fun x y => leS x y = true)) (n : l.Nodup) (h : ∀ a, a ∈ l ↔ a ∈ xs) : l = lotS xs := sorted_one s (lotS_sorted xs) n (lotS_nodup xs) fun a => (h a).trans (lotS_mem xs a).symm
theorem lotS_congr {xs ys : List Str} (h : ∀ a, a ∈ xs ↔ a ∈ ys) : lotS xs = lotS ys := lotS_one (lotS_sorted xs) (lotS_nodup xs) fun a => (lotS_mem xs a).trans (h a)
theorem lotS_lotS (xs : List Str) : lotS (lotS xs) = lotS xs := lotS_congr fun a => lotS_mem xs a
theorem keysOf_strs : ∀ xs : List Str, keysOf (xs.map .str) = some (xs.map .inr)
  | [] => rfl
  | x :: xs => by simp [keysOf, keysOf_strs xs, dKey]
theorem leK_leS : (fun x y : Str => leK (.inr x) (.inr y)) = leS := by
  funext x y; rw [leK_str]; rfl
theorem evenK_strs (xs : List Str) : evenK (xs.map .inr) = true := by
  unfold evenK
  rw [Bool.or_eq_true]
  refine .inr ?_
  rw [List.all_map]
  exact List.all_eq_true.mpr fun _ _ => rfl
/-- sorted(set(texts)) -/
theorem o_sset {c : D} {mh : MH} {xs : List Str} (h : itemsD mh c = some (xs.map .str)) (hl : xs.length ≤ 4000) : oSSet c mh = some (.ref mh.length, mh ++ [.lst ((lotS xs).map .str)]) := by
  unfold oSSet
  rw [h]
  simp only [keysOf_strs]
  rw [show addKs [] (xs.map .inr) = (dd [] xs).map .inr from addKs_str xs []]
  rw [if_pos ⟨by rw [List.length_map]; omega, evenK_strs _⟩, isort_map, leK_leS, List.map_map]
  rfl
theorem leD_str : (fun x y : Str => leD (.str x) (.str y)) = leS := by
  funext x y
  exact congrFun (congrFun (PySem.W.dataLe_str (fun x : Str => x)) x) y
theorem okSort_strs (xs : List Str) (h : xs.length ≤ sizeLine) : okSort (xs.map .str) = true := by
  unfold okSort
  rw [Bool.and_eq_true, Bool.and_eq_true, Bool.and_eq_true]
  refine ⟨⟨⟨?_, ?_⟩, ?_⟩, by rw [List.length_map]; exact decide_eq_true h⟩
  · rw [List.all_map]
    exact List.all_eq_true.mpr fun x _ => by simp [datD, datP, PyData.depth]
  · rw [List.all_map]
    refine List.all_eq_true.mpr fun x _ => ?_
    show (xs.map D.str).all _ = true
    rw [List.all_map]
    exact List.all_eq_true.mpr fun y _ => by simp [datD, datP, PySem.W.alike]
  · rw [Bool.or_eq_true]
    refine .inr ?_
    rw [List.all_map]
    exact List.all_eq_true.mpr fun x _ => by simp [datD, datP, notT]
theorem o_sorted_s {c : D} {mh : MH} {xs : List Str} (h : itemsD mh c = some (xs.map .str)) (hl : xs.length ≤ sizeLine) : oSorted [c] mh = some (.ref mh.length, mh ++ [.lst ((isort leS xs).map .str)]) := by
  unfold oSorted
  simp only [h, okSort_strs xs hl, if_true, isort_map, leD_str]
end Det
/-! Det, part V: what is walked, texts, built-ins on known data. -/
namespace Det
open PySem
section
variable {mh : MH} {env : Nv} {E : Exn → MH → Prop} {f g : ME} {Qi : ItD → MH → Prop} {Q : D → MH → Prop} {n : Nat} {xs ys : List D} {x y : Str}
@[simp] theorem wp_range1 : (range1 f env mh).wp Qi E ↔ (f env mh).wp (fun d h => ∃ j, d = .int j ∧ okB j = true ∧ Qi ⟨rgD 0 j.toNat, fun _ => true⟩ h) E := wp_bind_iff fun d h => by
  cases d with
  | int j => exact wp_if_no.trans (by simp)
  | _ => simp
@[simp] theorem wp_range2 : (range2 f g env mh).wp Qi E ↔ (f env mh).wp (fun d h => (g env h).wp (fun e h2 => ∃ i j, d = .int i ∧ e = .int j ∧ (okB i = true ∧ okB j = true) ∧ Qi ⟨rgD i (j - i).toNat, fun _ => true⟩ h2) E) E := wp_bind_iff fun d h => wp_bind_iff fun e h2 => by
  cases d with
  | int i =>
    cases e with
    | int j => exact wp_if_no.trans (by simp)
    | _ => simp
  | _ => cases e <;> simp
theorem okB_of {i : Int} (h1 : -1000000000000 ≤ i) (h2 : i ≤ 1000000000000) : okB i = true := by
  unfold okB
  rw [decide_eq_true_eq]
  omega
@[simp] theorem rgD_len {lo : Int} : (rgD lo n).length = n := by simp [rgD]
theorem rgD_get {lo : Int} {i : Nat} {d : D} (h : (rgD lo n)[i]? = some d) : i < n ∧ d = .int (lo + (i : Nat)) := by
  have hi := (List.getElem?_eq_some_iff.mp h).1
  rw [rgD_len] at hi
  refine ⟨hi, ?_⟩
  simp [rgD, hi] at h
  exact h.symm
@[simp] theorem wp_iter : (iter f env mh).wp Qi E ↔ (f env mh).wp (fun d h => ∃ it, itD d h = some it ∧ Qi it h) E := wp_bind_iff fun d h => by cases itD d h <;> simp
@[simp] theorem itD_tup : itD (.tup xs) mh = some ⟨xs, fun _ => true⟩ := rfl
@[simp] theorem itD_rol : itD (.rol xs) mh = some ⟨xs, fun _ => true⟩ := rfl
@[simp] theorem itD_str : itD (.str x) mh = some ⟨sigs x, fun _ => true⟩ := rfl
theorem itD_ref (h : mh[n]? = some (.lst xs)) : itD (.ref n) mh = some ⟨xs, lstIs n xs⟩ := by simp [itD, h]
theorem lstIs_of (h : mh[n]? = some (.lst xs)) : lstIs n xs mh = true := by simp [lstIs, h]
def enD (d : D) (mh : MH) : Option ItD := match d with
  | .tup xs => some ⟨enF 0 xs, fun _ => true⟩
  | .rol xs => some ⟨enF 0 xs, fun _ => true⟩
  | .ref n => match mh[n]? with
    | some (.lst xs) => some ⟨enF 0 xs, lstIs n xs⟩
    | _ => none
  | _ => none
theorem enm_eq : enm f env mh = (f env mh).bind fun d m => match enD d m with | some it => .ok it m | none => .no := by
  unfold enm
  congr 1
  funext d m
  cases d with
  | ref n =>
    simp only [enD]
    cases m[n]? with
    | none => rfl
    | some o => cases o <;> rfl
  | _ => rfl
@[simp] theorem wp_enm : (enm f env mh).wp Qi E ↔ (f env mh).wp (fun d h => ∃ it, enD d h = some it ∧ Qi it h) E := by
  rw [enm_eq]
  exact wp_bind_iff fun d h => by cases enD d h <;> simp
@[simp] theorem enD_tup : enD (.tup xs) mh = some ⟨enF 0 xs, fun _ => true⟩ := rfl
/-! ### texts -/
@[simp] theorem o_add_s : owp (oAdd (.str x) (.str y) mh) Q ↔ x.length + y.length ≤ sizeLine ∧ Q (.str (x ++ y)) mh := by
  show owp (if _ then _ else none) Q ↔ _
  rw [owp_if, owp_some]
@[simp] theorem o_add_t : owp (oAdd (.tup xs) (.tup ys) mh) Q ↔ xs.length + ys.length ≤ sizeLine ∧ Q (.tup (xs ++ ys)) mh := by
  show owp (if _ then _ else none) Q ↔ _
  rw [owp_if, owp_some]
theorem o_add_l {m : Nat} (h1 : mh[m]? = some (.lst xs)) (h2 : mh[n]? = some (.lst ys)) (h : xs.length + ys.length ≤ sizeLine) : oAdd (.ref m) (.ref n) mh = some (.ref mh.length, mh ++ [.lst (xs ++ ys)]) := by
  simp [oAdd, h1, h2, h]
theorem o_mul_t {k : Int} (h1 : 0 ≤ k) (h2 : k ≤ 1000) (h3 : xs.length ≤ 1000) : oMulX (.tup xs) (.int k) mh = some (.tup (List.replicate k.toNat xs).flatten, mh) := by
  simp only [oMulX]
  rw [if_pos ⟨by omega, h2, h3⟩]
theorem rep1 {α : Type} (a : α) : ∀ k : Nat, (List.replicate k [a]).flatten = List.replicate k a
  | 0 => rfl
  | k + 1 => by rw [List.replicate_succ, List.flatten_cons, rep1 a k]; rfl
def mnS (x y : Str) : Str := if ltS y x = true then y else x
def mxS (x y : Str) : Str := if ltS x y = true then y else x
@[simp] theorem o_min_s : oMin2 [.str x, .str y] mh = some (.str (mnS x y), mh) := rfl
@[simp] theorem o_max_s : oMax2 [.str x, .str y] mh = some (.str (mxS x y), mh) := rfl
@[simp] theorem o_min_i {i j : Int} : oMin2 [.int i, .int j] mh = some (.int (if j < i then j else i), mh) := rfl
@[simp] theorem o_max_i {i j : Int} : oMax2 [.int i, .int j] mh = some (.int (if j > i then j else i), mh) := rfl
theorem hasF_strs : ∀ l : List Str, hasF (.str x) (l.map .str) = decide (x ∈ l)
  | [] => by simp [hasF]
  | y :: l => by
    have ih := hasF_strs l
    unfold hasF at ih ⊢
    rw [List.map_cons, List.any_cons, ih]
    have : eqF (.str y) (.str x) = decide (x = y) := by
      show (y == x) = _
      by_cases h : x = y
      · subst h; simp
      · rw [decide_eq_false h]; exact beq_eq_false_iff_ne.mpr fun e => h e.symm
    rw [this]
    by_cases h1 : x = y <;> by_cases h2 : x ∈ l <;> simp [h1, h2]
theorem inD_strs {c : D} {l : List Str} (h : itemsD mh c = some (l.map .str)) : inD mh (.str x) c = some (decide (x ∈ l)) := by
  have hf : flatD (.str x) = true ∧ (l.map D.str).all flatD = true := ⟨rfl, by rw [List.all_map]; exact List.all_eq_true.mpr fun _ _ => rfl⟩
  cases c with
  | str z => simp [itemsD] at h
  | _ => simp only [inD, h, if_pos hf, hasF_strs]
theorem o_in_s {c : D} {l : List Str} (h : itemsD mh c = some (l.map .str)) : oIn (.str x) c mh = some (.bl (decide (x ∈ l)), mh) := by
  unfold oIn; rw [inD_strs h]; rfl
theorem o_notIn_s {c : D} {l : List Str} (h : itemsD mh c = some (l.map .str)) : oNotIn (.str x) c mh = some (.bl (!decide (x ∈ l)), mh) := by
  unfold oNotIn; rw [inD_strs h]; rfl
/-! ### tuple(xs), list(xs), isinstance -/
@[simp] theorem o_tuple {c : D} : owp (oTuple [c] mh) Q ↔ ∃ ds, itemsD mh c = some ds ∧ Q (.tup ds) mh := by
  simp only [oTuple]
  cases itemsD mh c <;> simp
@[simp] theorem o_list {c : D} : owp (oList [c] mh) Q ↔ ∃ ds, itemsD mh c = some ds ∧ Q (.ref mh.length) (mh ++ [.lst ds]) := by
  simp only [oList]
  cases itemsD mh c <;> simp
@[simp] theorem items_ref {ds : List D} : itemsD mh (.ref n) = some ds ↔ mh[n]? = some (.lst ds) := by
  simp only [itemsD]
  cases h : mh[n]? with
  | none => simp
  | some o => cases o <;> simp
@[simp] theorem tru_bl {b : Bool} : truD (.bl b) mh = some b := rfl
@[simp] theorem wp_popAt : (popAt f g env mh).wp Q E ↔ (f env mh).wp (fun o h => ∃ n, o = .ref n ∧ (∃ ys, h[n]? = some (.lst ys)) ∧ (g env h).wp (fun d h2 => ∃ i xs k y, d = .int i ∧ h2[n]? = some (.lst xs) ∧ (-(2 ^ 63) ≤ i ∧ i < 2 ^ 63) ∧ seqIndex? i xs.length = some k ∧ xs[k]? = some y ∧ Q y (h2.set n (.lst (xs.eraseIdx k)))) E) E := wp_bind_iff fun o h => by
  cases o with
  | ref n =>
    simp only [D.ref.injEq, exists_eq_left']
    have inner : ∀ (d : D) (h2 : MH), (match d, h2[n]? with
      | .int i, some (.lst xs) => if -(2 ^ 63) ≤ i ∧ i < 2 ^ 63 then (match seqIndex? i xs.length with
        | some k => (match xs[k]? with
          | some y => Res.ok y (h2.set n (.lst (xs.eraseIdx k)))
          | none => Res.no)
        | none => Res.no) else Res.no
      | _, _ => Res.no).wp Q E ↔ ∃ i xs k y, d = .int i ∧ h2[n]? = some (.lst xs) ∧ (-(2 ^ 63) ≤ i ∧ i < 2 ^ 63) ∧ seqIndex? i xs.length = some k ∧ xs[k]? = some y ∧ Q y (h2.set n (.lst (xs.eraseIdx k))) := fun d h2 => by
      cases d with
      | int i =>
        cases h2[n]? with
        | none => simp
        | some ob =>
          cases ob with
          | lst xs =>
            refine wp_if_no.trans ?_
            cases hk : seqIndex? i xs.length with
            | none => simp [hk]
            | some k =>
              simp only
              cases hy : xs[k]? with
              | none => simp [hk, hy]
              | some y => simp [hk, hy]
          | dk _ => simp
          | dt _ => simp
      | _ => simp
    cases hn : h[n]? with
    | none => simp
    | some ob =>
      cases ob with
      | lst ys => exact (wp_bind_iff inner).trans (by simp)
      | dk _ => simp
      | dt _ => simp
  | _ => simp
theorem seqIx_of {i : Int} {k : Nat} (h0 : 0 ≤ i) (h1 : i < k) : seqIndex? i k = some i.toNat := by
  unfold seqIndex?
  have h2 : ¬ i < 0 := by omega
  simp [h2, h0, h1]
/-- things were laid behind -/
def Pre (mh mh' : MH) : Prop := ∃ t, mh' = mh ++ t
theorem Pre.refl (mh : MH) : Pre mh mh := ⟨[], by simp⟩
theorem Pre.trans {a b c : MH} (h : Pre a b) (k : Pre b c) : Pre a c := by
  obtain ⟨s, rfl⟩ := h; obtain ⟨t, rfl⟩ := k; exact ⟨s ++ t, by simp⟩
theorem Pre.push (mh : MH) (o : Ob) : Pre mh (mh ++ [o]) := ⟨[o], rfl⟩
theorem Pre.add {a b : MH} (h : Pre a b) (o : Ob) : Pre a (b ++ [o]) := h.trans (Pre.push b o)
theorem Pre.le {a b : MH} (h : Pre a b) : a.length ≤ b.length := by obtain ⟨t, rfl⟩ := h; simp
theorem Pre.get {a b : MH} {n : Nat} {o : Ob} (h : Pre a b) (e : a[n]? = some o) : b[n]? = some o := by
  obtain ⟨t, rfl⟩ := h
  rw [List.getElem?_append_left (List.getElem?_eq_some_iff.mp e).1]; exact e
theorem Pre.new {a b : MH} {n : Nat} {o : Ob} (h : Pre a b) (hn : a.length ≤ n) : Pre a (b.set n o) := by
  obtain ⟨t, rfl⟩ := h
  rw [List.set_append_right _ _ hn]
  exact ⟨_, rfl⟩
theorem Pre.fr {a b : MH} (h : Pre a b) (p : Nat) : Fr p a b := by
  obtain ⟨t, rfl⟩ := h
  exact ⟨by simp, fun n hn _ => List.getElem?_append_left hn⟩
theorem Pre.pool {a b : MH} {p n : Nat} (h : Pre a b) (k : PoolB p n a) : PoolB p n b := by
  obtain ⟨hp, x, y, c, q, cells, hq, h1, h2, h3⟩ := k
  exact ⟨hp, x, y, c, q, cells, hq, h.get h1, h.get h2, h3⟩
theorem Pre.items {a b : MH} {c : D} {ds : List D} (h : Pre a b) (e : itemsD a c = some ds) : itemsD b c = some ds := by
  cases c with
  | ref n =>
    rw [items_ref] at e ⊢
    exact h.get e
  | _ => exact e
theorem seq_cut {s t : MS} {O : Po} {env : Nv} {mh : MH} (I : Nv → MH → Prop) (h1 : (s env mh).wp { O with nx := I }) (h2 : ∀ e h, I e h → (t e h).wp O) : (sq s t env mh).wp O := by
  rw [wp_sq]
  exact SRes.wp_mono h1 h2 (fun _ _ q => q) (fun _ _ q => q) (fun _ _ q => q) fun _ _ _ q => q
end
end Det
namespace K03
open PySem Det
theorem pick_ok {p n : Nat} {mh : MH} {many : Int} {Q : D → MH → Prop} {E : Exn → MH → Prop} (hp : PoolB p n mh) (h1 : 0 < many) (h2 : many < 1000000000)
    (hq : ∀ r mh', 0 ≤ r → r < many → PoolB p n mh' → Fr p mh mh' → mh'.length = mh.length → Q (.int r) mh') : (m__law_pick [.ref p, .int many] mh).wp Q E := by
  obtain ⟨hpn, a, b, c, q, cells, hqn, h3, h4, h5, h6, h7⟩ := hp
  have hpl : p < mh.length := (List.getElem?_eq_some_iff.mp h3).1
  have h8 : many ≠ 0 := by omega
  have h9 : many.natAbs < 1073741824 := by omega
  have fin : ∀ (k a b c : Int), 0 ≤ c → Q (.int (k.fmod many)) (mh.set p (.lst [.int a, .int b, .int c, .ref q])) := fun k a b c hc => by
    have := fmod_bd (i := k) h1
    refine hq _ _ this.1 this.2 ⟨hpn, a, b, c, q, cells, hqn, by simp [hpl], by rw [List.getElem?_set_ne (Ne.symm h5)]; exact h4, h5, hc, h7⟩ (Fr.set p mh _) (by simp)
  unfold m__law_pick
  have hs : ∀ o, (mh.set p o)[p]? = some o := fun o => List.getElem?_set_self hpl
  have hs2 : ∀ o, (mh.set p o)[q]? = some (.lst (cells.map .int)) := fun o => by rw [List.getElem?_set_ne (Ne.symm h5)]; exact h4
  clear hpl
  have ml : ∀ (i j : Int) (mh : MH) (Q : D → MH → Prop), -(2 ^ 64) < j ∧ j < 2 ^ 64 → (owp (oMulX (.int i) (.int j) mh) Q ↔ Q (.int (i * j)) mh) := fun i j mh Q h => o_mul_r h
  by_cases hA : a = 0 ∧ c < cells.length
  · obtain ⟨rfl, hc⟩ := hA
    obtain ⟨m, rfl⟩ := Int.eq_ofNat_of_zero_le h6
    have hm : m < cells.length := by exact_mod_cast hc
    have hm2 : ¬ cells.length ≤ m := by omega
    by_cases hB : cells[m] ≥ 1000000000000000000
    · have hB2 : cells[m] > 0 := by omega
      have hB3 : ¬ cells[m] ≤ 0 := by omega
      simp [h3, h4, hs, hs2, atI_nat, hm, hm2, ml, h8, h9, hB, hB2, hB3]
      exact fin _ _ _ _ (by omega)
    · have hB3 : cells[m] < 1000000000000000000 := by omega
      simp [h3, h4, hs, hs2, atI_nat, hm, hm2, ml, h8, h9, hB, hB3]
      exact fin _ _ _ _ (by omega)
  · have hA' : a = 0 → ¬ c < cells.length := fun e z => hA ⟨e, z⟩
    by_cases h0 : a = 0
    · subst h0
      have hc := hA' rfl
      have hc2 : (cells.length : Int) ≤ c := by omega
      simp [h3, h4, hs, hs2, ml, h8, h9, hc, hc2]
      exact fin _ _ _ _ (by omega)
    · by_cases hB : a > 0
      · have hB2 : ¬ a ≤ 0 := by omega
        simp [h3, h4, hs, hs2, ml, h8, h9, h0, hB, hB2]
        exact fin _ _ _ _ (by omega)
      · have hB2 : a ≤ 0 := by omega
        simp [h3, h4, hs, hs2, ml, h8, h9, h0, hB, hB2]
        exact fin _ _ _ _ (by omega)
end K03
namespace K03
open PySem Det
theorem bl_cases {b : Bool} {P R : Prop} (h1 : P) (h2 : R) : (D.bl b = D.bl false ∧ P) ∨ D.bl b = D.bl true ∧ R := by
  cases b
  · exact .inl ⟨rfl, h1⟩
  · exact .inr ⟨rfl, h2⟩
/-- a sign of a written text -/
theorem sign_ix {s : Str} {r : Int} {k : Nat} {mh : MH} {Q : D → MH → Prop} (hs : s.length = k) (hk : k ≤ 100) (h0 : 0 ≤ r) (h1 : r < k) (hq : ∀ c : Nat, Q (.str ⟨#[c]⟩) mh) : owp (oIx (.str s) (.int r) mh) Q := by
  rw [ix_str]
  have : s.cps.toList.length = k := by rw [← hs]; simp [Str.length]
  obtain ⟨c, hc, _⟩ := atI_of (l := s.cps.toList) h0 (by rw [this]; exact h1)
  have hz : (100 : Nat) ≤ sizeLine := by decide
  exact ⟨by omega, c, hc, hq c⟩
abbrev sg36 : Str := Str.ofString "abcdefghijklmnopqrstuvwxyz" ++ Str.ofString "0123456789"
theorem sg36_len : sg36.length = 36 := by decide
theorem grow_loop {p n k : Nat} {mh : MH} {L : D} {t : Str} {v : Option D} {O : Po} (hp : PoolB p n mh) (ht : t.length + k ≤ 100)
    (hq : ∀ (t' : Str) v' mh', t'.length = t.length + k → PoolB p n mh' → Fr p mh mh' → mh'.length = mh.length → O.nx [some (.ref p), some L, some (.str sg36), some (.str t'), v'] mh') :
    (loopF (fun _ => true) (Pat.nm 4) (sst 3 (bi oAdd (vr 3) (bi oIx (vr 2) (cal 2 m__law_pick (acons (vr 0) (acons (kn (D.int 36)) anil)))))) (rgD 0 k) [some (.ref p), some L, some (.str sg36), some (.str t), v] mh).wp O := by
  refine loop_wp (fun i env m => ∃ (t' : Str) (v' : Option D), env = [some (.ref p), some L, some (.str sg36), some (.str t'), v'] ∧ t'.length = t.length + i ∧ PoolB p n m ∧ Fr p mh m ∧ m.length = mh.length) ⟨t, v, rfl, rfl, hp, Fr.refl p mh, rfl⟩ ?_ ?_
  · rintro i d env m hd ⟨t', v', rfl, ht', hp', f', l'⟩
    refine ⟨rfl, _, rfl, ?_⟩
    obtain ⟨hi, rfl⟩ := rgD_get hd
    simp
    refine pick_ok hp' (by decide) (by decide) fun r m2 r0 r1 hp2 f2 l2 => ?_
    refine sign_ix (k := 36) sg36_len (by decide) r0 r1 fun c => ?_
    have hc : (⟨#[c]⟩ : Str).length = 1 := rfl
    have hz : (1000 : Nat) ≤ sizeLine := by decide
    simp
    exact ⟨by omega, by rw [Str.length_append, hc, ht']; omega, hp2, f'.trans f2, l2.trans l'⟩
  · rintro env m ⟨t', v', rfl, ht', hp', f', l'⟩
    rw [rgD_len] at ht'
    exact ⟨rfl, hq t' v' m ht' hp' f' l'⟩
theorem word_ok {p n : Nat} {mh : MH} {Q : D → MH → Prop} {E : Exn → MH → Prop} (hp : PoolB p n mh)
    (hq : ∀ (x : Str) mh', x.length ≤ 30 → PoolB p n mh' → Fr p mh mh' → mh'.length = mh.length → Q (.str x) mh') : (m__law_word [.ref p] mh).wp Q E := by
  have hz : (1000 : Nat) ≤ sizeLine := by decide
  unfold m__law_word
  simp
  refine ⟨by decide, pick_ok hp (by decide) (by decide) fun r mh1 r0 r1 hp1 f1 l1 => ?_⟩
  refine sign_ix (k := 26) (by decide) (by decide) r0 r1 fun c => ?_
  refine pick_ok hp1 (by decide) (by decide) fun a mh2 a0 a1 hp2 f2 l2 => ?_
  refine pick_ok hp2 (by decide) (by decide) fun b mh3 b0 b1 hp3 f3 l3 => ?_
  rw [o_mul_r (by omega)]
  have hab : 0 ≤ a * b ∧ a * b ≤ 6 := by
    have h1 : a = 0 ∨ a = 1 ∨ a = 2 := by omega
    rcases h1 with rfl | rfl | rfl <;> omega
  refine ⟨_, rfl, okB_of (by omega) (by omega), ?_⟩
  have hc : (⟨#[c]⟩ : Str).length = 1 := rfl
  refine grow_loop hp3 (by rw [hc]; omega) fun t v mh4 lt hp4 f4 l4 => ?_
  have lt2 : t.length ≤ 7 := by rw [lt, hc]; omega
  have F4 : Fr p mh mh4 := (((f1.trans f2).trans f3).trans f4)
  have L4 : mh4.length = mh.length := by rw [l4, l3, l2, l1]
  -- the end: a word that is a word of the text's
  have fin : ∀ (t : Str) (m : MH), t.length ≤ 30 → PoolB p n m → Fr p mh m → m.length = mh.length →
      owp (oIn (.str t) (D.tup [D.str (Str.ofString "node"), D.str (Str.ofString "link"), D.str (Str.ofString "monitor"), D.str (Str.ofString "given"), D.str (Str.ofString "read"), D.str (Str.ofString "row"), D.str (Str.ofString "bundle"), D.str (Str.ofString "free"), D.str (Str.ofString "told"), D.str (Str.ofString "tree"), D.str (Str.ofString "o"), D.str (Str.ofString "w")]) m)
        (fun a h => (a = D.bl false ∧ Q (.str t) h) ∨ a = D.bl true ∧ Q (D.str (Str.ofString "u4")) h) := by
    intro t m h1 h2 h3 h4
    rw [o_in_s (l := [Str.ofString "node", Str.ofString "link", Str.ofString "monitor", Str.ofString "given", Str.ofString "read", Str.ofString "row", Str.ofString "bundle", Str.ofString "free", Str.ofString "told", Str.ofString "tree", Str.ofString "o", Str.ofString "w"]) rfl]
    rw [owp_some]
    exact bl_cases (hq t m h1 h2 h3 h4) (hq _ m (by decide) h2 h3 h4)
  simp
  refine pick_ok hp4 (by decide) (by decide) fun d mh5 d0 d1 hp5 f5 l5 => ?_
  simp
  by_cases hd : d = 0
  · refine .inr ⟨hd, by have : (Str.ofString ".").length = 1 := rfl; omega, ?_⟩
    refine pick_ok hp5 (by decide) (by decide) fun a mh6 a0 a1 hp6 f6 l6 => ?_
    refine pick_ok hp6 (by decide) (by decide) fun b mh7 b0 b1 hp7 f7 l7 => ?_
    rw [o_mul_r (by omega)]
    simp
    have hab : 0 ≤ a * b ∧ a * b ≤ 7 := by
      have h1 : a = 0 ∨ a = 1 := by omega
      rcases h1 with rfl | rfl <;> omega
    refine ⟨okB_of (by omega) (by omega), ?_⟩
    have l1' : (t ++ Str.ofString ".").length = t.length + 1 := Str.length_append _ _
    refine grow_loop hp7 (by omega) fun t2 v2 mh8 lt3 hp8 f8 l8 => ?_
    simp
    exact ⟨by omega, fin t2 mh8 (by omega) hp8 ((((F4.trans f5).trans f6).trans f7).trans f8) (by rw [l8, l7, l6, l5, L4])⟩
  · exact .inl ⟨hd, by omega, fin t mh5 (by omega) hp5 (F4.trans f5) (l5.trans L4)⟩
end K03
namespace K03
open PySem Det
def yS (j : Nat) : Str := Str.ofString "y" ++ ((toString (j : Int) : String) : Str)
theorem yS_len : ∀ j : Nat, j < 61 → (yS j).length ≤ 30 := by decide +kernel
theorem yS_inj : ∀ i : Nat, i < 61 → ∀ j : Nat, j < 61 → yS i = yS j → i = j := by decide +kernel
theorem yS_free {ws : List Str} {m : Nat} (hm : m ≤ 60) (hl : ws.length ≤ m) (h : ∀ j, j < m + 1 → yS j ∈ ws) : False := by
  have hn : ((List.range (m + 1)).map yS).Nodup := by
    rw [List.nodup_iff_pairwise_ne, List.pairwise_map]
    refine List.Pairwise.imp_of_mem (R := fun a b => a ≠ b) (fun {a b} ha hb hab e => hab (yS_inj a (by have := List.mem_range.mp ha; omega) b (by have := List.mem_range.mp hb; omega) e)) ?_
    exact List.nodup_iff_pairwise_ne.mp List.nodup_range
  have := hn.length_le_of_subset (l₂ := ws) fun a ha => by
    obtain ⟨j, hj, rfl⟩ := List.mem_map.mp ha
    exact h j (List.mem_range.mp hj)
  simp at this
  omega
theorem strs_pool {p o : Nat} {n : Nat} {mh : MH} {os : List Str} (hp : PoolB p n mh) (ho : mh[o]? = some (.lst (os.map .str))) : o ≠ p := by
  rintro rfl
  obtain ⟨_, a, b, c, q, cells, _, h, _⟩ := hp
  rw [h] at ho
  cases os with
  | nil => simp at ho
  | cons x os => simp at ho
theorem words_ok {p n o m : Nat} {os : List Str} {mh : MH} {Q : D → MH → Prop} {E : Exn → MH → Prop} (hp : PoolB p n mh) (hn : n ≤ mh.length) (ho : mh[o]? = some (.lst (os.map .str))) (hos : ∀ x ∈ os, x.length ≤ 30) (hol : os.length ≤ 1000) (hm : m ≤ 60)
    (hq : ∀ (ws : List Str) mh', ws.Nodup → ws.length = m → (∀ w ∈ ws, w.length ≤ 30) → PoolB p n mh' → Fr p mh mh' → mh'[mh.length]? = some (.lst (ws.map .str)) → Q (.ref mh.length) mh') : (m__law_words [.ref p, .int (m : Nat), .ref o] mh).wp Q E := by
  have hz : (1000 : Nat) ≤ sizeLine := by decide
  unfold m__law_words
  simp
  refine ⟨okB_of (by omega) (by omega), ?_⟩
  refine loop_wp (fun i env h => ∃ (ws : List Str) (v4 v5 v6 : Option D), env = [some (.ref p), some (.int (m : Nat)), some (.ref o), some (.ref mh.length), v4, v5, v6] ∧ ws.Nodup ∧ ws.length = i ∧ (∀ w ∈ ws, w.length ≤ 30) ∧ PoolB p n h ∧ Fr p mh h ∧ h[mh.length]? = some (.lst (ws.map .str)))
    ⟨[], _, _, _, rfl, List.nodup_nil, rfl, by simp, hp.push _, Fr.push p mh _, by simp⟩ ?_ ?_
  · rintro i d env h hd ⟨ws, v4, v5, v6, rfl, nd, hl, hw, hp', f', hL⟩
    obtain ⟨hi, rfl⟩ := rgD_get hd
    refine ⟨rfl, _, rfl, ?_⟩
    have oL : o < mh.length := (List.getElem?_eq_some_iff.mp ho).1
    have op := strs_pool hp ho
    have hpL : p < mh.length := Nat.lt_of_lt_of_le hp.1 hn
    let J (R : Str → Prop) (e : Nv) (h : MH) : Prop := ∃ (w : Str) (v6 : Option D), e = [some (.ref p), some (.int (m : Nat)), some (.ref o), some (.ref mh.length), some (.int (0 + (i : Nat))), some (.str w), v6] ∧ R w ∧ w.length ≤ 30 ∧ PoolB p n h ∧ Fr p mh h ∧ h[mh.length]? = some (.lst (ws.map .str))
    refine seq_cut (J fun _ => True) ?_ ?_
    · simp
      refine word_ok hp' fun x h2 hx hp2 f2 l2 => ?_
      exact ⟨x, v6, by simp, trivial, hx, hp2, f'.trans f2, f2.get hL (by omega)⟩
    rintro e h ⟨w, v6, rfl, _, hwl, hp', f', hL⟩
    refine seq_cut (J fun _ => True) ?_ ?_
    · have same : J (fun _ => True) [some (.ref p), some (.int (m : Nat)), some (.ref o), some (.ref mh.length), some (.int (0 + (i : Nat))), some (.str w), v6] h := ⟨w, v6, rfl, trivial, hwl, hp', f', hL⟩
      simp [f'.get ho op]
      by_cases h0 : os = []
      · exact .inl ⟨h0, by simpa using same⟩
      · have h1 : 0 < os.length := List.length_pos_iff.mpr h0
        refine .inr ⟨h1, pick_ok hp' (by decide) (by decide) fun r h2 r0 r1 hp2 f2 l2 => ?_⟩
        have same : J (fun _ => True) [some (.ref p), some (.int (m : Nat)), some (.ref o), some (.ref mh.length), some (.int (0 + (i : Nat))), some (.str w), v6] h2 := ⟨w, v6, rfl, trivial, hwl, hp2, f'.trans f2, f2.get hL (by omega)⟩
        simp [(f'.trans f2).get ho op]
        by_cases hr : r = 0
        · refine .inr ⟨hr, pick_ok hp2 (by omega) (by omega) fun r h3 r0 r1 hp3 f3 l3 => ?_⟩
          obtain ⟨x, hx, hxm, _⟩ := atI_of (l := os.map D.str) r0 (by simpa using r1)
          obtain ⟨y, hy, rfl⟩ := List.mem_map.mp hxm
          simp [((f'.trans f2).trans f3).get ho op, hx]
          exact ⟨y, v6, by simp, trivial, hos y hy, hp3, (f'.trans f2).trans f3, (f2.trans f3).get hL (by omega)⟩
        · exact .inl ⟨hr, by simpa using same⟩
    rintro e h ⟨w, v6, rfl, _, hwl, hp', f', hL⟩
    refine seq_cut (J fun w => w ∉ ws) ?_ ?_
    · simp
      rw [o_in_s (l := ws) (by simpa using hL)]
      simp
      by_cases hin : w ∈ ws
      · refine .inr ⟨hin, okB_of (by omega) (by omega), ?_⟩
        refine loop_wp (fun k e h2 => h2 = h ∧ ∃ (w : Str) (v6 : Option D), e = [some (.ref p), some (.int (m : Nat)), some (.ref o), some (.ref mh.length), some (.int (i : Nat)), some (.str w), v6] ∧ ∀ j, j < k → yS j ∈ ws) ⟨rfl, w, v6, rfl, fun j hj => absurd hj (Nat.not_lt_zero j)⟩ ?_ ?_
        · rintro k d e h2 hd ⟨rfl, w, v6, rfl, hk⟩
          obtain ⟨hkm, rfl⟩ := rgD_get hd
          refine ⟨rfl, _, rfl, ?_⟩
          have hkm : k < m + 1 := by simpa using hkm
          have ho : oStr [.int (k : Nat)] h2 = some (.str ((toString (k : Int) : String) : Str), h2) := by
            simp only [oStr]
            rw [if_pos]
            exact Nat.lt_of_le_of_lt (Nat.log2_le_self k) (by omega)
          simp [ho]
          have ey : (Str.ofString "y" ++ Str.ofString (Int.repr (k : Int))) = yS k := rfl
          have ly := yS_len k (by omega)
          have ly2 : (Str.ofString "y").length + ((toString (k : Int) : String) : Str).length ≤ 30 := by rw [← Str.length_append]; exact ly
          refine ⟨Nat.le_trans ly2 (by omega), ?_⟩
          rw [ey, o_notIn_s (l := ws) (by simpa using hL)]
          simp
          by_cases hin2 : yS k ∈ ws
          · refine .inl ⟨hin2, fun j hj => ?_⟩
            by_cases hjk : j = k
            · rw [hjk]; exact hin2
            · exact hk j (by omega)
          · exact .inr ⟨hin2, yS k, some (.int (k : Nat)), by simp, hin2, ly, hp', f', hL⟩
        · rintro e h2 ⟨rfl, w, v6, rfl, hk⟩
          simp at hk
          exact absurd (yS_free hm (by omega) hk) id
      · exact .inl ⟨hin, w, v6, by simp, hin, hwl, hp', f', hL⟩
    rintro e h ⟨w, v6, rfl, hni, hwl, hp', f', hL⟩
    simp [hL]
    refine ⟨by omega, ws ++ [w], ?_, by simp [hl], ?_, hp'.set _ hn, f'.new (Nat.le_refl _), ?_⟩
    · rw [List.nodup_append]
      exact ⟨nd, by simp, fun a ha b hb e => by rw [List.mem_singleton] at hb; subst hb; subst e; exact hni ha⟩
    · intro x hx
      rcases List.mem_append.mp hx with hx | hx
      · exact hw x hx
      · rw [List.mem_singleton.mp hx]; exact hwl
    · have hlt := (List.getElem?_eq_some_iff.mp hL).1
      simp [hlt]
  · rintro env h ⟨ws, v4, v5, v6, rfl, nd, hl, hw, hp', f', hL⟩
    rw [rgD_len] at hl
    refine ⟨rfl, ?_⟩
    simp
    exact hq ws h nd (by omega) hw hp' f' hL
end K03
namespace K03
open PySem Det
theorem shuffled_ok {p n r : Nat} {xs : List D} {mh : MH} {Q : D → MH → Prop} {E : Exn → MH → Prop} (hp : PoolB p n mh) (hn : n ≤ mh.length) (hr : mh[r]? = some (.lst xs)) (hrp : r ≠ p) (hxl : xs.length ≤ 1000)
    (hq : ∀ (ys : List D) mh', ys.Perm xs → PoolB p n mh' → Fr p mh mh' → mh'[mh.length + 1]? = some (.lst ys) → Q (.ref (mh.length + 1)) mh') : (m__law_shuffled [.ref p, .ref r] mh).wp Q E := by
  have hz : (1000 : Nat) ≤ sizeLine := by decide
  have hrl : r < mh.length := (List.getElem?_eq_some_iff.mp hr).1
  unfold m__law_shuffled
  have e1 : (mh ++ [.lst xs] ++ [.lst []])[r]? = some (.lst xs) := by
    rw [List.append_assoc, List.getElem?_append_left hrl]; exact hr
  simp [hr]
  rw [show mh ++ [Ob.lst xs, Ob.lst []] = mh ++ [.lst xs] ++ [.lst []] by simp]
  simp only [e1]
  simp
  refine ⟨okB_of (by omega) (by omega), ?_⟩
  rw [show mh ++ [Ob.lst xs, Ob.lst []] = mh ++ [.lst xs] ++ [.lst []] by simp]
  refine loop_wp (fun i env h => ∃ (lf fr : List D) (v4 : Option D), env = [some (.ref p), some (.ref r), some (.ref mh.length), some (.ref (mh.length + 1)), v4] ∧ (fr ++ lf).Perm xs ∧ fr.length = i ∧ PoolB p n h ∧ Fr p mh h ∧ h[mh.length]? = some (.lst lf) ∧ h[mh.length + 1]? = some (.lst fr))
    ⟨xs, [], _, rfl, by simp, rfl, (hp.push _).push _, (Fr.push p mh _).add, by simp, by simp⟩ ?_ ?_
  · rintro i d env h hd ⟨lf, fr, v4, rfl, pm, hl, hp', f', h1, h2⟩
    obtain ⟨hi, rfl⟩ := rgD_get hd
    refine ⟨rfl, _, rfl, ?_⟩
    have hlen : fr.length + lf.length = xs.length := by rw [← List.length_append]; exact pm.length_eq
    have hpn : p < n := hp.1
    simp [h1, h2]
    refine pick_ok hp' (by omega) (by omega) fun k h3 k0 k1 hp3 f3 l3 => ?_
    have g1 := f3.get h1 (by omega)
    have g2 := f3.get h2 (by omega)
    simp [g1]
    refine ⟨⟨by omega, by omega⟩, k.toNat, seqIx_of k0 k1, ?_⟩
    have hk : k.toNat < lf.length := by omega
    refine ⟨lf[k.toNat], by simp [hk], ?_⟩
    simp [g2]
    have q1 := (List.getElem?_eq_some_iff.mp g1).1
    have q2 := (List.getElem?_eq_some_iff.mp g2).1
    refine ⟨by omega, lf.eraseIdx k.toNat, fr ++ [lf[k.toNat]], ?_, by simp [hl], (hp3.set _ (by omega)).set _ (by omega), ((f'.trans f3).new (Nat.le_refl _)).new (by omega), ?_, ?_⟩
    · have := L2.erase_perm lf k.toNat lf[k.toNat] (by simp [hk])
      rw [List.append_assoc]
      exact (List.Perm.append_left fr this).trans pm
    · simp [q1]
    · simp [q2]
  · rintro env h ⟨lf, fr, v4, rfl, pm, hl, hp', f', h1, h2⟩
    rw [rgD_len] at hl
    refine ⟨rfl, ?_⟩
    have hlen : fr.length + lf.length = xs.length := by rw [← List.length_append]; exact pm.length_eq
    have : lf = [] := List.length_eq_zero_iff.mp (by omega)
    subst this
    simp
    exact hq fr h (by simpa using pm) hp' f' h2
end K03
namespace K03
open PySem Det
theorem some_ok {p n r : Nat} {xs : List D} {mh : MH} {Q : D → MH → Prop} {E : Exn → MH → Prop} (hp : PoolB p n mh) (hn : n ≤ mh.length) (hr : mh[r]? = some (.lst xs)) (hrp : r ≠ p) (hxl : xs.length ≤ 500)
    (hq : ∀ (R : Nat) (ys : List D) mh', mh.length ≤ R → (∀ y ∈ ys, y ∈ xs) → ys.length ≤ 2 * xs.length → PoolB p n mh' → Fr p mh mh' → mh'[R]? = some (.lst ys) → Q (.ref R) mh') : (m__law_some [.ref p, .ref r] mh).wp Q E := by
  have hz : (1000 : Nat) ≤ sizeLine := by decide
  have hrl : r < mh.length := (List.getElem?_eq_some_iff.mp hr).1
  unfold m__law_some
  have e1 : (mh ++ [.lst []])[r]? = some (.lst xs) := by
    rw [List.getElem?_append_left hrl]; exact hr
  simp [itD_ref e1]
  have hpn : p < n := hp.1
  refine loop_wp (fun i env h => ∃ (ys : List D) (v3 : Option D), env = [some (.ref p), some (.ref r), some (.ref mh.length), v3] ∧ (∀ y ∈ ys, y ∈ xs) ∧ ys.length ≤ 2 * i ∧ PoolB p n h ∧ Fr p mh h ∧ h[mh.length]? = some (.lst ys))
    ⟨[], _, rfl, by simp, by simp, hp.push _, Fr.push p mh _, by simp⟩ ?_ ?_
  · rintro i d env h hd ⟨ys, v3, rfl, hm, hl, hp', f', h1⟩
    have hi := (List.getElem?_eq_some_iff.mp hd).1
    have hdx : d ∈ xs := List.mem_of_getElem? hd
    refine ⟨lstIs_of (f'.get hr hrp), _, rfl, ?_⟩
    simp
    refine pick_ok hp' (by decide) (by decide) fun k h2 k0 k1 hp2 f2 l2 => ?_
    have g1 := f2.get h1 (by omega)
    have q1 := (List.getElem?_eq_some_iff.mp g1).1
    have mm : ∀ y ∈ ys ++ [d], y ∈ xs := fun y hy => by
      rcases List.mem_append.mp hy with hy | hy
      · exact hm y hy
      · rw [List.mem_singleton.mp hy]; exact hdx
    simp
    by_cases hk : k = 0
    · refine .inr ⟨hk, ⟨_, g1⟩, _, g1, by omega, ?_⟩
      have hp3 := hp2.set (m := mh.length) (.lst (ys ++ [d])) (by omega)
      have F3 := (f'.trans f2).new (n := mh.length) (o := .lst (ys ++ [d])) (Nat.le_refl _)
      refine pick_ok hp3 (by decide) (by decide) fun j h4 j0 j1 hp4 f4 l4 => ?_
      have g4 := f4.get (n := mh.length) (o := .lst (ys ++ [d])) (by simp [q1]) (by omega)
      have q4 := (List.getElem?_eq_some_iff.mp g4).1
      simp
      by_cases hj : j = 0
      · refine .inr ⟨hj, ⟨_, g4⟩, _, g4, by simp; omega, ys ++ [d] ++ [d], ?_, by simp; omega, hp4.set _ (by omega), (F3.trans f4).new (Nat.le_refl _), by simp [q4]⟩
        intro y hy
        rcases List.mem_append.mp hy with hy | hy
        · exact mm y hy
        · rw [List.mem_singleton.mp hy]; exact hdx
      · exact .inl ⟨hj, ys ++ [d], mm, by simp; omega, hp4, F3.trans f4, g4⟩
    · exact .inl ⟨hk, ys, hm, by omega, hp2, f'.trans f2, g1⟩
  · rintro env h ⟨ys, v3, rfl, hm, hl, hp', f', h1⟩
    refine ⟨lstIs_of (f'.get hr hrp), ?_⟩
    simp
    have q1 := (List.getElem?_eq_some_iff.mp h1).1
    refine shuffled_ok hp' (by omega) h1 (by omega) (by omega) fun zs h2 pm hp2 f2 g2 => ?_
    exact hq _ zs h2 (by omega) (fun y hy => hm y (pm.mem_iff.mp hy)) (by rw [pm.length_eq]; exact hl) hp2 (f'.trans f2) g2
theorem ends_ok {p n r : Nat} {xs : List Str} {mh : MH} {Q : D → MH → Prop} {E : Exn → MH → Prop} (hp : PoolB p n mh) (hr : mh[r]? = some (.lst (xs.map .str))) (hl : 2 ≤ xs.length) (hl2 : xs.length ≤ 1000)
    (hq : ∀ (a b : Str) mh', a ∈ xs → b ∈ xs → PoolB p n mh' → Fr p mh mh' → mh'.length = mh.length → Q (.tup [.str a, .str b]) mh') : (m__law_ends [.ref p, .ref r] mh).wp Q E := by
  have hz : (1000 : Nat) ≤ sizeLine := by decide
  have hrp := strs_pool hp hr
  unfold m__law_ends
  simp [hr]
  refine pick_ok hp (by omega) (by omega) fun k h2 k0 k1 hp2 f2 l2 => ?_
  have g2 := f2.get hr hrp
  simp [g2]
  refine pick_ok hp2 (by omega) (by omega) fun j h3 j0 j1 hp3 f3 l3 => ?_
  have g3 := f3.get g2 hrp
  have fin : ∀ i j : Int, 0 ≤ i → i < xs.length → 0 ≤ j → j < xs.length → ∃ a b, L2.atI (xs.map D.str) i = some (.str a) ∧ L2.atI (xs.map D.str) j = some (.str b) ∧ a ∈ xs ∧ b ∈ xs := by
    intro i j i0 i1 j0 j1
    obtain ⟨x, hx, hxm, _⟩ := atI_of (l := xs.map D.str) i0 (by simpa using i1)
    obtain ⟨y, hy, hym, _⟩ := atI_of (l := xs.map D.str) j0 (by simpa using j1)
    obtain ⟨a, ha, rfl⟩ := List.mem_map.mp hxm
    obtain ⟨b, hb, rfl⟩ := List.mem_map.mp hym
    exact ⟨a, b, hx, hy, ha, hb⟩
  simp [g3]
  by_cases hjk : j < k
  · obtain ⟨a, b, ha, hb, ma, mb⟩ := fin k j k0 (by omega) j0 (by omega)
    refine .inl ⟨hjk, ?_⟩
    simp [ha, hb]
    exact ⟨by omega, hq a b h3 ma mb hp3 (f2.trans f3) (l3.trans l2)⟩
  · obtain ⟨a, b, ha, hb, ma, mb⟩ := fin k (j + 1) k0 (by omega) (by omega) (by omega)
    refine .inr ⟨by omega, ?_⟩
    simp [ha, hb]
    exact ⟨by omega, hq a b h3 ma mb hp3 (f2.trans f3) (l3.trans l2)⟩
end K03
namespace K03
open PySem Det
abbrev Row := Str × Str × Str
def rowD (l : Row) : D := .tup [.str l.1, .str l.2.1, .str l.2.2]
theorem links_ok {p n r s : Nat} {xs ws : List Str} {mh : MH} {Q : D → MH → Prop} {E : Exn → MH → Prop} (hp : PoolB p n mh) (hn : n ≤ mh.length) (hr : mh[r]? = some (.lst (xs.map .str))) (hs : mh[s]? = some (.lst (ws.map .str))) (hl : 2 ≤ xs.length) (hl2 : xs.length ≤ 1000) (hw : ws.length ≤ 100)
    (hq : ∀ (ls : List Row) mh', ls.map (·.1) = ws → (∀ l ∈ ls, l.2.1 ∈ xs ∧ l.2.2 ∈ xs) → PoolB p n mh' → Fr p mh mh' → mh'[mh.length]? = some (.lst (ls.map rowD)) → Q (.ref mh.length) mh') : (m__law_links [.ref p, .ref r, .ref s] mh).wp Q E := by
  have hz : (1000 : Nat) ≤ sizeLine := by decide
  have hrp := strs_pool hp hr
  have hsp := strs_pool hp hs
  have hpn : p < n := hp.1
  have hrl : r < mh.length := (List.getElem?_eq_some_iff.mp hr).1
  have hsl : s < mh.length := (List.getElem?_eq_some_iff.mp hs).1
  have F0 := Fr.push p mh (.lst [])
  unfold m__law_links
  simp
  refine ends_ok (hp.push _) (F0.get hr hrp) hl hl2 fun a b h1 ma mb hp1 f1 l1 => ?_
  have s1 := f1.get (F0.get hs hsp) hsp
  rw [itD_ref s1]
  simp
  refine loop_wp (fun i env h => ∃ (ls : List Row) (a b : Str) (v5 : Option D), env = [some (.ref p), some (.ref r), some (.ref s), some (.ref mh.length), some (.tup [.str a, .str b]), v5] ∧ a ∈ xs ∧ b ∈ xs ∧ ls.map (·.1) = ws.take i ∧ (∀ l ∈ ls, l.2.1 ∈ xs ∧ l.2.2 ∈ xs) ∧ PoolB p n h ∧ Fr p mh h ∧ h[mh.length]? = some (.lst (ls.map rowD)))
    ⟨[], a, b, _, rfl, ma, mb, by simp, by simp, hp1, F0.trans f1, f1.get (by simp) (by omega)⟩ ?_ ?_
  · rintro i d env h hd ⟨ls, a, b, v5, rfl, ma, mb, hls, hm, hp', f', g'⟩
    refine ⟨lstIs_of (f'.get hs hsp), _, rfl, ?_⟩
    obtain ⟨w, hw1, rfl⟩ : ∃ w, ws[i]? = some w ∧ D.str w = d := by
      rw [List.getElem?_map] at hd
      cases hx : ws[i]? with
      | none => rw [hx] at hd; cases hd
      | some w => rw [hx] at hd; exact ⟨w, rfl, Option.some.inj hd⟩
    have hlen : ls.length ≤ i := by
      have := congrArg List.length hls
      rw [List.length_map, List.length_take] at this
      omega
    have hi : i < ws.length := (List.getElem?_eq_some_iff.mp hw1).1
    let J (e : Nv) (h : MH) : Prop := ∃ (a b : Str), e = [some (.ref p), some (.ref r), some (.ref s), some (.ref mh.length), some (.tup [.str a, .str b]), some (.str w)] ∧ a ∈ xs ∧ b ∈ xs ∧ PoolB p n h ∧ Fr p mh h ∧ h[mh.length]? = some (.lst (ls.map rowD))
    refine seq_cut J ?_ ?_
    · simp
      refine pick_ok hp' (by decide) (by decide) fun k h2 k0 k1 hp2 f2 l2 => ?_
      have g2 := f2.get g' (by omega)
      simp
      by_cases hk : k ≤ 0
      · exact .inl ⟨hk, by omega, b, a, by simp, mb, ma, hp2, f'.trans f2, g2⟩
      · refine .inr ⟨by omega, ends_ok hp2 ((f'.trans f2).get hr hrp) hl hl2 fun a b h3 ma mb hp3 f3 l3 => ?_⟩
        exact ⟨a, b, by simp, ma, mb, hp3, (f'.trans f2).trans f3, f3.get g2 (by omega)⟩
    rintro e h2 ⟨a, b, rfl, ma, mb, hp2, f2, g2⟩
    have q2 := (List.getElem?_eq_some_iff.mp g2).1
    simp [g2]
    refine ⟨by omega, by omega, ls ++ [(w, a, b)], a, b, ⟨rfl, rfl⟩, ma, mb, ?_, ?_, hp2.set _ hn, f2.new (Nat.le_refl _), ?_⟩
    · rw [List.map_append, hls, List.take_add_one, hw1]; rfl
    · intro n a2 b2 hl
      rcases List.mem_append.mp hl with hl | hl
      · exact hm _ hl
      · have := List.mem_singleton.mp hl
        simp only [Prod.mk.injEq] at this
        obtain ⟨_, rfl, rfl⟩ := this
        exact ⟨ma, mb⟩
    · simp [q2, rowD]
  · rintro env h ⟨ls, a, b, v5, rfl, ma, mb, hls, hm, hp', f', g'⟩
    refine ⟨lstIs_of (f'.get hs hsp), ?_⟩
    simp
    refine hq ls h ?_ hm hp' f' g'
    rw [hls]
    simp
end K03
namespace K03
open PySem Det
/-! ### rows -/
theorem dat_row (l : Row) : datD [] 60 (rowD l) = some (.tuple [.str l.1, .str l.2.1, .str l.2.2]) := by
  show (List.mapM (datD [] 59) [D.str l.1, D.str l.2.1, D.str l.2.2]).map PyData.tuple = _
  simp [datD]
theorem datP_row (l : Row) : datP (rowD l) = .tuple [.str l.1, .str l.2.1, .str l.2.2] := by
  unfold datP; rw [dat_row]; rfl
def leR (a b : Row) : Bool := leD (rowD a) (rowD b)
theorem leR_trans {a b c : Row} (h : leR a b = true) (k : leR b c = true) : leR a c = true := leD_total.trans _ _ _ h k
theorem leR_total (a b : Row) : (leR a b || leR b a) = true := by have := leD_total.total (rowD a) (rowD b); simpa [leR] using this
theorem leR_name {a b : Row} (h : a.1 ≠ b.1) : leR a b = leS a.1 b.1 := by
  show (!PySem.W.dataLt (datP (rowD b)) (datP (rowD a))) = _
  rw [datP_row, datP_row, PySem.W.dataLt_tuple, PySem.W.dataLt_cons (by simp [PySem.W.alike])]
  have e : ¬ (PyData.eqv (.str b.1) (.str a.1) = true) := by
    simp only [PyData.eqv, beq_iff_eq]
    exact fun e => h e.symm
  rw [if_neg e, PySem.W.dataLt_str, PySem.W.not_lt_str]
  rfl
theorem okSort_rows (ls : List Row) (h : ls.length ≤ sizeLine) : okSort (ls.map rowD) = true := by
  unfold okSort
  rw [Bool.and_eq_true, Bool.and_eq_true, Bool.and_eq_true]
  refine ⟨⟨⟨?_, ?_⟩, ?_⟩, by rw [List.length_map]; exact decide_eq_true h⟩
  · rw [List.all_map]
    refine List.all_eq_true.mpr fun x _ => ?_
    show ((datD [] 60 (rowD x)).isSome && decide ((datP (rowD x)).depth ≤ 60)) = true
    rw [dat_row, datP_row]
    simp [PyData.depth, PyData.depthAll]
  · rw [List.all_map]
    refine List.all_eq_true.mpr fun x _ => ?_
    show (ls.map rowD).all _ = true
    rw [List.all_map]
    refine List.all_eq_true.mpr fun y _ => ?_
    show PySem.W.alike (datP (rowD x)) (datP (rowD y)) = true
    rw [datP_row, datP_row]
    simp [PySem.W.alike, PySem.W.alikeAll]
  · rw [Bool.or_eq_true]
    refine .inl ?_
    rw [List.all_map]
    refine List.all_eq_true.mpr fun x _ => ?_
    show tupNE (datP (rowD x)) = true
    rw [datP_row]; rfl
theorem o_sorted_r {c : D} {mh : MH} {ls : List Row} (h : itemsD mh c = some (ls.map rowD)) (hl : ls.length ≤ sizeLine) : oSorted [c] mh = some (.ref mh.length, mh ++ [.lst ((isort leR ls).map rowD)]) := by
  unfold oSorted
  simp only [h, okSort_rows ls hl, if_true, isort_map]
  rfl
/-- by name, each name once -/
def Up (l : List Row) : Prop := l.Pairwise fun a b => leS a.1 b.1 = true ∧ a.1 ≠ b.1
theorem Up.le {l : List Row} (h : Up l) : l.Pairwise fun a b => leR a b = true := h.imp fun {a b} q => by rw [leR_name q.2]; exact q.1
theorem Up.nodup {l : List Row} (h : Up l) : l.Nodup := List.nodup_iff_pairwise_ne.mpr (h.imp fun {a b} q e => q.2 (by rw [e]))
theorem Up.isort {l : List Row} (h : Up l) : isort leR l = l := isort_of_sorted l h.le
theorem name_eq {l : List Row} (h : (l.map (·.1)).Nodup) {a b : Row} (ha : a ∈ l) (hb : b ∈ l) (e : a.1 = b.1) : a = b := by
  induction l with
  | nil => cases ha
  | cons c l ih =>
    rw [List.map_cons, List.nodup_cons] at h
    rcases List.mem_cons.mp ha with e1 | ha2
    · rcases List.mem_cons.mp hb with e2 | hb2
      · rw [e1, e2]
      · exact absurd (show c.1 ∈ l.map (·.1) from List.mem_map.mpr ⟨b, hb2, by rw [← e, e1]⟩) h.1
    · rcases List.mem_cons.mp hb with e2 | hb2
      · exact absurd (show c.1 ∈ l.map (·.1) from List.mem_map.mpr ⟨a, ha2, by rw [e, e2]⟩) h.1
      · exact ih h.2 ha2 hb2
theorem rows_anti {l : List Row} (h : (l.map (·.1)).Nodup) : ∀ a ∈ l, ∀ b ∈ l, leR a b = true → leR b a = true → a = b := fun a ha b hb h1 h2 => by
  by_cases e : a.1 = b.1
  · exact name_eq h ha hb e
  · rw [leR_name e] at h1
    rw [leR_name (Ne.symm e)] at h2
    exact absurd (leS_anti h1 h2) e
/-- what goes up and is made of the rows of ls is ls sorted -/
theorem Up.one {l ls : List Row} (h : Up l) (hn : (ls.map (·.1)).Nodup) (hm : ∀ a, a ∈ l ↔ a ∈ ls) : l = Det.isort leR ls := by
  have n2 : ls.Nodup := by
    rw [List.nodup_iff_pairwise_ne] at hn ⊢
    rw [List.pairwise_map] at hn
    exact hn.imp fun {a b} q e => q (by rw [e])
  have p : l.Perm ls := (List.perm_ext_iff_of_nodup h.nodup n2).mpr hm
  rw [← isort_perm (le := leR) (fun a b c h k => leR_trans h k) leR_total p fun a ha b hb h1 h2 => rows_anti hn a (p.mem_iff.mp ha) b (p.mem_iff.mp hb) h1 h2]
  exact h.isort.symm
theorem isort_up {ls : List Row} (hn : (ls.map (·.1)).Nodup) : Up (Det.isort leR ls) := by
  have p := isort_perm_self (le := leR) ls
  have hs := isort_sorted (le := leR) (fun a b c h k => leR_trans h k) leR_total ls
  have hn2 : ((Det.isort leR ls).map (·.1)).Nodup := (p.map (·.1)).nodup_iff.mpr hn
  rw [List.nodup_iff_pairwise_ne, List.pairwise_map] at hn2
  exact (hs.and hn2).imp fun {a b} q => ⟨by rw [← leR_name q.2]; exact q.1, q.2⟩
theorem isort_rows_perm {l₁ l₂ : List Row} (p : l₁.Perm l₂) (hn : (l₁.map (·.1)).Nodup) : Det.isort leR l₁ = Det.isort leR l₂ :=
  isort_perm (le := leR) (fun a b c h k => leR_trans h k) leR_total p (rows_anti hn)
/-! ### ends in their order -/
def nrm (l : Row) : Row := (l.1, mnS l.2.1 l.2.2, mxS l.2.1 l.2.2)
def swp (l : Row) : Row := (l.1, l.2.2, l.2.1)
theorem mn_comm (a b : Str) : mnS a b = mnS b a ∧ mxS a b = mxS b a := by
  unfold mnS mxS
  rw [ltS_iff, ltS_iff]
  cases h1 : leS a b with
  | true => cases h2 : leS b a with
    | true => have := leS_anti h1 h2; subst this; simp
    | false => simp
  | false => cases h2 : leS b a with
    | true => simp
    | false =>
      have := leS_total a b
      rw [h1, h2] at this; cases this
theorem nrm_swp (l : Row) : nrm (swp l) = nrm l := by
  unfold nrm swp
  simp only
  rw [(mn_comm l.2.2 l.2.1).1, (mn_comm l.2.2 l.2.1).2]
theorem nrm_nrm (l : Row) : nrm (nrm l) = nrm l := by
  unfold nrm
  simp only [mnS, mxS, ltS_iff]
  cases h1 : leS l.2.1 l.2.2 with
  | true => cases h2 : leS l.2.2 l.2.1 with
    | true => have := leS_anti h1 h2; rw [this]; simp
    | false => simp [h1, h2]
  | false => cases h2 : leS l.2.2 l.2.1 with
    | true => simp [h1, h2]
    | false =>
      have := leS_total l.2.1 l.2.2
      rw [h1, h2] at this; cases this
theorem nrm_names (ls : List Row) : (ls.map nrm).map (·.1) = ls.map (·.1) := by rw [List.map_map]; rfl
end K03
namespace K03
open PySem Det
theorem lot_ok {c : D} {xs : List Str} {mh : MH} {Q : D → MH → Prop} {E : Exn → MH → Prop} (hc : itemsD mh c = some (xs.map .str)) (hl : xs.length ≤ 500)
    (hq : ∀ mh', Pre mh mh' → Q (.tup ((lotS xs).map .str)) mh') : (m__law_lot [c] mh).wp Q E := by
  have hz : (1000 : Nat) ≤ sizeLine := by decide
  have P0 := Pre.push mh (.lst [])
  unfold m__law_lot
  simp [o_sorted_s (P0.items hc) (by omega)]
  have e1 : (mh ++ [Ob.lst [], Ob.lst ((Det.isort leS xs).map .str)])[mh.length + 1]? = some (.lst ((Det.isort leS xs).map .str)) := by simp
  have len : (Det.isort leS xs).length = xs.length := (isort_perm_self xs).length_eq
  have srt := isort_sorted (le := leS) (fun a b c h k => leS_trans h k) leS_total xs
  have mem : ∀ a, a ∈ Det.isort leS xs ↔ a ∈ xs := fun a => (isort_perm_self xs).mem_iff
  generalize Det.isort leS xs = s at e1 len srt mem ⊢
  rw [itD_ref e1]
  simp
  refine loop_wp (fun i env h => ∃ (fr : List Str) (v : Option D), env = [some c, some (.ref mh.length), v] ∧ fr.Pairwise (fun x y => leS x y = true) ∧ fr.Nodup ∧ (∀ a, a ∈ fr ↔ a ∈ s.take i) ∧ fr.length ≤ i ∧ Pre mh h ∧ h[mh.length]? = some (.lst (fr.map .str)) ∧ h[mh.length + 1]? = some (.lst (s.map .str)))
    ⟨[], _, rfl, List.Pairwise.nil, List.nodup_nil, by simp, Nat.le_refl _, ⟨_, rfl⟩, by simp, e1⟩ ?_ ?_
  · rintro i d env h hd ⟨fr, v, rfl, so, nd, me, hfl, pre, g1, g2⟩
    refine ⟨lstIs_of g2, _, rfl, ?_⟩
    obtain ⟨y, hy, rfl⟩ : ∃ w, s[i]? = some w ∧ D.str w = d := by
      rw [List.getElem?_map] at hd
      cases hx : s[i]? with
      | none => rw [hx] at hd; cases hd
      | some w => rw [hx] at hd; exact ⟨w, rfl, Option.some.inj hd⟩
    have hi : i < s.length := (List.getElem?_eq_some_iff.mp hy).1
    have ey : s[i] = y := (List.getElem?_eq_some_iff.mp hy).2
    have below : ∀ x ∈ fr, leS x y = true := fun x hx => by
      obtain ⟨j, hj, e⟩ := List.mem_take_iff_getElem.mp ((me x).mp hx)
      have hj2 : j < i := by omega
      have := List.pairwise_iff_getElem.mp srt j i (by omega) hi hj2
      rw [ey, e] at this
      exact this
    have q1 := (List.getElem?_eq_some_iff.mp g1).1
    have add : y ∉ fr → ∃ (fr' : List Str), fr.map D.str ++ [D.str y] = fr'.map .str ∧ fr'.Pairwise (fun x y => leS x y = true) ∧ fr'.Nodup ∧ (∀ a, a ∈ fr' ↔ a ∈ s.take (i + 1)) ∧ fr'.length ≤ i + 1 := fun hny => by
      refine ⟨fr ++ [y], by simp, ?_, ?_, ?_, by simp; omega⟩
      · rw [List.pairwise_append]
        exact ⟨so, by simp, fun a ha b hb => by rw [List.mem_singleton.mp hb]; exact below a ha⟩
      · rw [List.nodup_append]
        exact ⟨nd, by simp, fun a ha b hb e => by rw [List.mem_singleton] at hb; subst hb; subst e; exact hny ha⟩
      · intro a
        rw [List.mem_append, me, List.take_add_one, hy]
        simp
    have lay : y ∉ fr → ∃ (fr' : List Str) (v : Option D), [some c, some (D.ref mh.length), some (D.str y)] = [some c, some (.ref mh.length), v] ∧ fr'.Pairwise (fun x y => leS x y = true) ∧ fr'.Nodup ∧ (∀ a, a ∈ fr' ↔ a ∈ s.take (i + 1)) ∧ fr'.length ≤ i + 1 ∧ Pre mh (h.set mh.length (.lst (fr.map D.str ++ [D.str y]))) ∧ (h.set mh.length (.lst (fr.map D.str ++ [D.str y])))[mh.length]? = some (.lst (fr'.map .str)) ∧ (h.set mh.length (.lst (fr.map D.str ++ [D.str y])))[mh.length + 1]? = some (.lst (s.map .str)) := fun hny => by
      obtain ⟨fr', e, a1, a2, a3, a4⟩ := add hny
      exact ⟨fr', _, rfl, a1, a2, a3, a4, pre.new (Nat.le_refl _), by rw [e]; simp [q1], by rw [List.getElem?_set_ne (by omega)]; exact g2⟩
    rcases List.eq_nil_or_concat fr with rfl | ⟨fr', z, e⟩
    · simp [g1]
      have := lay (by simp)
      refine ⟨by omega, ?_⟩
      simpa using this
    · rw [List.concat_eq_append] at e
      have hlen : fr.length = fr'.length + 1 := by rw [e]; simp
      have hat : L2.atI (fr.map D.str) ((fr.length : Int) - 1) = some (.str z) := by
        rw [show (fr.length : Int) - 1 = (fr'.length : Nat) by omega, atI_nat, e]; simp
      have hne : fr ≠ [] := by rw [e]; simp
      simp [g1, hat, hne]
      by_cases hzy : z = y
      · refine .inl ⟨hzy, ?_⟩
        refine ⟨fr, so, nd, fun a => ?_, by omega, pre, rfl, g2⟩
        rw [me, List.take_add_one, hy]
        simp
        intro ea
        rw [ea, ← me, e, ← hzy]; simp
      · refine .inr ⟨hzy, by omega, ?_⟩
        have hny : y ∉ fr := fun hyf => by
          have h1 : leS y z = true := by
            rw [e] at hyf so
            rcases List.mem_append.mp hyf with q | q
            · exact (List.pairwise_append.mp so).2.2 y q z (by simp)
            · rw [List.mem_singleton.mp q]; exact leS_refl z
          exact hzy (leS_anti (below z (by rw [e]; simp)) h1)
        have := lay hny
        simpa using this
  · rintro env h ⟨fr, v, rfl, so, nd, me, hfl, pre, g1, g2⟩
    refine ⟨lstIs_of g2, ?_⟩
    simp [g1]
    rw [List.length_map, List.take_length] at me
    rw [lotS_one so nd fun a => (me a).trans (mem a)]
    exact hq h pre
end K03
namespace K03
open PySem Det
def netD (a : List Str) (rows : List Row) (c d : List Str) : D := .tup [.tup (a.map .str), .tup (rows.map rowD), .tup (c.map .str), .tup (d.map .str)]
theorem make_ok {xs ms gs : List Str} {ls : List Row} {mh : MH} {Q : D → MH → Prop} {E : Exn → MH → Prop} (h1 : xs.length ≤ 500) (h2 : ls.length ≤ 500) (h3 : ms.length ≤ 500) (h4 : gs.length ≤ 500)
    (hq : ∀ mh', Pre mh mh' → Q (netD (lotS xs) (Det.isort leR (ls.map nrm)) (lotS ms) (lotS gs)) mh') : (m_make_net [.tup (xs.map .str), .tup (ls.map rowD), .tup (ms.map .str), .tup (gs.map .str)] mh).wp Q E := by
  have hz : (1000 : Nat) ≤ sizeLine := by decide
  unfold m_make_net
  simp
  refine comp_wp (fun i acc h => acc = (ls.take i).map (fun l => rowD (nrm l)) ∧ h = mh ++ [.lst acc]) [] (by simp) ⟨by simp, rfl⟩ ?_ ?_ ?_
  · rintro i acc h ⟨rfl, rfl⟩; simp
  · rintro i d acc h hd ⟨rfl, rfl⟩
    obtain ⟨l, hl, rfl⟩ : ∃ w, ls[i]? = some w ∧ rowD w = d := by
      rw [List.getElem?_map] at hd
      cases hx : ls[i]? with
      | none => rw [hx] at hd; cases hd
      | some w => rw [hx] at hd; exact ⟨w, rfl, Option.some.inj hd⟩
    have hi := (List.getElem?_eq_some_iff.mp hl).1
    refine ⟨rfl, _, rfl, ?_⟩
    simp [setMany, wipeD, wipeD]
    refine ⟨by omega, by omega, ?_⟩
    rw [List.take_add_one]
    simp [hl, rowD, nrm]
  · rintro acc h ⟨rfl, rfl⟩
    refine ⟨rfl, ?_⟩
    have e0 : (ls.take (ls.map rowD).length).map (fun l => rowD (nrm l)) = (ls.map nrm).map rowD := by simp
    rw [e0]
    rw [o_sset (xs := xs) rfl (by omega)]
    simp
    generalize hm : mh ++ [Ob.lst (List.map (rowD ∘ nrm) ls), Ob.lst (List.map D.str (lotS xs))] = m1
    have p1 : Pre mh m1 := ⟨_, hm.symm⟩
    have g1 : m1[mh.length]? = some (.lst ((ls.map nrm).map rowD)) := by rw [← hm]; simp
    rw [o_sorted_r (ls := ls.map nrm) (by simpa using g1) (by simp; omega)]
    simp
    rw [o_sset (xs := ms) rfl (by omega)]
    simp
    rw [o_sset (xs := gs) rfl (by omega)]
    simp
    refine ⟨by omega, hq _ (p1.trans ⟨_, rfl⟩)⟩
end K03
namespace K03
open PySem Det
def rowsOf (ls : List Row) (s : List Str) : List Row := s.flatMap fun nm => (ls.filter fun l => l.1 == nm).map nrm
theorem rowsOf_mem {ls : List Row} {s : List Str} {x : Row} : x ∈ rowsOf ls s ↔ ∃ l ∈ ls, l.1 ∈ s ∧ nrm l = x := by
  unfold rowsOf
  rw [List.mem_flatMap]
  constructor
  · rintro ⟨nm, hnm, hx⟩
    obtain ⟨l, hl, rfl⟩ := List.mem_map.mp hx
    rw [List.mem_filter] at hl
    have : l.1 = nm := by simpa using hl.2
    exact ⟨l, hl.1, by rw [this]; exact hnm, rfl⟩
  · rintro ⟨l, hl, hs, rfl⟩
    exact ⟨l.1, hs, List.mem_map.mpr ⟨l, List.mem_filter.mpr ⟨hl, by simp⟩, rfl⟩⟩
theorem filt_one {ls : List Row} (hn : (ls.map (·.1)).Nodup) (nm : Str) : ((ls.filter fun l => l.1 == nm).map nrm).Pairwise fun a b => leS a.1 b.1 = true ∧ a.1 ≠ b.1 := by
  rw [List.pairwise_map]
  have h1 : ls.Pairwise fun a b => a.1 ≠ b.1 := by
    rw [List.nodup_iff_pairwise_ne, List.pairwise_map] at hn; exact hn
  have h2 := h1.sublist (List.filter_sublist (p := fun l => l.1 == nm) (l := ls))
  refine List.Pairwise.imp_of_mem (fun {a b} ha hb hab => ?_) h2
  rw [List.mem_filter] at ha hb
  have e1 : a.1 = nm := by simpa using ha.2
  have e2 : b.1 = nm := by simpa using hb.2
  exact absurd (e1.trans e2.symm) hab
theorem rowsOf_up {ls : List Row} (hn : (ls.map (·.1)).Nodup) : ∀ s : List Str, s.Nodup → s.Pairwise (fun x y => leS x y = true) → Up (rowsOf ls s)
  | [], _, _ => List.Pairwise.nil
  | nm :: s, nd, so => by
    rw [List.nodup_cons] at nd
    obtain ⟨so1, so2⟩ := List.pairwise_cons.mp so
    unfold Up
    show ((((ls.filter fun l => l.1 == nm).map nrm) ++ rowsOf ls s)).Pairwise _
    rw [List.pairwise_append]
    refine ⟨filt_one hn nm, rowsOf_up hn s nd.2 so2, fun a ha b hb => ?_⟩
    obtain ⟨l, hl, rfl⟩ := List.mem_map.mp ha
    rw [List.mem_filter] at hl
    have e1 : l.1 = nm := by simpa using hl.2
    obtain ⟨k, hk, hks, rfl⟩ := rowsOf_mem.mp hb
    show leS l.1 k.1 = true ∧ l.1 ≠ k.1
    rw [e1]
    exact ⟨so1 _ hks, fun e => nd.1 (by rw [e]; exact hks)⟩
theorem rowsOf_all {ls : List Row} (hn : (ls.map (·.1)).Nodup) : rowsOf ls (Det.isort leS (ls.map (·.1))) = Det.isort leR (ls.map nrm) := by
  have p := isort_perm_self (le := leS) (ls.map (·.1))
  refine (rowsOf_up hn _ (p.nodup_iff.mpr hn) (isort_sorted (le := leS) (fun a b c h k => leS_trans h k) leS_total _)).one (by rw [nrm_names]; exact hn) fun x => ?_
  rw [rowsOf_mem, List.mem_map]
  constructor
  · rintro ⟨l, hl, _, e⟩; exact ⟨l, hl, e⟩
  · rintro ⟨l, hl, e⟩; exact ⟨l, hl, p.mem_iff.mpr (List.mem_map.mpr ⟨l, hl, rfl⟩), e⟩
theorem rowsOf_snoc (ls : List Row) (s : List Str) (nm : Str) : rowsOf ls (s ++ [nm]) = rowsOf ls s ++ (ls.filter fun l => l.1 == nm).map nrm := by
  unfold rowsOf; simp
theorem due_ok {a b c d : Nat} {xs ms gs : List Str} {ls : List Row} {mh : MH} {Q : D → MH → Prop} {E : Exn → MH → Prop} (ha : mh[a]? = some (.lst (xs.map .str))) (hb : mh[b]? = some (.lst (ls.map rowD))) (hc : mh[c]? = some (.lst (ms.map .str))) (hd : mh[d]? = some (.lst (gs.map .str)))
    (h1 : xs.length ≤ 200) (h2 : ls.length ≤ 200) (h3 : ms.length ≤ 200) (h4 : gs.length ≤ 200) (hn : (ls.map (·.1)).Nodup)
    (hq : ∀ mh', Pre mh mh' → Q (netD (lotS xs) (Det.isort leR (ls.map nrm)) (lotS ms) (lotS gs)) mh') : (m__law_due [.ref a, .ref b, .ref c, .ref d] mh).wp Q E := by
  have hz : (1000 : Nat) ≤ sizeLine := by decide
  have P0 := Pre.push mh (.lst [])
  unfold m__law_due
  simp
  rw [itD_ref (P0.get hb)]
  simp
  refine comp_wp (fun i acc h => acc = (ls.take i).map (fun l => D.str l.1) ∧ h = mh ++ [.lst []] ++ [.lst acc]) [] (by simp) ⟨by simp, by simp⟩ ?_ ?_ ?_
  · rintro i acc h ⟨rfl, rfl⟩; simp
  · rintro i e acc h he ⟨rfl, rfl⟩
    obtain ⟨l, hl, rfl⟩ : ∃ w, ls[i]? = some w ∧ rowD w = e := by
      rw [List.getElem?_map] at he
      cases hx : ls[i]? with
      | none => rw [hx] at he; cases he
      | some w => rw [hx] at he; exact ⟨w, rfl, Option.some.inj he⟩
    have hi := (List.getElem?_eq_some_iff.mp hl).1
    refine ⟨lstIs_of ((P0.add _).get hb), _, rfl, ?_⟩
    simp [setMany, wipeD, rowD]
    refine ⟨by omega, ?_⟩
    rw [List.take_add_one]
    simp [hl]
  · rintro acc h ⟨rfl, rfl⟩
    refine ⟨lstIs_of ((P0.add _).get hb), ?_⟩
    have e0 : (ls.take (ls.map rowD).length).map (fun l => D.str l.1) = (ls.map (·.1)).map .str := by simp
    rw [e0]
    rw [o_sorted_s (xs := ls.map (·.1)) (by simp) (by simp; omega)]
    simp
    have all := rowsOf_all hn
    have slen : (Det.isort leS (ls.map (·.1))).length = ls.length := by rw [(isort_perm_self _).length_eq]; simp
    generalize Det.isort leS (ls.map (·.1)) = s at all slen ⊢
    generalize hm : mh ++ [Ob.lst [], Ob.lst _, Ob.lst (List.map D.str s)] = m1
    have p1 : Pre mh m1 := ⟨_, hm.symm⟩
    have g0 : m1[mh.length]? = some (.lst ((rowsOf ls []).map rowD)) := by rw [← hm]; simp [rowsOf]
    have g2 : m1[mh.length + 1 + 1]? = some (.lst (s.map .str)) := by
      rw [← hm, List.getElem?_append_right (by omega), show mh.length + 1 + 1 - mh.length = 2 by omega]; rfl
    have bd : ∀ i, (rowsOf ls (s.take i)).length ≤ ls.length := fun i => by
      have e : rowsOf ls s = rowsOf ls (s.take i) ++ rowsOf ls (s.drop i) := by
        unfold rowsOf
        rw [← List.flatMap_append, List.take_append_drop]
      have := congrArg List.length e
      rw [all, (isort_perm_self _).length_eq, List.length_map, List.length_append] at this
      omega
    rw [itD_ref g2]
    simp
    refine loop_wp (fun i env h => ∃ (v5 v6 : Option D), env = [some (.ref a), some (.ref b), some (.ref c), some (.ref d), some (.ref mh.length), v5, v6] ∧ Pre mh h ∧ h[mh.length]? = some (.lst ((rowsOf ls (s.take i)).map rowD)) ∧ h[mh.length + 1 + 1]? = some (.lst (s.map .str)))
      ⟨_, _, rfl, p1, by simpa using g0, g2⟩ ?_ ?_
    · rintro i e env h he ⟨v5, v6, rfl, pre, k0, k2⟩
      refine ⟨lstIs_of k2, _, rfl, ?_⟩
      obtain ⟨nm, hnm, rfl⟩ : ∃ w, s[i]? = some w ∧ D.str w = e := by
        rw [List.getElem?_map] at he
        cases hx : s[i]? with
        | none => rw [hx] at he; cases he
        | some w => rw [hx] at he; exact ⟨w, rfl, Option.some.inj he⟩
      have tk : s.take (i + 1) = s.take i ++ [nm] := by rw [List.take_add_one, hnm]; rfl
      simp
      rw [itD_ref (pre.get hb)]
      simp
      refine loop_wp (fun j env h => ∃ (v6 : Option D), env = [some (.ref a), some (.ref b), some (.ref c), some (.ref d), some (.ref mh.length), some (.str nm), v6] ∧ Pre mh h ∧ h[mh.length]? = some (.lst ((rowsOf ls (s.take i) ++ ((ls.take j).filter fun l => l.1 == nm).map nrm).map rowD)) ∧ h[mh.length + 1 + 1]? = some (.lst (s.map .str)))
        ⟨_, rfl, pre, by simpa using k0, k2⟩ ?_ ?_
      · rintro j e env h he ⟨v6, rfl, pre, k0, k2⟩
        refine ⟨lstIs_of (pre.get hb), _, rfl, ?_⟩
        obtain ⟨l, hl, rfl⟩ : ∃ w, ls[j]? = some w ∧ rowD w = e := by
          rw [List.getElem?_map] at he
          cases hx : ls[j]? with
          | none => rw [hx] at he; cases he
          | some w => rw [hx] at he; exact ⟨w, rfl, Option.some.inj he⟩
        have tj : ls.take (j + 1) = ls.take j ++ [l] := by rw [List.take_add_one, hl]; rfl
        have q0 := (List.getElem?_eq_some_iff.mp k0).1
        have bj : ((rowsOf ls (s.take i) ++ ((ls.take j).filter fun l => l.1 == nm).map nrm)).length ≤ 200 := by
          have h1 := bd (i + 1)
          rw [tk, rowsOf_snoc, List.length_append, List.length_map] at h1
          rw [List.length_append, List.length_map]
          have h2 : ((ls.take j).filter fun l => l.1 == nm).length ≤ (ls.filter fun l => l.1 == nm).length := ((List.take_sublist j ls).filter _).length_le
          omega
        simp [rowD]
        by_cases hnm : l.1 = nm
        · refine .inr ⟨hnm, ⟨_, k0⟩, by omega, _, k0, by rw [List.length_map]; omega, pre.new (Nat.le_refl _), ?_, ?_⟩
          · rw [tj, List.filter_append]
            simp [hnm, rowD, nrm, q0]
          · rw [List.getElem?_set_ne (by omega)]; exact k2
        · refine .inl ⟨hnm, pre, ?_, k2⟩
          rw [k0, tj, List.filter_append]
          simp [hnm]
      · rintro env h ⟨v6, rfl, pre, k0, k2⟩
        refine ⟨lstIs_of (pre.get hb), ?_⟩
        simp
        refine ⟨pre, ?_, k2⟩
        rw [k0, tk, rowsOf_snoc]
        simp
    · rintro env h ⟨v5, v6, rfl, pre, k0, k2⟩
      refine ⟨lstIs_of k2, ?_⟩
      simp at k0
      rw [all] at k0
      simp
      refine lot_ok (by simpa using pre.get ha) (by omega) fun h2 q2 => ?_
      simp [q2.get k0]
      refine lot_ok (by simpa using (pre.trans q2).get hc) (by omega) fun h3 q3 => ?_
      refine lot_ok (by simpa using ((pre.trans q2).trans q3).get hd) (by omega) fun h4 q4 => ?_
      exact ⟨by omega, hq h4 (((pre.trans q2).trans q3).trans q4)⟩
end K03
namespace K03
open PySem Det
section
variable {mh : MH} {xs : List D} {x : Str} {i : Int}
@[simp] theorem i_tt : oIsi [.tup xs, .ty "tuple"] mh = some (.bl true, mh) := by
  show ((L2.kitB "tuple" "tuple").map fun b => (D.bl b, mh)) = _
  rw [show L2.kitB "tuple" "tuple" = some true by decide +kernel]; rfl
@[simp] theorem i_st : oIsi [.str x, .ty "tuple"] mh = some (.bl false, mh) := by
  show ((L2.kitB "str" "tuple").map fun b => (D.bl b, mh)) = _
  rw [show L2.kitB "str" "tuple" = some false by decide +kernel]; rfl
@[simp] theorem i_ss : oIsi [.str x, .ty "str"] mh = some (.bl true, mh) := by
  show ((L2.kitB "str" "str").map fun b => (D.bl b, mh)) = _
  rw [show L2.kitB "str" "str" = some true by decide +kernel]; rfl
@[simp] theorem i_it : oIsi [.int i, .ty "tuple"] mh = some (.bl false, mh) := by
  show ((L2.kitB "int" "tuple").map fun b => (D.bl b, mh)) = _
  rw [show L2.kitB "int" "tuple" = some false by decide +kernel]; rfl
@[simp] theorem i_is : oIsi [.int i, .ty "str"] mh = some (.bl false, mh) := by
  show ((L2.kitB "int" "str").map fun b => (D.bl b, mh)) = _
  rw [show L2.kitB "int" "str" = some false by decide +kernel]; rfl
@[simp] theorem i_ii : oIsi [.int i, .ty "int"] mh = some (.bl true, mh) := by
  show ((L2.kitB "int" "int").map fun b => (D.bl b, mh)) = _
  rw [show L2.kitB "int" "int" = some true by decide +kernel]; rfl
@[simp] theorem i_ib : oIsi [.int i, .ty "bool"] mh = some (.bl false, mh) := by
  show ((L2.kitB "int" "bool").map fun b => (D.bl b, mh)) = _
  rw [show L2.kitB "int" "bool" = some false by decide +kernel]; rfl
end
def plain : Nat → D → Bool
  | _, .str _ => true
  | _, .int _ => true
  | n + 1, .tup xs => decide (xs.length ≤ 1000) && xs.all (plain n)
  | _, _ => false
theorem same_rec : ∀ (n : Nat) (d : D) {mh : MH} {Q : D → MH → Prop} {E : Exn → MH → Prop}, plain n d = true → Q (.bl true) mh → (recF b__law_same (n + 1) [d, d] mh).wp Q E
  | n, .str x, mh, Q, E, _, hq => by
    show (b__law_same (recF b__law_same n) [.str x, .str x] mh).wp Q E
    unfold b__law_same
    simp
    exact hq
  | n, .int i, mh, Q, E, _, hq => by
    show (b__law_same (recF b__law_same n) [.int i, .int i] mh).wp Q E
    unfold b__law_same
    simp
    exact hq
  | 0, .tup xs, mh, Q, E, h, hq => by simp [plain] at h
  | n + 1, .tup xs, mh, Q, E, h, hq => by
    show (b__law_same (recF b__law_same (n + 1)) [.tup xs, .tup xs] mh).wp Q E
    have hz : (1000 : Nat) ≤ sizeLine := by decide
    simp only [plain, Bool.and_eq_true, decide_eq_true_eq, List.all_eq_true] at h
    unfold b__law_same
    simp
    refine ⟨okB_of (by omega) (by omega), ?_⟩
    refine loop_wp (fun i env h => ∃ v, env = [some (.tup xs), some (.tup xs), v] ∧ h = mh) ⟨_, rfl, rfl⟩ ?_ ?_
    · rintro i d env m hd ⟨v, rfl, rfl⟩
      obtain ⟨hi, rfl⟩ := rgD_get hd
      refine ⟨rfl, _, rfl, ?_⟩
      simp [atI_nat, hi]
      exact same_rec n xs[i] (h.2 _ (List.getElem_mem hi)) (by simp)
    · rintro env m ⟨v, rfl, rfl⟩
      exact ⟨rfl, by simpa using hq⟩
  | n, .non, _, _, _, h, _ => by cases n <;> simp [plain] at h
  | n, .bl _, _, _, _, h, _ => by cases n <;> simp [plain] at h
  | n, .ty _, _, _, _, h, _ => by cases n <;> simp [plain] at h
  | n, .rol _, _, _, _, h, _ => by cases n <;> simp [plain] at h
  | n, .ref _, _, _, _, h, _ => by cases n <;> simp [plain] at h
theorem same_ok {c d : D} {mh : MH} {Q : D → MH → Prop} {E : Exn → MH → Prop} (e : c = d) (h : plain 11 d = true) (hq : Q (.bl true) mh) : (m__law_same [c, d] mh).wp Q E := by
  subst e
  exact same_rec 11 c h hq
end K03
namespace K03
open PySem Det
section
variable {a c d : List Str} {rows : List Row} {mh : MH} {Q : D → MH → Prop} {E : Exn → MH → Prop}
theorem get_row {i : Nat} (hi : i < rows.length) : (rows.map rowD)[i]? = some (rowD rows[i]) := by simp [hi]
theorem zero_ok (hl : rows.length ≤ 500) (hq : Q (.tup (List.replicate rows.length (.int 0))) mh) : (m_zero_weights [netD a rows c d] mh).wp Q E := by
  have hz : (1000 : Nat) ≤ sizeLine := by decide
  unfold m_zero_weights netD
  simp
  refine ⟨by omega, ?_⟩
  rw [o_mul_t (by omega) (by omega) (by simp), rep1]
  simpa using hq
theorem place_ok {i : Nat} {nm : Str} (hn : (rows.map (·.1)).Nodup) (hi : i < rows.length) (e : rows[i].1 = nm) (hq : Q (.int (i : Nat)) mh) : (m_place_of [netD a rows c d, .str nm] mh).wp Q E := by
  unfold m_place_of netD
  simp
  refine loop_wp (fun j env h => h = mh ∧ j ≤ i ∧ ∃ v2 v3, env = [some (.tup [.tup (a.map .str), .tup (rows.map rowD), .tup (c.map .str), .tup (d.map .str)]), some (.str nm), v2, v3]) ⟨rfl, Nat.zero_le _, _, _, rfl⟩ ?_ ?_
  · rintro j e env h he ⟨rfl, hj, v2, v3, rfl⟩
    have hj2 : j < rows.length := by omega
    rw [enF_get, get_row hj2] at he
    cases he
    refine ⟨rfl, _, rfl, ?_⟩
    simp [rowD, setMany]
    by_cases hji : j = i
    · subst hji
      exact .inr ⟨e, hq⟩
    · refine .inl ⟨fun e2 => hji ?_, by omega⟩
      have h1 : (rows.map (·.1))[j]'(by simpa using hj2) = (rows.map (·.1))[i]'(by simpa using hi) := by simp [e, e2]
      exact (List.getElem_inj hn).mp h1
  · rintro env h ⟨rfl, hj, _⟩
    simp [enF_len] at hj
    omega
theorem ends_of_ok {i : Nat} {nm : Str} (hn : (rows.map (·.1)).Nodup) (hi : i < rows.length) (e : rows[i].1 = nm) (hq : Q (.tup [.str rows[i].2.1, .str rows[i].2.2]) mh) : (m_ends_of [netD a rows c d, .str nm] mh).wp Q E := by
  have hz : (1000 : Nat) ≤ sizeLine := by decide
  unfold m_ends_of
  rw [show netD a rows c d = .tup [.tup (a.map .str), .tup (rows.map rowD), .tup (c.map .str), .tup (d.map .str)] from rfl]
  simp
  refine place_ok (a := a) (c := c) (d := d) hn hi e ?_
  simp [atI_nat, hi, rowD]
  exact ⟨by omega, hq⟩
def at_ (rows : List Row) (nd : Str) : List Str := (rows.filter fun l => decide (nd ∈ [l.2.1, l.2.2])).map (·.1)
theorem links_at_ok {nd : Str} (hl : rows.length ≤ 500) (hq : ∀ mh', Pre mh mh' → Q (.tup ((at_ rows nd).map .str)) mh') : (m_links_at [netD a rows c d, .str nd] mh).wp Q E := by
  have hz : (1000 : Nat) ≤ sizeLine := by decide
  unfold m_links_at netD
  simp
  refine comp_wp (fun i acc h => acc = (at_ (rows.take i) nd).map .str ∧ h = mh ++ [.lst acc]) [] (by simp) ⟨by simp [at_], by simp⟩ ?_ ?_ ?_
  · rintro i acc h ⟨rfl, rfl⟩; simp
  · rintro i e acc h he ⟨rfl, rfl⟩
    obtain ⟨l, hlg, rfl⟩ : ∃ w, rows[i]? = some w ∧ rowD w = e := by
      rw [List.getElem?_map] at he
      cases hx : rows[i]? with
      | none => rw [hx] at he; cases he
      | some w => rw [hx] at he; exact ⟨w, rfl, Option.some.inj he⟩
    have hi := (List.getElem?_eq_some_iff.mp hlg).1
    have tk : rows.take (i + 1) = rows.take i ++ [l] := by rw [List.take_add_one, hlg]; rfl
    have bl : (at_ (rows.take i) nd).length ≤ 500 := by
      unfold at_
      rw [List.length_map]
      exact Nat.le_trans (List.length_filter_le _ _) (by rw [List.length_take]; omega)
    refine ⟨rfl, _, rfl, ?_⟩
    simp [setMany, wipeD, rowD]
    refine ⟨by omega, ?_⟩
    rw [o_in_s (l := [l.2.1, l.2.2]) rfl]
    have sn : at_ (rows.take (i + 1)) nd = at_ (rows.take i) nd ++ if nd ∈ [l.2.1, l.2.2] then [l.1] else [] := by
      rw [tk]; unfold at_
      rw [List.filter_append, List.map_append]
      by_cases h : nd ∈ [l.2.1, l.2.2]
      · have e1 : [l].filter (fun l => decide (nd ∈ [l.2.1, l.2.2])) = [l] := by
          show (match decide (nd ∈ [l.2.1, l.2.2]) with | true => l :: [] | false => []) = [l]
          rw [decide_eq_true h]
        rw [if_pos h, e1]; rfl
      · have e1 : [l].filter (fun l => decide (nd ∈ [l.2.1, l.2.2])) = [] := by
          show (match decide (nd ∈ [l.2.1, l.2.2]) with | true => l :: [] | false => []) = []
          rw [decide_eq_false h]
        rw [if_neg h, e1]; rfl
    by_cases h : nd ∈ [l.2.1, l.2.2]
    · rw [if_pos h] at sn
      simp only [owp_some, decide_eq_true h]
      refine .inr ⟨trivial, by simp, by simpa using (by omega : (at_ (rows.take i) nd).length < sizeLine), by rw [sn]; simp, by simp⟩
    · rw [if_neg h] at sn
      simp only [owp_some, decide_eq_false h]
      exact .inl ⟨trivial, by rw [sn]; simp, trivial⟩
  · rintro acc h ⟨rfl, rfl⟩
    refine ⟨rfl, ?_⟩
    have : rows.take (rows.map rowD).length = rows := by simp
    rw [this]
    simp
    exact hq _ (Pre.push mh _)
theorem weights_ok {nm : Str} (hl : rows.length ≤ 500) (hq : ∀ mh', Pre mh mh' → Q (.tup (rows.map fun l => .int (if l.1 = nm then 1 else 0))) mh') : (m_weights_alone [netD a rows c d, .str nm] mh).wp Q E := by
  have hz : (1000 : Nat) ≤ sizeLine := by decide
  unfold m_weights_alone netD
  simp
  refine comp_wp (fun i acc h => acc = (rows.take i).map (fun l => D.int (if l.1 = nm then 1 else 0)) ∧ h = mh ++ [.lst acc]) [] (by simp) ⟨by simp, by simp⟩ ?_ ?_ ?_
  · rintro i acc h ⟨rfl, rfl⟩; simp
  · rintro i e acc h he ⟨rfl, rfl⟩
    obtain ⟨l, hlg, rfl⟩ : ∃ w, rows[i]? = some w ∧ rowD w = e := by
      rw [List.getElem?_map] at he
      cases hx : rows[i]? with
      | none => rw [hx] at he; cases he
      | some w => rw [hx] at he; exact ⟨w, rfl, Option.some.inj he⟩
    have hi := (List.getElem?_eq_some_iff.mp hlg).1
    refine ⟨rfl, _, rfl, ?_⟩
    simp [setMany, wipeD, rowD, oInt]
    refine ⟨by omega, ?_⟩
    rw [List.take_add_one]
    simp [hlg]
  · rintro acc h ⟨rfl, rfl⟩
    refine ⟨rfl, ?_⟩
    have : rows.take (rows.map rowD).length = rows := by simp
    rw [this]
    simp
    exact hq _ (Pre.push mh _)
end
end K03
namespace K03
open PySem Det
theorem plain_s {n : Nat} {x : Str} : plain n (.str x) = true := by cases n <;> rfl
theorem plain_i {n : Nat} {i : Int} : plain n (.int i) = true := by cases n <;> rfl
theorem plain_t {n : Nat} {xs : List D} (h : xs.length ≤ 1000) (ha : ∀ x ∈ xs, plain n x = true) : plain (n + 1) (.tup xs) = true := by
  simp only [plain, Bool.and_eq_true, decide_eq_true_eq, List.all_eq_true]
  exact ⟨h, ha⟩
theorem plain_strs {n : Nat} {xs : List Str} (h : xs.length ≤ 1000) : plain (n + 1) (.tup (xs.map .str)) = true := plain_t (by simpa using h) fun x hx => by
  obtain ⟨y, _, rfl⟩ := List.mem_map.mp hx
  exact plain_s
theorem plain_row {n : Nat} (l : Row) : plain (n + 1) (rowD l) = true := plain_t (by simp) fun x hx => by
  simp at hx
  rcases hx with rfl | rfl | rfl <;> exact plain_s
theorem plain_net {n : Nat} {a c d : List Str} {rows : List Row} (h1 : a.length ≤ 1000) (h2 : rows.length ≤ 1000) (h3 : c.length ≤ 1000) (h4 : d.length ≤ 1000) : plain (n + 3) (netD a rows c d) = true := plain_t (by simp) fun x hx => by
  simp at hx
  rcases hx with rfl | rfl | rfl | rfl
  · exact plain_strs h1
  · exact plain_t (by simpa using h2) fun y hy => by
      obtain ⟨l, _, rfl⟩ := List.mem_map.mp hy
      exact plain_row l
  · exact plain_strs h3
  · exact plain_strs h4
theorem weights_eq {rows : List Row} (hn : (rows.map (·.1)).Nodup) {i : Nat} {nm : Str} (hi : i < rows.length) (e : rows[i].1 = nm) :
    (rows.map fun l => D.int (if l.1 = nm then 1 else 0)) = List.replicate i (.int 0) ++ [.int 1] ++ List.replicate (rows.length - i - 1) (.int 0) := by
  refine List.ext_getElem (by simp; omega) fun j h1 h2 => ?_
  rw [List.length_map] at h1
  rw [List.getElem_map]
  by_cases hji : j = i
  · subst hji
    rw [if_pos e]
    rw [List.getElem_append_left (by simp), List.getElem_append_right (by simp)]
    simp
  · have hne : ¬ rows[j].1 = nm := fun e2 => hji (by
      have h1 : (rows.map (·.1))[j]'(by simpa using h1) = (rows.map (·.1))[i]'(by simpa using hi) := by simp [e, e2]
      exact (List.getElem_inj hn).mp h1)
    rw [if_neg hne]
    by_cases hlt : j < i
    · rw [List.getElem_append_left (by simp; omega), List.getElem_append_left (by simpa using hlt)]
      simp
    · rw [List.getElem_append_right (by simp; omega)]
      simp
theorem read_ok {a c d : List Str} {rows : List Row} {mh : MH} {Q : D → MH → Prop} {E : Exn → MH → Prop} (hn : (rows.map (·.1)).Nodup) (h1 : a.length ≤ 200) (h2 : rows.length ≤ 200)
    (hq : ∀ mh', Pre mh mh' → Q (.bl true) mh') : (m__law_read [netD a rows c d] mh).wp Q E := by
  have hz : (1000 : Nat) ≤ sizeLine := by decide
  have en : netD a rows c d = .tup [.tup (a.map .str), .tup (rows.map rowD), .tup (c.map .str), .tup (d.map .str)] := rfl
  unfold m__law_read
  rw [wp_runF]
  have hmul : ∀ (k : Int) (m : MH), 0 ≤ k → k ≤ 200 → oMulX (.tup [.int 0]) (.int k) m = some (.tup (List.replicate k.toNat (.int 0)), m) := fun k m h1 h2 => by
    rw [o_mul_t h1 (by omega) (by simp), rep1]
  let J (e : Nv) (h : MH) : Prop := ∃ v2 v3 v4 v5 v6, e = [some (netD a rows c d), some (.int (rows.length : Nat)), v2, v3, v4, v5, v6] ∧ Pre mh h
  refine seq_cut J ?_ ?_
  · simp
    rw [en]
    simp
    exact ⟨_, _, _, _, _, rfl, Pre.refl mh⟩
  rintro e h ⟨v2, v3, v4, v5, v6, rfl, pre⟩
  refine seq_cut J ?_ ?_
  · simp
    refine zero_ok (by omega) ?_
    refine ⟨by omega, ?_⟩
    rw [hmul _ _ (by omega) (by omega)]
    simp
    refine same_ok rfl (plain_t (by simp; omega) fun x hx => ?_) ?_
    · rw [(List.mem_replicate.mp hx).2]; exact plain_i
    · simp
      exact ⟨_, _, _, _, _, rfl, pre⟩
  rintro e h ⟨v2, v3, v4, v5, v6, rfl, pre⟩
  rw [wp_sq, wp_sfor, wp_range1, wp_vr]
  refine ⟨.int (rows.length : Nat), rfl, _, rfl, okB_of (by omega) (by omega), ?_⟩
  · refine loop_wp (fun i => J) ⟨_, _, _, _, _, rfl, pre⟩ ?_ ?_
    · rintro i d0 env h hd ⟨v2, v3, v4, v5, v6, rfl, pre⟩
      obtain ⟨hi, rfl⟩ := rgD_get hd
      refine ⟨rfl, _, rfl, ?_⟩
      have gr : L2.atI (rows.map rowD) (i : Nat) = some (rowD rows[i]) := by rw [atI_nat, get_row hi]
      have go1 : ∀ (k : Int) (m : MH) (Q : D → MH → Prop), owp (oIx (netD a rows c d) (.int 1) m) Q ↔ Q (.tup (rows.map rowD)) m := fun k m Q => by rw [en]; simp
      have go0 : ∀ (k : Int) (m : MH) (Q : D → MH → Prop), owp (oIx (netD a rows c d) (.int 1) m) Q ↔ Q (.tup (rows.map rowD)) m := fun k m Q => by rw [en]; simp
      simp [go1 0, gr, rowD]
      refine ends_of_ok hn hi rfl ⟨by omega, same_ok rfl (plain_t (by simp) fun x hx => ?_) (.inr ⟨rfl, ?_⟩)⟩
      · simp at hx
        rcases hx with rfl | rfl <;> exact plain_s
      refine place_ok hn hi rfl (same_ok rfl plain_i (.inr ⟨rfl, ?_⟩))
      refine weights_ok (by omega) fun h2 p2 => ⟨by omega, ?_⟩
      rw [hmul _ _ (by omega) (by omega), owp_some]
      refine ⟨by omega, ?_⟩
      rw [o_add_t]
      refine ⟨by simp; omega, by omega, ?_⟩
      rw [hmul _ _ (by omega) (by omega), owp_some, o_add_t]
      refine ⟨by simp; omega, same_ok ?_ (plain_t (by simp; omega) fun x hx => ?_) (.inr ⟨rfl, ?_⟩)⟩
      · rw [weights_eq hn hi rfl, show ((i : Nat) : Int).toNat = i by omega, show ((rows.length : Int) - (i : Nat) - 1).toNat = rows.length - i - 1 by omega]
      · simp at hx
        rcases hx with ⟨_, rfl⟩ | rfl | ⟨_, rfl⟩ <;> exact plain_i
      exact ⟨_, _, _, _, _, rfl, pre.trans p2⟩
    · rintro env h ⟨v2, v3, v4, v5, v6, rfl, pre⟩
      refine ⟨rfl, ?_⟩
      show (sq _ _ _ _).wp _
      rw [wp_sq, wp_sfor, wp_iter, wp_bi, wp_vr]
      refine ⟨_, rfl, ?_⟩
      rw [wp_kn, en, ix_tup]
      refine ⟨.tup (a.map .str), by simp, ⟨_, rfl, ?_⟩⟩
      rw [← en]
      refine loop_wp (fun i => J) ⟨_, _, _, _, _, rfl, pre⟩ ?_ ?_
      · rintro i d0 env h hd ⟨v2, v3, v4, v5, v6, rfl, pre⟩
        obtain ⟨nd, _, rfl⟩ : ∃ w, a[i]? = some w ∧ D.str w = d0 := by
          rw [List.getElem?_map] at hd
          cases hx : a[i]? with
          | none => rw [hx] at hd; cases hd
          | some w => rw [hx] at hd; exact ⟨w, rfl, Option.some.inj hd⟩
        refine ⟨rfl, _, rfl, ?_⟩
        rw [wp_sq, wp_sst, wp_lc, wp_iter, wp_bi, wp_vr]
        refine ⟨_, rfl, ?_⟩
        rw [wp_kn, en, ix_tup]
        refine ⟨.tup (rows.map rowD), by simp, ⟨_, rfl, ?_⟩⟩
        rw [← en]
        refine comp_wp (fun i acc h2 => acc = (at_ (rows.take i) nd).map .str ∧ h2 = h ++ [.lst acc]) [] (by simp) ⟨by simp [at_], by simp⟩ ?_ ?_ ?_
        · rintro i acc h2 ⟨rfl, rfl⟩; simp
        · rintro i e acc h2 he ⟨rfl, rfl⟩
          obtain ⟨l, hlg, rfl⟩ : ∃ w, rows[i]? = some w ∧ rowD w = e := by
            rw [List.getElem?_map] at he
            cases hx : rows[i]? with
            | none => rw [hx] at he; cases he
            | some w => rw [hx] at he; exact ⟨w, rfl, Option.some.inj he⟩
          have hi := (List.getElem?_eq_some_iff.mp hlg).1
          have tk : rows.take (i + 1) = rows.take i ++ [l] := by rw [List.take_add_one, hlg]; rfl
          have bl : (at_ (rows.take i) nd).length ≤ 500 := by
            unfold at_
            rw [List.length_map]
            exact Nat.le_trans (List.length_filter_le _ _) (by rw [List.length_take]; omega)
          refine ⟨rfl, _, rfl, ?_⟩
          simp [wipeD, rowD]
          refine ⟨by omega, ?_⟩
          rw [o_in_s (l := [l.2.1, l.2.2]) rfl]
          have sn : at_ (rows.take (i + 1)) nd = at_ (rows.take i) nd ++ if nd ∈ [l.2.1, l.2.2] then [l.1] else [] := by
            rw [tk]; unfold at_
            rw [List.filter_append, List.map_append]
            by_cases h : nd ∈ [l.2.1, l.2.2]
            · have e1 : [l].filter (fun l => decide (nd ∈ [l.2.1, l.2.2])) = [l] := by
                show (match decide (nd ∈ [l.2.1, l.2.2]) with | true => l :: [] | false => []) = [l]
                rw [decide_eq_true h]
              rw [if_pos h, e1]; rfl
            · have e1 : [l].filter (fun l => decide (nd ∈ [l.2.1, l.2.2])) = [] := by
                show (match decide (nd ∈ [l.2.1, l.2.2]) with | true => l :: [] | false => []) = []
                rw [decide_eq_false h]
              rw [if_neg h, e1]; rfl
          by_cases h : nd ∈ [l.2.1, l.2.2]
          · rw [if_pos h] at sn
            simp only [owp_some, decide_eq_true h]
            refine .inr ⟨trivial, by simp, by simpa using (by omega : (at_ (rows.take i) nd).length < sizeLine), by rw [sn]; simp, by simp⟩
          · rw [if_neg h] at sn
            simp only [owp_some, decide_eq_false h]
            exact .inl ⟨trivial, by rw [sn]; simp, trivial⟩
        · rintro acc h2 ⟨rfl, rfl⟩
          refine ⟨rfl, ?_⟩
          have : rows.take (rows.map rowD).length = rows := by simp
          rw [this]
          have lb : (at_ rows nd).length ≤ 500 := by
            unfold at_
            rw [List.length_map]
            exact Nat.le_trans (List.length_filter_le _ _) (by omega)
          simp
          refine links_at_ok (by omega) fun h3 p3 => ?_
          simp [p3.get (n := h.length) (o := .lst ((at_ rows nd).map .str)) (by simp)]
          refine same_ok rfl (plain_strs (by omega)) (.inr ⟨rfl, ?_⟩)
          exact ⟨_, _, _, _, _, rfl, (pre.trans (Pre.push h _)).trans p3⟩
      · rintro env h ⟨v2, v3, v4, v5, v6, rfl, pre⟩
        exact ⟨rfl, by simpa using hq h pre⟩
end K03
namespace K03
open PySem Det
def unS : D → Str
  | .str x => x
  | _ => Str.empty
def unR : D → Row
  | .tup [.str a, .str b, .str c] => (a, b, c)
  | _ => (Str.empty, Str.empty, Str.empty)
theorem unmap {α : Type} {f : α → D} {g : D → α} (hg : ∀ x, g (f x) = x) {ys : List D} {xs : List α} (h : ∀ y ∈ ys, y ∈ xs.map f) : ys = (ys.map g).map f ∧ ∀ z ∈ ys.map g, z ∈ xs := by
  refine ⟨?_, fun z hz => ?_⟩
  · rw [List.map_map]
    refine (List.map_id ys).symm.trans (List.map_congr_left fun y hy => ?_)
    obtain ⟨x, _, rfl⟩ := List.mem_map.mp (h y hy)
    show f x = f (g (f x))
    rw [hg]
  · obtain ⟨y, hy, rfl⟩ := List.mem_map.mp hz
    obtain ⟨x, hx, rfl⟩ := List.mem_map.mp (h y hy)
    rw [hg]; exact hx
theorem unperm {α : Type} {f : α → D} {g : D → α} (hg : ∀ x, g (f x) = x) {ys : List D} {xs : List α} (h : ys.Perm (xs.map f)) : ∃ zs : List α, ys = zs.map f ∧ zs.Perm xs := by
  refine ⟨ys.map g, (unmap hg fun y hy => h.mem_iff.mp hy).1, ?_⟩
  have := h.map g
  rw [List.map_map] at this
  have e : xs.map (g ∘ f) = xs := (List.map_congr_left fun x _ => hg x).trans (List.map_id xs)
  rw [e] at this
  exact this
theorem unS_str (x : Str) : unS (.str x) = x := rfl
theorem unR_row (l : Row) : unR (rowD l) = l := rfl
theorem some_s {p n r : Nat} {xs : List Str} {mh : MH} {Q : D → MH → Prop} {E : Exn → MH → Prop} (hp : PoolB p n mh) (hn : n ≤ mh.length) (hr : mh[r]? = some (.lst (xs.map .str))) (hxl : xs.length ≤ 200)
    (hq : ∀ (R : Nat) (ys : List Str) mh', mh.length ≤ R → (∀ y ∈ ys, y ∈ xs) → ys.length ≤ 2 * xs.length → PoolB p n mh' → Fr p mh mh' → mh'[R]? = some (.lst (ys.map .str)) → Q (.ref R) mh') : (m__law_some [.ref p, .ref r] mh).wp Q E :=
  some_ok hp hn hr (strs_pool hp hr) (by simp; omega) fun R ys mh' h1 h2 h3 h4 h5 h6 => by
    obtain ⟨e, hm⟩ := unmap (f := D.str) unS_str h2
    rw [e] at h6
    exact hq R _ mh' h1 hm (by simpa using h3) h4 h5 h6
theorem made_ok {p n many count : Nat} {mh : MH} {Q : D → MH → Prop} {E : Exn → MH → Prop} (hp : PoolB p n mh) (hn : n ≤ mh.length) (hm : many ≤ 60) (hc : count ≤ 60)
    (hq : ∀ mh', PoolB p n mh' → Fr p mh mh' → Q (.bl true) mh') : (m__law_made [.ref p, .int (many : Nat), .int (count : Nat)] mh).wp Q E := by
  have hz : (1000 : Nat) ≤ sizeLine := by decide
  have hpn : p < n := hp.1
  unfold m__law_made
  rw [wp_runF]
  show (sq _ _ [some (.ref p), some (.int (many : Nat)), some (.int (count : Nat)), none, none, none, none, none, none, none, none, none, none, none, none] mh).wp _
  rw [wp_sq]
  simp only [wp_cal, wp_calK, wp_acons, wp_vr, wp_anil, wp_kn, wp_dlst, wp_dtup, wp_ap, wp_bi, wp_tor, wp_tnot, wp_tru, wp_tb, wp_eand, wp_ret, wp_sst, wp_sif, wp_iter, wp_lc, wp_nop, List.set_cons_succ, List.set_cons_zero, List.getElem?_cons_succ, List.getElem?_cons_zero, Option.some.injEq, exists_eq_left', List.length_cons, List.length_nil, true_and, Nat.zero_add, Nat.reduceAdd]
  refine ⟨by omega, words_ok (os := []) (hp.push _) (by simp; omega) (by simp) (by simp) (by simp) hm fun ws h1 nd wl wb hp1 f1 g1 => ?_⟩
  have F1 : Fr p mh h1 := (Fr.push p mh _).trans f1
  have eN : (mh ++ [Ob.lst []]).length = mh.length + 1 := by simp
  rw [eN] at g1 ⊢
  generalize hN : mh.length + 1 = N at g1 ⊢
  have Np : N ≠ p := by omega
  have nN : n ≤ N := by omega
  rw [wp_sq]
  simp only [wp_cal, wp_calK, wp_acons, wp_vr, wp_anil, wp_kn, wp_dlst, wp_dtup, wp_ap, wp_bi, wp_tor, wp_tnot, wp_tru, wp_tb, wp_eand, wp_ret, wp_sst, wp_sif, wp_iter, wp_lc, wp_nop, List.set_cons_succ, List.set_cons_zero, List.getElem?_cons_succ, List.getElem?_cons_zero, Option.some.injEq, exists_eq_left', List.length_cons, List.length_nil, true_and, Nat.zero_add, Nat.reduceAdd]
  refine ⟨by omega, ?_⟩
  have q1 := (List.getElem?_eq_some_iff.mp g1).1
  let J (e : Nv) (h : MH) : Prop := ∃ (Lr : Nat) (ls : List Row), e = [some (.ref p), some (.int (many : Nat)), some (.int (count : Nat)), some (.ref N), some (.ref Lr), none, none, none, none, none, none, none, none, none, none] ∧ h[Lr]? = some (.lst (ls.map rowD)) ∧ n ≤ Lr ∧ (ls.map (·.1)).Nodup ∧ ls.length ≤ 60 ∧ PoolB p n h ∧ Fr p mh h ∧ h[N]? = some (.lst (ws.map .str)) ∧ n ≤ h.length
  refine seq_cut J ?_ ?_
  · simp only [wp_cal, wp_calK, wp_acons, wp_vr, wp_anil, wp_kn, wp_dlst, wp_dtup, wp_ap, wp_bi, wp_tor, wp_tnot, wp_tru, wp_tb, wp_eand, wp_ret, wp_sst, wp_sif, wp_iter, wp_lc, wp_nop, List.set_cons_succ, List.set_cons_zero, List.getElem?_cons_succ, List.getElem?_cons_zero, Option.some.injEq, exists_eq_left', List.length_cons, List.length_nil, true_and, Nat.zero_add, Nat.reduceAdd]
    simp only [o_gt_i, owp_some, D.bl.injEq, exists_eq_left']
    refine ⟨fun hb => ?_, fun _ => ⟨h1.length, [], rfl, by simp, by omega, by simp, by simp, hp1.push _, F1.add, (Pre.push h1 _).get g1, by simp; omega⟩⟩
    have hm2 : 1 < many := by
      have h : (1 : Int) < many := by simpa using hb
      omega
    refine words_ok (os := ws) (hp1.push _) (by simp; omega) ((Pre.push h1 _).get g1) wb (by omega) hc fun ns h2 nd2 wl2 wb2 hp2 f2 g2 => ?_
    have F2 := F1.add.trans f2
    have gN := f2.get ((Pre.push h1 (.lst [])).get g1) Np
    have q2 := (List.getElem?_eq_some_iff.mp g2).1
    refine links_ok hp2 (by simp at q2; omega) gN g2 (by omega) (by omega) (by omega) fun ls h3 e1 hm3 hp3 f3 g3 => ?_
    have q3 := (List.getElem?_eq_some_iff.mp g3).1
    exact ⟨h2.length, ls, rfl, g3, by simp at q2; omega, by rw [e1]; exact nd2, by rw [← List.length_map (f := (·.1)), e1]; omega, hp3, F2.trans f3, f3.get gN Np, by simp at q2; omega⟩
  rintro e h2 ⟨Lr, ls, rfl, gL, nL, ndl, lsl, hp2, F2, gN, hl2⟩
  have Lp : Lr ≠ p := by omega
  -- monitors
  rw [wp_sq]
  simp only [wp_cal, wp_calK, wp_acons, wp_vr, wp_anil, wp_kn, wp_dlst, wp_dtup, wp_ap, wp_bi, wp_tor, wp_tnot, wp_tru, wp_tb, wp_eand, wp_ret, wp_sst, wp_sif, wp_iter, wp_lc, wp_nop, List.set_cons_succ, List.set_cons_zero, List.getElem?_cons_succ, List.getElem?_cons_zero, Option.some.injEq, exists_eq_left', List.length_cons, List.length_nil, true_and, Nat.zero_add, Nat.reduceAdd]
  refine some_s hp2 hl2 gN (by omega) fun Mr ms h3 lM mM cM hp3 f3 gM => ?_
  have gN3 := f3.get gN Np
  have gL3 := f3.get gL Lp
  have l3 := f3.1
  have Mp : Mr ≠ p := by omega
  -- given
  rw [wp_sq]
  simp only [wp_cal, wp_calK, wp_acons, wp_vr, wp_anil, wp_kn, wp_dlst, wp_dtup, wp_ap, wp_bi, wp_tor, wp_tnot, wp_tru, wp_tb, wp_eand, wp_ret, wp_sst, wp_sif, wp_iter, wp_lc, wp_nop, List.set_cons_succ, List.set_cons_zero, List.getElem?_cons_succ, List.getElem?_cons_zero, Option.some.injEq, exists_eq_left', List.length_cons, List.length_nil, true_and, Nat.zero_add, Nat.reduceAdd]
  rw [itD_ref gL3]
  simp only [wp_cal, wp_calK, wp_acons, wp_vr, wp_anil, wp_kn, wp_dlst, wp_dtup, wp_ap, wp_bi, wp_tor, wp_tnot, wp_tru, wp_tb, wp_eand, wp_ret, wp_sst, wp_sif, wp_iter, wp_lc, wp_nop, List.set_cons_succ, List.set_cons_zero, List.getElem?_cons_succ, List.getElem?_cons_zero, Option.some.injEq, exists_eq_left', List.length_cons, List.length_nil, true_and, Nat.zero_add, Nat.reduceAdd]
  refine comp_wp (fun i acc h => acc = (ls.take i).map (fun l => D.str l.1) ∧ h = h3 ++ [.lst acc]) [] (by simp) ⟨by simp, rfl⟩ ?_ ?_ ?_
  · rintro i acc h ⟨rfl, rfl⟩; simp
  · rintro i d acc h hd ⟨rfl, rfl⟩
    obtain ⟨l, hl, rfl⟩ : ∃ w, ls[i]? = some w ∧ rowD w = d := by
      rw [List.getElem?_map] at hd
      cases hx : ls[i]? with
      | none => rw [hx] at hd; cases hd
      | some w => rw [hx] at hd; exact ⟨w, rfl, Option.some.inj hd⟩
    have hi := (List.getElem?_eq_some_iff.mp hl).1
    refine ⟨lstIs_of ((Pre.push h3 _).get gL3), _, rfl, ?_⟩
    simp [wipeD, rowD]
    refine ⟨by omega, ?_⟩
    rw [List.take_add_one]
    simp [hl]
  · rintro acc h ⟨rfl, rfl⟩
    refine ⟨lstIs_of ((Pre.push h3 _).get gL3), ?_⟩
    have e0 : (ls.take (ls.map rowD).length).map (fun l => D.str l.1) = (ls.map (·.1)).map .str := by simp
    rw [e0]
    have P3 := Pre.push h3 (.lst ((ls.map (·.1)).map .str))
    refine some_s (r := h3.length) (xs := ls.map (·.1)) (P3.pool hp3) (by simp; omega) (by simp) (by simp; omega) fun Gr gs h4 lG mG cG hp4 f4 gG => ?_
    have F4 := ((F2.trans f3).trans (P3.fr p)).trans f4
    have gN4 := f4.get (P3.get gN3) Np
    have gL4 := f4.get (P3.get gL3) Lp
    have gM4 := f4.get (P3.get gM) Mp
    have l4 := f4.1
    have l3' : (h3 ++ [Ob.lst ((ls.map (·.1)).map D.str)]).length = h3.length + 1 := by simp
    have Gp : Gr ≠ p := by omega
    have cG2 : gs.length ≤ 120 := by simp at cG; omega
    have cM2 : ms.length ≤ 120 := by omega
    -- twice
    rw [wp_sq]
    simp only [wp_cal, wp_calK, wp_acons, wp_vr, wp_anil, wp_kn, wp_dlst, wp_dtup, wp_ap, wp_bi, wp_tor, wp_tnot, wp_tru, wp_tb, wp_eand, wp_ret, wp_sst, wp_sif, wp_iter, wp_lc, wp_nop, List.set_cons_succ, List.set_cons_zero, List.getElem?_cons_succ, List.getElem?_cons_zero, Option.some.injEq, exists_eq_left', List.length_cons, List.length_nil, true_and, Nat.zero_add, Nat.reduceAdd]
    refine some_s hp4 (by omega) gN4 (by omega) fun Tr ts h5 lT mT cT hp5 f5 gT => ?_
    have gN5 := f5.get gN4 Np
    rw [o_add_l gN5 gT (by simp; omega), owp_some]
    have P5 := Pre.push h5 (.lst (ws.map D.str ++ ts.map D.str))
    have l5 := f5.1
    refine shuffled_ok (P5.pool hp5) (by simp; omega) (r := h5.length) (xs := ws.map D.str ++ ts.map D.str) (by simp) (by omega) (by simp; omega) fun tw h6 pm hp6 f6 gW => ?_
    rw [← List.map_append] at pm
    obtain ⟨tws, rfl, pm2⟩ := unperm (f := D.str) unS_str pm
    have F6 := ((F4.trans f5).trans (P5.fr p)).trans f6
    have up6 : ∀ {r : Nat} {o : Ob}, r ≠ p → h4[r]? = some o → h6[r]? = some o := fun hr g => f6.get (P5.get (f5.get g hr)) hr
    have gN6 := up6 Np gN4
    have gL6 := up6 Lp gL4
    have gM6 := up6 Mp gM4
    have gG6 := up6 Gp gG
    rw [o_tuple]
    refine ⟨_, items_ref.mpr gW, ?_⟩
    have twl : tws.length ≤ 200 := by rw [pm2.length_eq]; simp; omega
    have twm : lotS tws = lotS ws := lotS_congr fun a => by
      rw [pm2.mem_iff, List.mem_append]
      exact ⟨fun q => q.elim id (mT a), .inl⟩
    -- due
    rw [wp_sq]
    simp only [wp_cal, wp_calK, wp_acons, wp_vr, wp_anil, wp_kn, wp_dlst, wp_dtup, wp_ap, wp_bi, wp_tor, wp_tnot, wp_tru, wp_tb, wp_eand, wp_ret, wp_sst, wp_sif, wp_iter, wp_lc, wp_nop, List.set_cons_succ, List.set_cons_zero, List.getElem?_cons_succ, List.getElem?_cons_zero, Option.some.injEq, exists_eq_left', List.length_cons, List.length_nil, true_and, Nat.zero_add, Nat.reduceAdd]
    refine due_ok gN6 gL6 gM6 gG6 (by omega) (by omega) (by omega) (by omega) ndl fun h7 P7 => ?_
    generalize hdue : Det.isort leR (ls.map nrm) = rows
    have rown : (rows.map (·.1)).Nodup := by
      rw [← hdue]
      exact ((isort_perm_self (le := leR) (ls.map nrm)).map (·.1)).nodup_iff.mpr (by rw [nrm_names]; exact ndl)
    have rowl : rows.length = ls.length := by rw [← hdue, (isort_perm_self (le := leR) _).length_eq, List.length_map]
    -- net
    rw [wp_sq]
    simp only [wp_cal, wp_calK, wp_acons, wp_vr, wp_anil, wp_kn, wp_dlst, wp_dtup, wp_ap, wp_bi, wp_tor, wp_tnot, wp_tru, wp_tb, wp_eand, wp_ret, wp_sst, wp_sif, wp_iter, wp_lc, wp_nop, List.set_cons_succ, List.set_cons_zero, List.getElem?_cons_succ, List.getElem?_cons_zero, Option.some.injEq, exists_eq_left', List.length_cons, List.length_nil, true_and, Nat.zero_add, Nat.reduceAdd]
    simp only [o_tuple, items_ref, P7.get gL6, P7.get gM6, P7.get gG6, Option.some.injEq, Ob.lst.injEq, exists_eq_left']
    refine make_ok (by omega) (by omega) (by omega) (by omega) fun h8 P8 => ?_
    rw [twm, hdue]
    have lot_len : ∀ xs : List Str, (lotS xs).length ≤ xs.length := fun xs => (lotS_nodup xs).length_le_of_subset fun a ha => (lotS_mem xs a).mp ha
    have pn : plain 11 (netD (lotS ws) rows (lotS ms) (lotS gs)) = true := by
      have a1 := lot_len ws
      have a2 := lot_len ms
      have a3 := lot_len gs
      exact plain_net (n := 8) (by omega) (by omega) (by omega) (by omega)
    rw [wp_sq]
    simp only [wp_cal, wp_calK, wp_acons, wp_vr, wp_anil, wp_kn, wp_dlst, wp_dtup, wp_ap, wp_bi, wp_tor, wp_tnot, wp_tru, wp_tb, wp_eand, wp_ret, wp_sst, wp_sif, wp_iter, wp_lc, wp_nop, List.set_cons_succ, List.set_cons_zero, List.getElem?_cons_succ, List.getElem?_cons_zero, Option.some.injEq, exists_eq_left', List.length_cons, List.length_nil, true_and, Nat.zero_add, Nat.reduceAdd]
    refine same_ok rfl pn ⟨_, rfl, ?_⟩
    refine ⟨fun hb => absurd hb (by simp), fun _ => ?_⟩
    have a1 := lot_len ws
    refine read_ok rown (by omega) (by omega) fun h9 P9 => ⟨_, rfl, ?_⟩
    refine ⟨fun hb => absurd hb (by simp), fun _ => ?_⟩
    have PP := (P7.trans P8).trans P9
    have gL9 := PP.get gL6
    have gM9 := PP.get gM6
    have gG9 := PP.get gG6
    have gN9 := PP.get gN6
    have l9 := PP.le
    have l6 := f6.1
    -- back
    rw [wp_sq]
    simp only [wp_cal, wp_calK, wp_acons, wp_vr, wp_anil, wp_kn, wp_dlst, wp_dtup, wp_ap, wp_bi, wp_tor, wp_tnot, wp_tru, wp_tb, wp_eand, wp_ret, wp_sst, wp_sif, wp_iter, wp_lc, wp_nop, List.set_cons_succ, List.set_cons_zero, List.getElem?_cons_succ, List.getElem?_cons_zero, Option.some.injEq, exists_eq_left', List.length_cons, List.length_nil, true_and, Nat.zero_add, Nat.reduceAdd]
    refine shuffled_ok (PP.pool hp6) (by simp at l6; omega) gL9 Lp (by simp; omega) fun bk h10 pmb hp10 f10 gB => ?_
    obtain ⟨bks, rfl, pmc⟩ := unperm (f := rowD) unR_row pmb
    rw [o_tuple]
    refine ⟨_, items_ref.mpr gB, ?_⟩
    have bkl : bks.length ≤ 60 := by rw [pmc.length_eq]; exact lsl
    -- turned
    rw [wp_sq]
    simp only [wp_cal, wp_calK, wp_acons, wp_vr, wp_anil, wp_kn, wp_dlst, wp_dtup, wp_ap, wp_bi, wp_tor, wp_tnot, wp_tru, wp_tb, wp_eand, wp_ret, wp_sst, wp_sif, wp_iter, wp_lc, wp_nop, List.set_cons_succ, List.set_cons_zero, List.getElem?_cons_succ, List.getElem?_cons_zero, Option.some.injEq, exists_eq_left', List.length_cons, List.length_nil, true_and, Nat.zero_add, Nat.reduceAdd]
    rw [itD_tup]
    simp only [wp_cal, wp_calK, wp_acons, wp_vr, wp_anil, wp_kn, wp_dlst, wp_dtup, wp_ap, wp_bi, wp_tor, wp_tnot, wp_tru, wp_tb, wp_eand, wp_ret, wp_sst, wp_sif, wp_iter, wp_lc, wp_nop, List.set_cons_succ, List.set_cons_zero, List.getElem?_cons_succ, List.getElem?_cons_zero, Option.some.injEq, exists_eq_left', List.length_cons, List.length_nil, true_and, Nat.zero_add, Nat.reduceAdd]
    refine comp_wp (fun i acc h => acc = (bks.take i).map (fun l => rowD (swp l)) ∧ h = h10 ++ [.lst acc]) [] (by simp) ⟨by simp, rfl⟩ ?_ ?_ ?_
    · rintro i acc h ⟨rfl, rfl⟩; simp
    · rintro i d acc h hd ⟨rfl, rfl⟩
      obtain ⟨l, hl, rfl⟩ : ∃ w, bks[i]? = some w ∧ rowD w = d := by
        rw [List.getElem?_map] at hd
        cases hx : bks[i]? with
        | none => rw [hx] at hd; cases hd
        | some w => rw [hx] at hd; exact ⟨w, rfl, Option.some.inj hd⟩
      have hi := (List.getElem?_eq_some_iff.mp hl).1
      refine ⟨rfl, _, rfl, ?_⟩
      simp [wipeD, rowD]
      refine ⟨by omega, by omega, ?_⟩
      rw [List.take_add_one]
      simp [hl, rowD, swp]
    · rintro acc h ⟨rfl, rfl⟩
      refine ⟨rfl, ?_⟩
      have e1 : (bks.take (bks.map rowD).length).map (fun l => rowD (swp l)) = (bks.map swp).map rowD := by simp
      rw [e1]
      have P10 := Pre.push h10 (.lst ((bks.map swp).map rowD))
      rw [o_tuple]
      refine ⟨(bks.map swp).map rowD, items_ref.mpr (by simp), ?_⟩
      have gM10 := P10.get (f10.get gM9 Mp)
      have gG10 := P10.get (f10.get gG9 Gp)
      have gN10 := P10.get (f10.get gN9 Np)
      have gL10 := P10.get (f10.get gL9 Lp)
      -- again
      rw [wp_sq]
      simp only [wp_cal, wp_calK, wp_acons, wp_vr, wp_anil, wp_kn, wp_dlst, wp_dtup, wp_ap, wp_bi, wp_tor, wp_tnot, wp_tru, wp_tb, wp_eand, wp_ret, wp_sst, wp_sif, wp_iter, wp_lc, wp_nop, List.set_cons_succ, List.set_cons_zero, List.getElem?_cons_succ, List.getElem?_cons_zero, Option.some.injEq, exists_eq_left', List.length_cons, List.length_nil, true_and, Nat.zero_add, Nat.reduceAdd]
      rw [o_add_l gM10 gM10 (by simp; omega), owp_some]
      have P11 := Pre.push (h10 ++ [Ob.lst ((bks.map swp).map rowD)]) (.lst (ms.map D.str ++ ms.map D.str))
      rw [o_tuple]
      refine ⟨ms.map D.str ++ ms.map D.str, items_ref.mpr (by simp), ?_⟩
      simp only [o_tuple, items_ref, P11.get gN10, P11.get gG10, Option.some.injEq, Ob.lst.injEq, exists_eq_left']
      simp only [pickD, List.map_cons, List.map_nil, List.getD_cons_succ, List.getD_cons_zero]
      rw [← List.map_append]
      refine make_ok (by omega) (by simp; omega) (by simp; omega) (by omega) fun h11 Q11 => ?_
      have emm : lotS (ms ++ ms) = lotS ms := lotS_congr fun a => by simp
      have erows : Det.isort leR ((bks.map swp).map nrm) = rows := by
        rw [← hdue, List.map_map, show nrm ∘ swp = nrm from funext nrm_swp]
        exact isort_rows_perm (pmc.map nrm) (by rw [nrm_names]; exact (pmc.map (·.1)).nodup_iff.mpr ndl)
      rw [emm, erows]
      rw [wp_sq]
      simp only [wp_cal, wp_calK, wp_acons, wp_vr, wp_anil, wp_kn, wp_dlst, wp_dtup, wp_ap, wp_bi, wp_tor, wp_tnot, wp_tru, wp_tb, wp_eand, wp_ret, wp_sst, wp_sif, wp_iter, wp_lc, wp_nop, List.set_cons_succ, List.set_cons_zero, List.getElem?_cons_succ, List.getElem?_cons_zero, Option.some.injEq, exists_eq_left', List.length_cons, List.length_nil, true_and, Nat.zero_add, Nat.reduceAdd]
      refine same_ok rfl pn ⟨_, rfl, ?_⟩
      refine ⟨fun hb => absurd hb (by simp), fun _ => ?_⟩
      -- plain
      rw [wp_sq]
      simp only [wp_cal, wp_calK, wp_acons, wp_vr, wp_anil, wp_kn, wp_dlst, wp_dtup, wp_ap, wp_bi, wp_tor, wp_tnot, wp_tru, wp_tb, wp_eand, wp_ret, wp_sst, wp_sif, wp_iter, wp_lc, wp_nop, List.set_cons_succ, List.set_cons_zero, List.getElem?_cons_succ, List.getElem?_cons_zero, Option.some.injEq, exists_eq_left', List.length_cons, List.length_nil, true_and, Nat.zero_add, Nat.reduceAdd]
      rw [show netD (lotS ws) rows (lotS ms) (lotS gs) = .tup [.tup ((lotS ws).map .str), .tup (rows.map rowD), .tup ((lotS ms).map .str), .tup ((lotS gs).map .str)] from rfl]
      simp only [ix_tup, atI_0, atI_1, atI_2, atI_3, Option.some.injEq, exists_eq_left']
      have a2 := lot_len ms
      have a3 := lot_len gs
      refine make_ok (by omega) (by omega) (by omega) (by omega) fun h12 P12 => ?_
      have erow2 : Det.isort leR (rows.map nrm) = rows := by
        have h0 : rows.map nrm = rows := by
          refine (List.map_congr_left fun x hx => ?_).trans (List.map_id rows)
          rw [← hdue] at hx
          obtain ⟨l, _, rfl⟩ := List.mem_map.mp ((isort_perm_self (le := leR) _).mem_iff.mp hx)
          exact nrm_nrm l
        rw [h0, ← hdue]
        exact (isort_up (by rw [nrm_names]; exact ndl)).isort
      rw [lotS_lotS, lotS_lotS, lotS_lotS, erow2]
      refine same_ok rfl pn ⟨_, rfl, fun _ => ?_, fun hb => absurd hb (by simp)⟩
      rw [← List.map_append] at P11
      have P13 := (P11.trans Q11).trans P12
      rw [o_tuple]
      refine ⟨_, items_ref.mpr (P13.get gL10), by omega, by omega, ?_⟩
      refine make_ok (ms := []) (gs := []) (by omega) (by omega) (by simp) (by simp) fun h13 P14 => ?_
      rw [twm, hdue]
      refine ⟨by omega, by omega, by omega, same_ok rfl ?_ ?_⟩
      · exact plain_net (n := 8) (c := []) (d := []) (by omega) (by omega) (by simp) (by simp)
      · exact hq h13 (P14.pool (P13.pool (P10.pool hp10))) (((((F6.trans (PP.fr p)).trans f10).trans (P10.fr p)).trans (P13.fr p)).trans (P14.fr p))
end K03

namespace K03
open PySem Det
theorem wp_sl_hi {f : ME} {k : Int} {env : Nv} {mh : MH} {Q : D → MH → Prop} {E : Exn → MH → Prop} : (sl f onone (osome (kn (.int k))) env mh).wp Q E ↔ (f env mh).wp (fun a h => owp (oSl a none (some k) h) Q) E := by
  unfold sl onone osome
  simp
theorem pool_ok {ns : List Int} {Q : D → MH → Prop} {E : Exn → MH → Prop} (hl : ns.length ≤ 63) (hq : ∀ p mh', PoolB p mh'.length mh' → Q (.ref p) mh') : (m__law_pool [.rol (ns.map .int)] []).wp Q E := by
  have hz : (1000 : Nat) ≤ sizeLine := by decide
  unfold m__law_pool
  rw [wp_runF]
  show (ret _ [some (.rol (ns.map .int)), none] []).wp _
  rw [wp_ret, wp_dlst, wp_acons, wp_kn, wp_acons, wp_kn, wp_acons, wp_kn, wp_acons, wp_lc, wp_iter, wp_sl_hi, wp_vr]
  refine ⟨_, rfl, ?_⟩
  have ec : ∃ zs : List Int, cutD (ns.map .int) none (some 63) = zs.map .int ∧ zs.length ≤ 63 := by
    refine ⟨(ns.drop _).take _, by unfold cutD; rw [List.length_map, ← List.map_drop, ← List.map_take], ?_⟩
    rw [List.length_take, List.length_drop]; omega
  obtain ⟨zs, ez, zl⟩ := ec
  have es : oSl (.rol (ns.map .int)) none (some 63) [] = some (.ref 0, [.lst (zs.map .int)]) := by
    show some (D.ref 0, [Ob.lst (cutD (ns.map .int) none (some 63))]) = _
    rw [ez]
  rw [es, owp_some]
  refine ⟨⟨zs.map .int, lstIs 0 (zs.map .int)⟩, by simp [itD], ?_⟩
  have hck : ∀ o, lstIs 0 (zs.map D.int) [Ob.lst (zs.map D.int), o] = true := fun o => lstIs_of rfl
  have hM : (1 : Int) * 2 ^ (2400 : Int).toNat ≠ 0 := by decide +kernel
  refine comp_wp (fun i acc h => acc = (zs.take i).map (fun c => D.int (c.fmod (1 * 2 ^ (2400 : Int).toNat))) ∧ h = [.lst (zs.map .int), .lst acc]) [] (by simp) ⟨by simp, rfl⟩ ?_ ?_ ?_
  · rintro i acc h ⟨rfl, rfl⟩; simp
  · rintro i d acc h hd ⟨rfl, rfl⟩
    obtain ⟨l, hl, rfl⟩ : ∃ w, zs[i]? = some w ∧ D.int w = d := by
      rw [List.getElem?_map] at hd
      cases hx : zs[i]? with
      | none => rw [hx] at hd; cases hd
      | some w => rw [hx] at hd; exact ⟨w, rfl, Option.some.inj hd⟩
    have hi := (List.getElem?_eq_some_iff.mp hl).1
    refine ⟨hck (Ob.lst ((zs.take i).map (fun c => D.int (c.fmod (1 * 2 ^ (2400 : Int).toNat))))), _, rfl, ?_⟩
    rw [wp_yes]
    refine ⟨fun _ => ?_, fun h => by cases h⟩
    rw [wp_bi, wp_ap, wp_acons, wp_vr]
    refine ⟨_, rfl, ?_⟩
    rw [wp_anil, o_int, owp_some, wp_bi, wp_kn, wp_kn, o_shl]
    refine ⟨by decide, ?_⟩
    rw [o_mod]
    refine ⟨hM, rfl, by rw [List.length_map, List.length_take]; omega, ?_, rfl⟩
    rw [List.take_add_one, hl]
    simp
  · rintro acc h ⟨rfl, rfl⟩
    refine ⟨hck (Ob.lst ((zs.take (zs.map D.int).length).map (fun c => D.int (c.fmod (1 * 2 ^ (2400 : Int).toNat))))), ?_⟩
    rw [wp_anil]
    refine ⟨by simp; omega, ?_⟩
    refine hq _ _ ⟨by show 2 < 3; omega, 0, 23, 0, 1, (zs.take (zs.map D.int).length).map (fun c => c.fmod (1 * 2 ^ (2400 : Int).toNat)), by show 1 < 3; omega, rfl, ?_, by show 1 ≠ 2; omega, by omega, by rw [List.length_map, List.length_take]; omega⟩
    show some (Ob.lst _) = some (Ob.lst _)
    rw [List.map_map]
    rfl
abbrev sa : Str := Str.ofString "a"
abbrev sb : Str := Str.ofString "b"
abbrev sc : Str := Str.ofString "c"
abbrev sk : Str := Str.ofString "k"
abbrev sr : Str := Str.ofString "r"
abbrev rw2 : List Row := [(sk, sa, sb), (sr, sa, sb)]
theorem named_ok {mh : MH} {Q : D → MH → Prop} {E : Exn → MH → Prop} (hq : ∀ mh', Pre mh mh' → Q (.bl true) mh') : (m__law_named [] mh).wp Q E := by
  have hz : (1000 : Nat) ≤ sizeLine := by decide
  have l0 : lotS [] = [] := rfl
  have r0 : Det.isort leR (([] : List Row).map nrm) = [] := rfl
  have l1 : lotS [sb, sa, sb, sc] = [sa, sb, sc] := by decide +kernel
  have l2 : lotS [sb, sa, sb] = [sa, sb] := by decide +kernel
  have l3 : lotS [sr, sr] = [sr] := by decide +kernel
  have n1 : ([(sr, sb, sa), (sk, sa, sb)] : List Row).map nrm = [(sr, sa, sb), (sk, sa, sb)] := by decide +kernel
  have hn : (rw2.map (·.1)).Nodup := by decide +kernel
  have r1 : Det.isort leR ([(sr, sb, sa), (sk, sa, sb)].map nrm) = rw2 := by
    rw [n1]
    refine (Up.one (l := rw2) ?_ (by decide +kernel) fun a => ?_).symm
    · refine List.pairwise_cons.mpr ⟨fun x hx => ?_, List.pairwise_singleton _ _⟩
      rw [List.mem_singleton.mp hx]
      exact ⟨by decide +kernel, by decide +kernel⟩
    · simp [or_comm]
  have eD : netD [sa, sb, sc] rw2 [sa, sb] [sr] = .tup [.tup [.str sa, .str sb, .str sc], .tup [.tup [.str sk, .str sa, .str sb], .tup [.str sr, .str sa, .str sb]], .tup [.str sa, .str sb], .tup [.str sr]] := rfl
  unfold m__law_named
  simp
  refine ⟨by omega, ?_⟩
  refine make_ok (xs := []) (ls := []) (ms := []) (gs := []) (by simp) (by simp) (by simp) (by simp) fun h1 P1 => ?_
  rw [l0, r0]
  refine same_ok rfl (by decide +kernel) (.inr ⟨rfl, ?_⟩)
  refine zero_ok (a := []) (rows := []) (c := []) (d := []) (by simp) ?_
  refine same_ok rfl (by decide +kernel) (.inr ⟨rfl, ?_⟩)
  refine ⟨by omega, by omega, by omega, by omega, by omega, ?_⟩
  refine make_ok (xs := [sb, sa, sb, sc]) (ls := [(sr, sb, sa), (sk, sa, sb)]) (ms := [sb, sa, sb]) (gs := [sr, sr]) (by simp) (by simp) (by simp) (by simp) fun h2 P2 => ?_
  rw [l1, l2, l3, r1]
  refine ⟨by omega, by omega, by omega, by omega, ?_⟩
  refine same_ok rfl (by decide +kernel) (.inr ⟨rfl, ?_⟩)
  rw [← eD]
  refine links_at_ok (a := [sa, sb, sc]) (rows := rw2) (c := [sa, sb]) (d := [sr]) (nd := sc) (by simp) fun h3 P3 => ?_
  rw [show at_ rw2 sc = [] by decide +kernel]
  refine same_ok rfl (by decide +kernel) (.inr ⟨rfl, ?_⟩)
  refine ends_of_ok (a := [sa, sb, sc]) (rows := rw2) (c := [sa, sb]) (d := [sr]) (nm := sr) (i := 1) hn (by simp) rfl ?_
  try refine ⟨by omega, ?_⟩
  refine same_ok rfl (by decide +kernel) (.inr ⟨rfl, ?_⟩)
  refine place_ok (a := [sa, sb, sc]) (rows := rw2) (c := [sa, sb]) (d := [sr]) (nm := sr) (i := 1) hn (by simp) rfl ?_
  refine same_ok rfl (by decide +kernel) (.inr ⟨rfl, ?_⟩)
  refine weights_ok (a := [sa, sb, sc]) (rows := rw2) (c := [sa, sb]) (d := [sr]) (nm := sr) (by simp) fun h4 P4 => ?_
  rw [show (rw2.map fun l => D.int (if l.1 = sr then 1 else 0)) = [.int 0, .int 1] by decide +kernel]
  try refine ⟨by omega, ?_⟩
  refine same_ok rfl (by decide +kernel) (.inr ⟨rfl, ?_⟩)
  refine zero_ok (a := [sa, sb, sc]) (rows := rw2) (c := [sa, sb]) (d := [sr]) (by simp) ?_
  refine ⟨by omega, same_ok rfl (by decide +kernel) (hq _ ?_)⟩
  exact ((P1.trans P2).trans P3).trans P4
theorem law_true (ns : List Int) (hl : ns.length ≤ 63) : ∃ mh, m_law [.rol (ns.map .int)] [] = .ok (.bl true) mh := by
  have main : (m_law [.rol (ns.map .int)] []).wp (fun a _ => a = .bl true) (fun _ _ => False) := by
    unfold m_law
    rw [wp_runF]
    show (sq _ _ [some (.rol (ns.map .int)), none, none] []).wp _
    rw [wp_sq]
    simp only [wp_cal, wp_calK, wp_acons, wp_vr, wp_anil, wp_kn, wp_dlst, wp_dtup, wp_ap, wp_bi, wp_tor, wp_tnot, wp_tru, wp_tb, wp_eand, wp_ret, wp_sst, wp_sif, wp_iter, wp_lc, wp_nop, List.set_cons_succ, List.set_cons_zero, List.getElem?_cons_succ, List.getElem?_cons_zero, Option.some.injEq, exists_eq_left', List.length_cons, List.length_nil, true_and, Nat.zero_add, Nat.reduceAdd]
    refine pool_ok hl fun p h0 hp => ?_
    generalize hn : h0.length = n at hp
    have hn0 : n ≤ h0.length := by omega
    rw [wp_sq]
    simp only [wp_cal, wp_calK, wp_acons, wp_vr, wp_anil, wp_kn, wp_dlst, wp_dtup, wp_ap, wp_bi, wp_tor, wp_tnot, wp_tru, wp_tb, wp_eand, wp_ret, wp_sst, wp_sif, wp_iter, wp_lc, wp_nop, List.set_cons_succ, List.set_cons_zero, List.getElem?_cons_succ, List.getElem?_cons_zero, Option.some.injEq, exists_eq_left', List.length_cons, List.length_nil, true_and, Nat.zero_add, Nat.reduceAdd]
    refine named_ok fun h1 P1 => ⟨_, rfl, fun hb => absurd hb (by simp), fun _ => ?_⟩
    have hp1 := P1.pool hp
    have l1 := P1.le
    rw [wp_sq, wp_sfor, wp_range1, wp_kn]
    refine ⟨2, rfl, by decide, ?_⟩
    refine loop_wp (fun i e h => ∃ v, e = [some (.rol (ns.map .int)), some (.ref p), v] ∧ PoolB p n h ∧ n ≤ h.length) ⟨_, rfl, hp1, by omega⟩ ?_ ?_
    · rintro i d e h hd ⟨v, rfl, hp, hl⟩
      refine ⟨rfl, _, rfl, ?_⟩
      simp only [wp_cal, wp_calK, wp_acons, wp_vr, wp_anil, wp_kn, wp_dlst, wp_dtup, wp_ap, wp_bi, wp_tor, wp_tnot, wp_tru, wp_tb, wp_eand, wp_ret, wp_sst, wp_sif, wp_iter, wp_lc, wp_nop, List.set_cons_succ, List.set_cons_zero, List.getElem?_cons_succ, List.getElem?_cons_zero, Option.some.injEq, exists_eq_left', List.length_cons, List.length_nil, true_and, Nat.zero_add, Nat.reduceAdd]
      refine pick_ok hp (by decide) (by decide) fun r h2 r0 r1 hp2 f2 l2 => ?_
      rw [o_add_i, owp_some]
      refine pick_ok hp2 (by decide) (by decide) fun s h3 s0 s1 hp3 f3 l3 => ?_
      rw [o_add_i, owp_some]
      obtain ⟨a, ha⟩ := Int.eq_ofNat_of_zero_le (show 0 ≤ 2 + r by omega)
      obtain ⟨b, hb⟩ := Int.eq_ofNat_of_zero_le (show 0 ≤ 1 + s by omega)
      rw [ha, hb]
      refine made_ok hp3 (by omega) (by omega) (by omega) fun h4 hp4 f4 => ⟨_, rfl, fun hb => absurd hb (by simp), fun _ => ⟨_, rfl, hp4, ?_⟩⟩
      have := f4.1
      omega
    rintro e h ⟨v, rfl, hp2, hl2⟩
    refine ⟨rfl, ?_⟩
    show (sq _ _ [some (.rol (ns.map .int)), some (.ref p), v] h).wp _
    rw [wp_sq]
    simp only [wp_cal, wp_calK, wp_acons, wp_vr, wp_anil, wp_kn, wp_dlst, wp_dtup, wp_ap, wp_bi, wp_tor, wp_tnot, wp_tru, wp_tb, wp_eand, wp_ret, wp_sst, wp_sif, wp_iter, wp_lc, wp_nop, List.set_cons_succ, List.set_cons_zero, List.getElem?_cons_succ, List.getElem?_cons_zero, Option.some.injEq, exists_eq_left', List.length_cons, List.length_nil, true_and, Nat.zero_add, Nat.reduceAdd]
    refine pick_ok hp2 (by decide) (by decide) fun r h2 r0 r1 hp3 f3 l3 => ?_
    refine pick_ok hp3 (by decide) (by decide) fun s h3 s0 s1 hp4 f4 l4 => ?_
    obtain ⟨a, rfl⟩ := Int.eq_ofNat_of_zero_le r0
    obtain ⟨b, rfl⟩ := Int.eq_ofNat_of_zero_le s0
    refine made_ok hp4 (by omega) (by omega) (by omega) fun h4 hp5 f5 => ⟨_, rfl, fun hb => absurd hb (by simp), fun _ => ?_⟩
    have l5 := f5.1
    rw [wp_sq]
    rw [wp_sif, wp_tand]
    simp only [wp_cal, wp_calK, wp_acons, wp_vr, wp_anil, wp_kn, wp_dlst, wp_dtup, wp_ap, wp_bi, wp_tor, wp_tnot, wp_tru, wp_tb, wp_eand, wp_ret, wp_sst, wp_sif, wp_iter, wp_lc, wp_nop, List.set_cons_succ, List.set_cons_zero, List.getElem?_cons_succ, List.getElem?_cons_zero, Option.some.injEq, exists_eq_left', List.length_cons, List.length_nil, true_and, Nat.zero_add, Nat.reduceAdd]
    have fin : ∀ h5, (m__law_named [] h5).wp (fun d _ => d = .bl true) (fun _ _ => False) := fun h5 => named_ok fun _ _ => rfl
    refine pick_ok hp5 (by decide) (by decide) fun r h5 r0 r1 hp6 f6 l6 => ?_
    rw [o_eq_i, owp_some]
    refine ⟨_, rfl, fun _ => ?_, fun _ => ⟨fun hb => absurd hb (by simp), fun _ => fin h5⟩⟩
    refine made_ok (many := 30) (count := 60) hp6 (by omega) (by omega) (by omega) fun h6 hp7 f7 => ⟨_, rfl, fun hb => absurd hb (by simp), fun _ => fin h6⟩
  obtain ⟨a, m, e, rfl⟩ := wp_end main
  exact ⟨m, e⟩
end K03
open PySem PySem.W PyProof.Rows
set_option maxRecDepth 100000 in
set_option maxHeartbeats 0 in
theorem PySem.Challenge.cw_endstell_k03_nets_holds : PySem.Challenge.rw_endstell_k03_nets.Holds := by
  w_on; o_law; k_head; (case hw => w_witness2)
  k_fill
  refine K03.walk (l := PySem.Challenge.rw_endstell_k03_nets) rfl rfl (fun w h Y => PySem.W.kIn_of Y) ?F K03.law_true
  case F =>
    intro w mg fa h KX G hmg
    refine' K03.all_mk (w := w) KX G hmg ?a0 ?l0 ?c0 ?k0 ?a1 ?l1 ?c1 ?k1 ?a2 ?l2 ?c2 ?k2 ?a3 ?l3 ?c3 ?k3 ?a4 ?l4 ?c4 ?k4 ?a5 ?l5 ?c5 ?k5 ?a6 ?l6 ?c6 ?k6 ?a7 ?l7 ?c7 ?k7 ?a8 ?l8 ?c8 ?k8 ?a9 ?l9 ?c9 ?k9 ?a10 ?l10 ?c10 ?k10 ?a11 ?l11 ?c11 ?k11 ?a12 ?l12 ?c12 ?k12 ?a13 ?l13 ?c13 ?k13 ?a14 ?l14 ?c14 ?k14 ?a15 ?l15 ?c15 ?k15 ?a16 ?l16 ?c16 ?k16 ?a17 ?l17 ?c17 ?k17 ?a18 ?l18 ?c18 ?k18 ?a19 ?l19 ?c19 ?k19 ?a20 ?l20 ?c20 ?k20 ?z_bool ?z_enumerate ?z_int ?z_isinstance ?z_len ?z_list ?z_max ?z_min ?z_range ?z_set ?z_sorted ?z_str ?z_tuple
    (case a0 => k_is); (case l0 => k_is); (case c0 => k_is); (case k0 => k_is)
    (case a1 => k_is); (case l1 => k_is); (case c1 => k_is); (case k1 => k_is)
    (case a2 => k_is); (case l2 => k_is); (case c2 => k_is); (case k2 => k_is)
    (case a3 => k_is); (case l3 => k_is); (case c3 => k_is); (case k3 => k_is)
    (case a4 => k_is); (case l4 => k_is); (case c4 => k_is); (case k4 => k_is)
    (case a5 => k_is); (case l5 => k_is); (case c5 => k_is); (case k5 => k_is)
    (case a6 => k_is); (case l6 => k_is); (case c6 => k_is); (case k6 => k_is)
    (case a7 => k_is); (case l7 => k_is); (case c7 => k_is); (case k7 => k_is)
    (case a8 => k_is); (case l8 => k_is); (case c8 => k_is); (case k8 => k_is)
    (case a9 => k_is); (case l9 => k_is); (case c9 => k_is); (case k9 => k_is)
    (case a10 => k_is); (case l10 => k_is); (case c10 => k_is); (case k10 => k_is)
    (case a11 => k_is); (case l11 => k_is); (case c11 => k_is); (case k11 => k_is)
    (case a12 => k_is); (case l12 => k_is); (case c12 => k_is); (case k12 => k_is)
    (case a13 => k_is); (case l13 => k_is); (case c13 => k_is); (case k13 => k_is)
    (case a14 => k_is); (case l14 => k_is); (case c14 => k_is); (case k14 => k_is)
    (case a15 => k_is); (case l15 => k_is); (case c15 => k_is); (case k15 => k_is)
    (case a16 => k_is); (case l16 => k_is); (case c16 => k_is); (case k16 => k_is)
    (case a17 => k_is); (case l17 => k_is); (case c17 => k_is); (case k17 => k_is)
    (case a18 => k_is); (case l18 => k_is); (case c18 => k_is); (case k18 => k_is)
    (case a19 => k_is); (case l19 => k_is); (case c19 => k_is); (case k19 => k_is)
    (case a20 => k_is); (case l20 => k_is); (case c20 => k_is); (case k20 => k_is)
    (case z_bool => k_is)
    (case z_enumerate => k_is)
    (case z_int => k_is)
    (case z_isinstance => k_is)
    (case z_len => k_is)
    (case z_list => k_is)
    (case z_max => k_is)
    (case z_min => k_is)
    (case z_range => k_is)
    (case z_set => k_is)
    (case z_sorted => k_is)
    (case z_str => k_is)
    (case z_tuple => k_is)
