import PyProof.Rows.All
import Wide.All
import OpenK.AllK
import Wide.FinOn
import HandS.ForMost
import HandS.ForExc
import HandS.Flow
import HandS.TupAny
import HandS.TupMul
import HandS.IsInst
import HandS.Style
import HandS.Wide
import HandS.WideMore
import HandS.Deep
import KE.SortData
import HandS.Set
import HandS.SetFor
import KE.GoesMore
import HandS.Ends
import HandS.More
import HandS.SetKeys
import HandS.DictComp
import HandS.RevTup
import HandS.Gcd
import HandS.Zip
import HandS.ExcInit
import KE.KExcIs
import HandS.HotCalls
import HandS.Text
import HandS.Star
import HandS.Conv
import HandS.RevRange
import PySem.Challenge.RW_endstell_k07_way_checks
set_option Elab.async false
set_option linter.all false
set_option maxRecDepth 100000
set_option maxHeartbeats 4000000
/-! Det, part A: values, small heap, readings by deterministic functions. -/
namespace Det
open PySem PySem.Spec PyProof.Rows L2

/-- a pure value; ref: the place of an object in the small heap -/
inductive D where
  | non | bl (b : Bool) | int (i : Int) | str (s : Str) | ty (n : String) | tup (xs : List D) | rol (xs : List D) | ref (n : Nat)
  /-- a caught exception: its class by name, its fields -/
  | exc (c : Str) (ns : List Str) (ds : List D)
/-- an object of the small heap: a list, a dict by ints and texts, a dict by tuples -/
inductive Ob where
  | lst (xs : List D) | dk (kvs : List (Key × D)) | dt (kvs : List (List Key × D)) | lk (kvs : List (Key × D))
abbrev MH := List Ob
structure Exn where
  c : Str
  fs : List (Str × D)
inductive Res (α : Type) where
  | ok (a : α) (h : MH) | ex (x : Exn) (h : MH) | no
def Res.bind {α β : Type} (r : Res α) (k : α → MH → Res β) : Res β := match r with
  | .ok a h => k a h
  | .ex x h => .ex x h
  | .no => .no
def Res.ofO {α : Type} : Option (α × MH) → Res α
  | some (a, h) => .ok a h
  | none => .no
abbrev Nv := List (Option D)
inductive SRes where
  | nx (e : Nv) (h : MH) | bk (e : Nv) (h : MH) | ct (e : Nv) (h : MH) | rt (d : D) (h : MH) | ex (x : Exn) (e : Nv) (h : MH) | no

/-! ### relations -/
/-- a list that is only read -/
def RoL (K : PySem.W.Frag) (H : Hp) (a : Addr) (xs : List V) : Prop := (∃ o, H a = some (.frz o (.lst xs))) ∨
  ∃ (o : Obj) (its : Array Value) (n : Nat), K.lookup a = some o ∧ o.cls = .type "list" ∧ o.dict = none ∧ o.data = .seq its n ∧ its.size ≤ sizeLine ∧ Vals xs its.toList
theorem RoL.seq {K : PySem.W.Frag} {H : Hp} {a : Addr} {xs : List V} (h : RoL K H a xs) : SqL K H a xs := by
  rcases h with ⟨o, h⟩ | h
  · exact .inl (.inr ⟨o, h⟩)
  · exact .inr h
/-- a thing of which is known that it stands -/
def anyO (a : Addr) : HO := .ext fun h => ∃ o, h.get? a = some o
def ExcAt (K : PySem.W.Frag) (c : Str) (C dx : Addr) (oe : Obj) : Prop := PySem.W.nsIn K mainGlobals c = some (some (.ref C)) ∧ oe.cls = .ref C ∧ oe.dict = some dx ∧ ∃ vs, oe.data = .fields vs
mutual
inductive RelD (K : PySem.W.Frag) (φ : List Addr) (H : Hp) : D → V → Prop
  | non : RelD K φ H .non .non
  | bl (b : Bool) : RelD K φ H (.bl b) (.bl b)
  | int (i : Int) : RelD K φ H (.int i) (.int i)
  | str (x : Str) : RelD K φ H (.str x) (.str x)
  | ty (n : String) : RelD K φ H (.ty n) (.ty n)
  | ref {n : Nat} {a : Addr} : φ[n]? = some a → RelD K φ H (.ref n) (.ref a)
  | tup {a : Addr} {ds : List D} {vs : List V} : SqT K H a vs → RelDs K φ H ds vs → RelD K φ H (.tup ds) (.ref a)
  | rol {a : Addr} {ds : List D} {vs : List V} : RoL K H a vs → RelDs K φ H ds vs → RelD K φ H (.rol ds) (.ref a)
  | exc {a C dx : Addr} {c : Str} {ns : List Str} {ds : List D} {vs : List V} {oe : Obj} {fv : List (Str × V)} : H a = some (.frz oe (anyO a)) → ExcAt K c C dx oe → H dx = some (.xd fv) →
    (∀ f v, (ns.zip vs).lookup f = some v → fv.lookup f = some v) → RelDs K φ H ds vs → RelD K φ H (.exc c ns ds) (.ref a)
inductive RelDs (K : PySem.W.Frag) (φ : List Addr) (H : Hp) : List D → List V → Prop
  | nil : RelDs K φ H [] []
  | cons {d : D} {v : V} {ds : List D} {vs : List V} : RelD K φ H d v → RelDs K φ H ds vs → RelDs K φ H (d :: ds) (v :: vs)
end
/-- what stands for good -/
def Sta : HO → Prop
  | .tup _ => True
  | .frz _ (.lst _) => True
  | .frz _ (.tup _) => True
  | .frz _ (.dK _) => True
  | .frz _ (.ext _) => True
  | .xd _ => True
  | _ => False
def Kp (H H' : Hp) : Prop := ∀ a o, H a = some o → Sta o → H' a = some o
theorem Kp.refl (H : Hp) : Kp H H := fun _ _ h _ => h
theorem Kp.trans {H H1 H2 : Hp} (a : Kp H H1) (b : Kp H1 H2) : Kp H H2 := fun c o h s => b c o (a c o h s) s
theorem Kp.new {H : Hp} {p : Addr} {o : HO} (h : H p = none) : Kp H (upd H p o) := fun a u e _ => by
  rw [upd_ne (ne_of_none e h)]; exact e
theorem Kp.mut {H : Hp} {p : Addr} {o u : HO} (h : H p = some u) (s : ¬ Sta u) : Kp H (upd H p o) := fun a v e sv => by
  have : a ≠ p := fun z => by subst z; rw [h] at e; cases e; exact s sv
  rw [upd_ne this]; exact e
theorem Kp.seqT {K : PySem.W.Frag} {H H' : Hp} {a : Addr} {xs : List V} (k : Kp H H') (h : SqT K H a xs) : SqT K H' a xs := by
  rcases h with (h | ⟨o, h⟩) | h
  · exact .inl (.inl (k _ _ h trivial))
  · exact .inl (.inr ⟨o, k _ _ h trivial⟩)
  · exact .inr h
theorem Kp.roL {K : PySem.W.Frag} {H H' : Hp} {a : Addr} {xs : List V} (k : Kp H H') (h : RoL K H a xs) : RoL K H' a xs := by
  rcases h with ⟨o, h⟩ | h
  · exact .inl ⟨o, k _ _ h trivial⟩
  · exact .inr h
abbrev Px (φ φ' : List Addr) : Prop := ∃ t, φ' = φ ++ t
theorem Px.refl (φ : List Addr) : Px φ φ := ⟨[], by simp⟩
theorem Px.trans {φ φ1 φ2 : List Addr} (a : Px φ φ1) (b : Px φ1 φ2) : Px φ φ2 := by
  obtain ⟨s, rfl⟩ := a; obtain ⟨t, rfl⟩ := b; exact ⟨s ++ t, by simp⟩
theorem Px.get {φ φ' : List Addr} {n : Nat} {a : Addr} (p : Px φ φ') (h : φ[n]? = some a) : φ'[n]? = some a := by
  obtain ⟨t, rfl⟩ := p
  have := (List.getElem?_eq_some_iff.mp h).1
  rw [List.getElem?_append_left this]; exact h
theorem Px.le {φ φ' : List Addr} (p : Px φ φ') : φ.length ≤ φ'.length := by
  obtain ⟨t, rfl⟩ := p; simp
section
variable {K : PySem.W.Frag} {φ φ' : List Addr} {H H' : Hp}
mutual
theorem RelD.mono (p : Px φ φ') (k : Kp H H') : ∀ {d : D} {v : V}, RelD K φ H d v → RelD K φ' H' d v
  | _, _, .non => .non
  | _, _, .bl b => .bl b
  | _, _, .int i => .int i
  | _, _, .str x => .str x
  | _, _, .ty n => .ty n
  | _, _, .ref h => .ref (p.get h)
  | _, _, .tup h hs => .tup (k.seqT h) (RelDs.mono p k hs)
  | _, _, .rol h hs => .rol (k.roL h) (RelDs.mono p k hs)
  | _, _, .exc h x hd l hs => .exc (k _ _ h trivial) x (k _ _ hd trivial) l (RelDs.mono p k hs)
theorem RelDs.mono (p : Px φ φ') (k : Kp H H') : ∀ {ds : List D} {vs : List V}, RelDs K φ H ds vs → RelDs K φ' H' ds vs
  | _, _, .nil => .nil
  | _, _, .cons h t => .cons (RelD.mono p k h) (RelDs.mono p k t)
end
theorem RelDs.length : ∀ {ds : List D} {vs : List V}, RelDs K φ H ds vs → ds.length = vs.length
  | _, _, .nil => rfl
  | _, _, .cons _ t => by simp [RelDs.length t]
theorem RelDs.get : ∀ {ds : List D} {vs : List V} {i : Nat} {d : D}, RelDs K φ H ds vs → ds[i]? = some d → ∃ v, vs[i]? = some v ∧ RelD K φ H d v
  | _, _, _, _, .nil, e => by simp at e
  | _, _, 0, _, .cons h _, e => by simp at e; subst e; exact ⟨_, rfl, h⟩
  | _, _, i + 1, d, .cons _ t, e => by
    obtain ⟨v, h1, h2⟩ := RelDs.get (i := i) (d := d) t (by simpa using e)
    exact ⟨v, by simpa using h1, h2⟩
theorem RelDs.append : ∀ {ds es : List D} {vs us : List V}, RelDs K φ H ds vs → RelDs K φ H es us → RelDs K φ H (ds ++ es) (vs ++ us)
  | _, _, _, _, .nil, s => s
  | _, _, _, _, .cons h t, s => .cons h (RelDs.append t s)
theorem RelDs.set {d : D} {v : V} (r : RelD K φ H d v) : ∀ {ds : List D} {vs : List V} (i : Nat), RelDs K φ H ds vs → RelDs K φ H (ds.set i d) (vs.set i v)
  | _, _, _, .nil => .nil
  | _, _, 0, .cons _ t => .cons r t
  | _, _, i + 1, .cons q t => .cons q (RelDs.set r i t)
theorem RelDs.take : ∀ {ds : List D} {vs : List V} (n : Nat), RelDs K φ H ds vs → RelDs K φ H (ds.take n) (vs.take n)
  | _, _, 0, _ => .nil
  | _, _, _ + 1, .nil => .nil
  | _, _, n + 1, .cons h t => .cons h (RelDs.take n t)
theorem RelDs.drop : ∀ {ds : List D} {vs : List V} (n : Nat), RelDs K φ H ds vs → RelDs K φ H (ds.drop n) (vs.drop n)
  | _, _, 0, r => r
  | _, _, _ + 1, .nil => .nil
  | _, _, n + 1, .cons _ t => RelDs.drop n t
theorem RelDs.erase : ∀ {ds : List D} {vs : List V} (n : Nat), RelDs K φ H ds vs → RelDs K φ H (ds.eraseIdx n) (vs.eraseIdx n)
  | _, _, _, .nil => .nil
  | _, _, 0, .cons _ t => t
  | _, _, n + 1, .cons h t => .cons h (RelDs.erase n t)
theorem RelDs.rev {ds : List D} {vs : List V} (r : RelDs K φ H ds vs) : RelDs K φ H ds.reverse vs.reverse := by
  induction ds generalizing vs with
  | nil => cases r; exact .nil
  | cons d ds ih =>
    cases r with
    | cons h t => rw [List.reverse_cons, List.reverse_cons]; exact (ih t).append (.cons h .nil)
end

/-! ### the small heap stands -/
def RelK {κ : Type} (K : PySem.W.Frag) (φ : List Addr) (H : Hp) (kds : List (κ × D)) (kvs : List (κ × V)) : Prop := kds.map (·.1) = kvs.map (·.1) ∧ RelDs K φ H (kds.map (·.2)) (kvs.map (·.2))
def RelO (K : PySem.W.Frag) (φ : List Addr) (H : Hp) (a : Addr) : Ob → Prop
  | .lst ds => ∃ vs, H a = some (.lst vs) ∧ RelDs K φ H ds vs
  | .dk kds => ∃ kvs, H a = some (.dK kvs) ∧ RelK K φ H kds kvs
  | .dt kds => ∃ kvs, H a = some (.dT kvs) ∧ RelK K φ H kds kvs
  | .lk kds => ∃ kvs od, H a = some (.frz od (.dK kvs)) ∧ RelK K φ H kds kvs
structure HR (K : PySem.W.Frag) (φ : List Addr) (mh : MH) (H : Hp) : Prop where
  len : φ.length = mh.length
  nd : φ.Nodup
  ob : ∀ (n : Nat) (a : Addr) (o : Ob), φ[n]? = some a → mh[n]? = some o → RelO K φ H a o
section
variable {K : PySem.W.Frag} {φ φ' : List Addr} {H H' : Hp} {mh : MH} {a p : Addr} {o : Ob} {n : Nat}
theorem RelK.mono {κ : Type} {kds : List (κ × D)} {kvs : List (κ × V)} (x : Px φ φ') (k : Kp H H') (r : RelK K φ H kds kvs) : RelK K φ' H' kds kvs := ⟨r.1, r.2.mono x k⟩
/-- an object told by H at a alone (and the values in it) -/
theorem RelO.mono (x : Px φ φ') (k : Kp H H') (e : ∀ u, H a = some u → H' a = some u) (r : RelO K φ H a o) : RelO K φ' H' a o := by
  cases o with
  | lst ds => obtain ⟨vs, h, r⟩ := r; exact ⟨vs, e _ h, r.mono x k⟩
  | dk kds => obtain ⟨vs, h, r⟩ := r; exact ⟨vs, e _ h, r.mono x k⟩
  | dt kds => obtain ⟨vs, h, r⟩ := r; exact ⟨vs, e _ h, r.mono x k⟩
  | lk kds => obtain ⟨vs, od, h, r⟩ := r; exact ⟨vs, od, e _ h, r.mono x k⟩
theorem HR.at (r : HR K φ mh H) (h : mh[n]? = some o) : ∃ a, φ[n]? = some a ∧ RelO K φ H a o := by
  have h1 := (List.getElem?_eq_some_iff.mp h).1
  have h2 : n < φ.length := by rw [r.len]; exact h1
  exact ⟨φ[n], by simp [h2], r.ob n _ o (by simp [h2]) h⟩
theorem HR.lt (r : HR K φ mh H) (h : φ[n]? = some a) : n < mh.length := by
  rw [← r.len]; exact (List.getElem?_eq_some_iff.mp h).1
theorem nodup_ix' {l : List Addr} (hN : l.Nodup) {i j : Nat} {x : Addr} (a : l[i]? = some x) (b : l[j]? = some x) : i = j := by
  obtain ⟨h1, e1⟩ := List.getElem?_eq_some_iff.mp a
  obtain ⟨h2, e2⟩ := List.getElem?_eq_some_iff.mp b
  exact (List.getElem_inj hN).mp (e1.trans e2.symm)
theorem HR.inj (r : HR K φ mh H) {i j : Nat} (h1 : φ[i]? = some a) (h2 : φ[j]? = some a) : i = j := nodup_ix' r.nd h1 h2
/-- an object that the small heap knows stands in H -/
theorem RelO.there (r : RelO K φ H a o) : ∃ u, H a = some u := by
  cases o with
  | lst ds => obtain ⟨vs, h, _⟩ := r; exact ⟨_, h⟩
  | dk kds => obtain ⟨vs, h, _⟩ := r; exact ⟨_, h⟩
  | dt kds => obtain ⟨vs, h, _⟩ := r; exact ⟨_, h⟩
  | lk kds => obtain ⟨vs, od, h, _⟩ := r; exact ⟨_, h⟩
/-- the heap grew by an object that the small heap does not tell -/
theorem HR.grow (r : HR K φ mh H) {u : HO} (hp : H p = none) : HR K φ mh (upd H p u) := by
  refine ⟨r.len, r.nd, fun n a o h1 h2 => (r.ob n a o h1 h2).mono (Px.refl φ) (Kp.new hp) fun v e => ?_⟩
  rw [upd_ne (ne_of_none e hp)]; exact e
/-- a new object, told -/
theorem HR.push (r : HR K φ mh H) {u : HO} (hp : H p = none) (hn : p ∉ φ) (ho : RelO K (φ ++ [p]) (upd H p u) p o) : HR K (φ ++ [p]) (mh ++ [o]) (upd H p u) := by
  refine ⟨by simp [r.len], ?_, fun n a ob h1 h2 => ?_⟩
  · rw [List.nodup_append]
    exact ⟨r.nd, by simp, fun x hx y hy e => by simp at hy; subst hy; subst e; exact hn hx⟩
  · by_cases hlt : n < φ.length
    · rw [List.getElem?_append_left hlt] at h1
      rw [List.getElem?_append_left (by rw [← r.len]; exact hlt)] at h2
      refine (r.ob n a ob h1 h2).mono ⟨[p], rfl⟩ (Kp.new hp) fun v e => ?_
      rw [upd_ne (ne_of_none e hp)]; exact e
    · have e1 : n = φ.length := by
        have := (List.getElem?_eq_some_iff.mp h1).1
        simp at this; omega
      subst e1
      simp at h1
      rw [r.len] at h2
      simp at h2
      subst h1; subst h2
      exact ho
/-- an object changed -/
theorem HR.put (r : HR K φ mh H) {u u' : HO} {o' : Ob} (hn : φ[n]? = some p) (hu : H p = some u') (hs : ¬ Sta u') (ho : RelO K φ (upd H p u) p o') : HR K φ (mh.set n o') (upd H p u) := by
  refine ⟨by simp [r.len], r.nd, fun m a ob h1 h2 => ?_⟩
  by_cases hm : m = n
  · subst hm
    rw [hn] at h1; cases h1
    rw [List.getElem?_set_self (r.lt hn)] at h2
    cases h2
    exact ho
  · rw [List.getElem?_set_ne (Ne.symm hm)] at h2
    have hne : a ≠ p := fun z => hm (r.inj h1 (z ▸ hn))
    refine (r.ob m a ob h1 h2).mono (Px.refl φ) (Kp.mut hu hs) fun v e => ?_
    rw [upd_ne hne]; exact e
theorem HR.there (r : HR K φ mh H) (h : a ∈ φ) : ∃ u, H a = some u := by
  obtain ⟨n, hn, e⟩ := List.mem_iff_getElem.mp h
  have h1 : φ[n]? = some a := by simp [hn, e]
  have h2 : n < mh.length := by rw [← r.len]; exact hn
  exact (r.ob n a mh[n] h1 (by simp [h2])).there
theorem HR.fresh (r : HR K φ mh H) (h : H p = none) : p ∉ φ := fun z => by
  obtain ⟨u, e⟩ := r.there z
  rw [h] at e; cases e
/-- a new object, told, by its content -/
theorem HR.new (r : HR K φ mh H) {ds : List D} {vs : List V} (hp : H p = none) (h : RelDs K φ H ds vs) : HR K (φ ++ [p]) (mh ++ [.lst ds]) (upd H p (.lst vs)) :=
  r.push hp (r.fresh hp) ⟨vs, upd_same, h.mono ⟨[p], rfl⟩ (Kp.new hp)⟩
theorem px1 : Px φ (φ ++ [p]) := ⟨[p], rfl⟩
theorem HR.last (r : HR K φ mh H) : (φ ++ [p])[mh.length]? = some p := by rw [← r.len]; simp
theorem HR.lst (r : HR K φ mh H) (hn : φ[n]? = some a) {ds : List D} (h : mh[n]? = some (.lst ds)) : ∃ vs, H a = some (.lst vs) ∧ RelDs K φ H ds vs := r.ob n a _ hn h
/-- a list changed -/
theorem HR.setL (r : HR K φ mh H) {vs vs' : List V} {ds' : List D} (hn : φ[n]? = some a) (hu : H a = some (.lst vs)) (h : RelDs K φ H ds' vs') : HR K φ (mh.set n (.lst ds')) (upd H a (.lst vs')) :=
  r.put hn hu (fun z => z) ⟨vs', upd_same, h.mono (Px.refl φ) (Kp.mut hu fun z => z)⟩
end
end Det
/-! Det, part B: readings given by functions, the combinators' soundness. -/
namespace Det
open PySem PySem.Spec PyProof.Rows L2

abbrev MGl := Str → Option Value
/-- an exception: its class by name, its fields -/
def RelX (K : PySem.W.Frag) (mg : MGl) (φ : List Addr) (H : Hp) (x : Exn) (cls : Value) (d : Option Addr) : Prop :=
  ∃ (C dx : Addr) (fv : List (Str × V)) (vs : List V), PySem.W.nsIn K mainGlobals x.c = some (some (.ref C)) ∧ cls = .ref C ∧ d = some dx ∧ H dx = some (.xd fv) ∧ (∀ f v, ((x.fs.map (·.1)).zip vs).lookup f = some v → fv.lookup f = some v) ∧ RelDs K φ H (x.fs.map (·.2)) vs
structure RelE (K : PySem.W.Frag) (φ : List Addr) (H : Hp) (env : Nv) (σ : L2.St) : Prop where
  len : env.length = σ.length
  at' : ∀ (i : Nat) (d : D), env[i]? = some (some d) → ∃ v, σ[i]? = some (some v) ∧ RelD K φ H d v
abbrev Rl (α β : Type) := List Addr → Hp → α → β → Prop
/-- what is wanted behind r -/
def post {α β : Type} (K : PySem.W.Frag) (mg : MGl) (W : WX) (R : Rl α β) (σ : L2.St) (φ : List Addr) (H : Hp) (r : Res α) (Q : β → Hp → Prop) : Prop := match r with
  | .ok a mh' => ∀ φ' b H', Px φ φ' → Kp H H' → HR K φ' mh' H' → R φ' H' a b → Q b H'
  | .ex x mh' => ∀ φ' c d H', Px φ φ' → Kp H H' → HR K φ' mh' H' → RelX K mg φ' H' x c d → W c d σ H'
  | .no => False
section
variable {K : PySem.W.Frag} {mg : MGl} {W : WX} {σ : L2.St} {φ φ' : List Addr} {H H' : Hp} {env : Nv}
theorem RelE.mono (p : Px φ φ') (k : Kp H H') (r : RelE K φ H env σ) : RelE K φ' H' env σ := ⟨r.len, fun i d e => by
  obtain ⟨v, h1, h2⟩ := r.at' i d e
  exact ⟨v, h1, h2.mono p k⟩⟩
theorem RelE.set {d : D} {v : V} (r : RelE K φ H env σ) (h : RelD K φ H d v) (i : Nat) : RelE K φ H (env.set i (some d)) (σ.set i (some v)) := by
  refine ⟨by simp [r.len], fun j e q => ?_⟩
  by_cases hj : j = i
  · subst hj
    by_cases hl : j < env.length
    · rw [List.getElem?_set_self hl] at q
      cases q
      exact ⟨v, List.getElem?_set_self (by rw [← r.len]; exact hl), h⟩
    · rw [List.getElem?_eq_none (by simpa using hl)] at q; cases q
  · rw [List.getElem?_set_ne (Ne.symm hj)] at q
    obtain ⟨u, h1, h2⟩ := r.at' j e q
    exact ⟨u, by rw [List.getElem?_set_ne (Ne.symm hj)]; exact h1, h2⟩
theorem post_mono {α β : Type} {R : Rl α β} {r : Res α} {Q Q' : β → Hp → Prop} (p : Px φ φ') (k : Kp H H') (h : post K mg W R σ φ H r Q) (hq : ∀ b H2, Q b H2 → Q' b H2) : post K mg W R σ φ' H' r Q' := by
  cases r with
  | ok a mh => exact fun φ2 b H2 p2 k2 hr hR => hq _ _ (h φ2 b H2 (p.trans p2) (k.trans k2) hr hR)
  | ex x mh => exact fun φ2 c d H2 p2 k2 hr hx => h φ2 c d H2 (p.trans p2) (k.trans k2) hr hx
  | no => exact h
theorem post_bind {α β γ δ : Type} {R1 : Rl α β} {R2 : Rl γ δ} {r : Res α} {k : α → MH → Res γ} {Q : δ → Hp → Prop} (h : post K mg W R2 σ φ H (r.bind k) Q) :
    post K mg W R1 σ φ H r fun b H1 => ∃ φ1 a mh1, Px φ φ1 ∧ Kp H H1 ∧ HR K φ1 mh1 H1 ∧ R1 φ1 H1 a b ∧ post K mg W R2 σ φ1 H1 (k a mh1) Q := by
  cases r with
  | ok a mh => exact fun φ2 b H2 p2 k2 hr hR => ⟨φ2, a, mh, p2, k2, hr, hR, post_mono p2 k2 h fun _ _ q => q⟩
  | ex x mh => exact h
  | no => exact h
end

/-! ### expressions -/
abbrev ME := Nv → MH → Res D
abbrev MT := Nv → MH → Res Bool
abbrev MA := Nv → MH → Res (List D)
def iE (K : PySem.W.Frag) (mg : MGl) (W : WX) (f : ME) : TE := fun σ H Q => ∃ φ env mh, RelE K φ H env σ ∧ HR K φ mh H ∧ post K mg W (RelD K) σ φ H (f env mh) Q
def RB : Rl Bool Bool := fun _ _ a b => a = b
def iT (K : PySem.W.Frag) (mg : MGl) (W : WX) (f : MT) : TT := fun σ H Q => ∃ φ env mh, RelE K φ H env σ ∧ HR K φ mh H ∧ post K mg W RB σ φ H (f env mh) Q
def iA (K : PySem.W.Frag) (mg : MGl) (W : WX) (f : MA) : TA := fun σ H Q => ∃ φ env mh, RelE K φ H env σ ∧ HR K φ mh H ∧ post K mg W (RelDs K) σ φ H (f env mh) Q
theorem _root_.L2.PE.imp {X : Cx} {e : Expr} {t t' : TE} (h : PE X e t) (w : ∀ σ H Q, t' σ H Q → t σ H Q) : PE X e t' := ⟨fun pins s σ H Q I q => h.run pins s σ H Q I (w σ H Q q)⟩
theorem _root_.L2.PT.imp {X : Cx} {e : Expr} {t t' : TT} (h : PT X e t) (w : ∀ σ H Q, t' σ H Q → t σ H Q) : PT X e t' := ⟨fun pins s σ H Q I q => h.run pins s σ H Q I (w σ H Q q)⟩
theorem _root_.L2.PW.imp {X : Cx} {e : Expr} {t t' : TT} (h : PW X e t) (w : ∀ σ H Q, t' σ H Q → t σ H Q) : PW X e t' := ⟨fun wh pins s σ H Q I q => h.run wh pins s σ H Q I (w σ H Q q)⟩
theorem _root_.L2.PA.imp {X : Cx} {e : List Expr} {t t' : TA} (h : PA X e t) (w : ∀ σ H Q, t' σ H Q → t σ H Q) : PA X e t' := ⟨fun po pins s σ H Q I q => h.run po pins s σ H Q I (w σ H Q q)⟩
theorem _root_.L2.PS.imp {X : Cx} {st : Stmt} {t t' : TS} (h : PS X st t) (w : ∀ D σ H, t' D σ H → t D σ H) : PS X st t' := ⟨fun pins s σ H D I q => h.run pins s σ H D I (w D σ H q)⟩
theorem _root_.L2.PSs.imp {X : Cx} {st : List Stmt} {t t' : TS} (h : PSs X st t) (w : ∀ D σ H, t' D σ H → t D σ H) : PSs X st t' := ⟨fun pins s σ H D I q => h.run pins s σ H D I (w D σ H q)⟩
abbrev SE (X : Cx) (W : WX) (e : Expr) (f : ME) : Prop := PE X e (iE X.K X.mg W f)
abbrev ST (X : Cx) (W : WX) (e : Expr) (f : MT) : Prop := PT X e (iT X.K X.mg W f)
abbrev SW (X : Cx) (W : WX) (e : Expr) (f : MT) : Prop := PW X e (iT X.K X.mg W f)
abbrev SA (X : Cx) (W : WX) (es : List Expr) (f : MA) : Prop := PA X es (iA X.K X.mg W f)

/-! #### the combinators -/
def vr (i : Nat) : ME := fun env mh => match env[i]? with | some (some d) => .ok d mh | _ => .no
def kn (d : D) : ME := fun _ mh => .ok d mh
def anil : MA := fun _ mh => .ok [] mh
def acons (f : ME) (g : MA) : MA := fun env mh => (f env mh).bind fun d mh1 => (g env mh1).bind fun ds mh2 => .ok (d :: ds) mh2
/-- an operation on values -/
abbrev Op1 := D → MH → Option (D × MH)
abbrev Op2 := D → D → MH → Option (D × MH)
abbrev OpA := List D → MH → Option (D × MH)
def un (o : Op1) (f : ME) : ME := fun env mh => (f env mh).bind fun a mh1 => .ofO (o a mh1)
def bi (o : Op2) (f g : ME) : ME := fun env mh => (f env mh).bind fun a mh1 => (g env mh1).bind fun b mh2 => .ofO (o a b mh2)
def ap (o : OpA) (f : MA) : ME := fun env mh => (f env mh).bind fun a mh1 => .ofO (o a mh1)
/-- a test of a value -/
def truD : D → MH → Option Bool
  | .non, _ => some false
  | .bl b, _ => some b
  | .int i, _ => some (i != 0)
  | .str s, _ => if s.length ≤ sizeLine then some ((s.length : Int) != 0) else none
  | .tup xs, _ => some (!xs.isEmpty)
  | .rol xs, _ => some (!xs.isEmpty)
  | .ref n, mh => match mh[n]? with
    | some (.lst xs) => some (!xs.isEmpty)
    | some (.dk xs) => some (!xs.isEmpty)
    | _ => none
  | _, _ => none
def tru (f : ME) : MT := fun env mh => (f env mh).bind fun a mh1 => match truD a mh1 with | some b => .ok b mh1 | none => .no
def tb (f : ME) : MT := fun env mh => (f env mh).bind fun a mh1 => match a with | .bl b => .ok b mh1 | _ => .no
def tand (f g : MT) : MT := fun env mh => (f env mh).bind fun b mh1 => if b = true then g env mh1 else .ok false mh1
def tor (f g : MT) : MT := fun env mh => (f env mh).bind fun b mh1 => if b = true then .ok true mh1 else g env mh1
def tnot (f : MT) : MT := fun env mh => (f env mh).bind fun b mh1 => .ok (!b) mh1
def eand (f g : ME) : ME := fun env mh => (f env mh).bind fun a mh1 => match truD a mh1 with | some b => if b = true then g env mh1 else .ok a mh1 | none => .no
def eor (f g : ME) : ME := fun env mh => (f env mh).bind fun a mh1 => match truD a mh1 with | some b => if b = true then .ok a mh1 else g env mh1 | none => .no
def enot (f : ME) : ME := fun env mh => (f env mh).bind fun a mh1 => match truD a mh1 with | some b => .ok (.bl (!b)) mh1 | none => .no
def eif (c : MT) (f g : ME) : ME := fun env mh => (c env mh).bind fun b mh1 => if b = true then f env mh1 else g env mh1
abbrev Fn := List D → MH → Res D
def cal (n : Nat) (F : Fn) (f : MA) : ME := fun env mh => (f env mh).bind fun ds mh1 => if ds.length = n then F ds mh1 else .no

/-- what an operation's values reading is -/
def postO {α β : Type} (K : PySem.W.Frag) (R : Rl α β) (φ : List Addr) (H : Hp) (r : Option (α × MH)) (Q : β → Hp → Prop) : Prop := match r with
  | some (a, mh') => ∀ φ' b H', Px φ φ' → Kp H H' → HR K φ' mh' H' → R φ' H' a b → Q b H'
  | none => False
def iR1 (K : PySem.W.Frag) (o : Op1) : V → Hp → VK → Prop := fun x H Q => ∃ φ mh a, RelD K φ H a x ∧ HR K φ mh H ∧ postO K (RelD K) φ H (o a mh) Q
def iR2 (K : PySem.W.Frag) (o : Op2) : R2 := fun x y H Q => ∃ φ mh a b, RelD K φ H a x ∧ RelD K φ H b y ∧ HR K φ mh H ∧ postO K (RelD K) φ H (o a b mh) Q
def iRA (K : PySem.W.Frag) (o : OpA) : List V → Hp → VK → Prop := fun xs H Q => ∃ φ mh as, RelDs K φ H as xs ∧ HR K φ mh H ∧ postO K (RelD K) φ H (o as mh) Q
theorem post_ofO {α β : Type} {K : PySem.W.Frag} {mg : MGl} {W : WX} {R : Rl α β} {σ : L2.St} {φ : List Addr} {H : Hp} {r : Option (α × MH)} {Q : β → Hp → Prop} (h : post K mg W R σ φ H (.ofO r) Q) : postO K R φ H r Q := by
  cases r with
  | none => exact h
  | some p => obtain ⟨a, mh⟩ := p; exact h
section
variable {X : Cx} {W : WX} {e a b c : Expr} {es : List Expr} {f g : ME} {fa : MA} {ft gt : MT} {pos : Pos}
theorem imp1 {o : Op1} {r : V → Hp → VK → Prop} {t : TE} (hr : ∀ x H Q, iR1 X.K o x H Q → r x H Q) : ∀ σ H Q, iE X.K X.mg W (un o f) σ H Q → tUn r (iE X.K X.mg W f) σ H Q := by
  rintro σ H Q ⟨φ, env, mh, re, hh, p⟩
  refine ⟨φ, env, mh, re, hh, post_mono (Px.refl φ) (Kp.refl H) (post_bind (R1 := RelD X.K) p) ?_⟩
  rintro x H1 ⟨φ1, d, mh1, p1, k1, h1, r1, q⟩
  exact hr _ _ _ ⟨φ1, mh1, d, r1, h1, post_ofO q⟩
theorem imp2 {o : Op2} {r : R2} (hr : ∀ x y H Q, iR2 X.K o x y H Q → r x y H Q) : ∀ σ H Q, iE X.K X.mg W (bi o f g) σ H Q → tOp r (iE X.K X.mg W f) (iE X.K X.mg W g) σ H Q := by
  rintro σ H Q ⟨φ, env, mh, re, hh, p⟩
  refine ⟨φ, env, mh, re, hh, post_mono (Px.refl φ) (Kp.refl H) (post_bind (R1 := RelD X.K) p) ?_⟩
  rintro x H1 ⟨φ1, d, mh1, p1, k1, h1, r1, q⟩
  refine ⟨φ1, env, mh1, re.mono p1 k1, h1, post_mono (Px.refl φ1) (Kp.refl H1) (post_bind (R1 := RelD X.K) q) ?_⟩
  rintro y H2 ⟨φ2, d2, mh2, p2, k2, h2, r2, q2⟩
  exact hr _ _ _ _ ⟨φ2, mh2, d, d2, r1.mono p2 k2, r2, h2, post_ofO q2⟩
theorem impA {o : OpA} {r : List V → Hp → VK → Prop} (hr : ∀ x H Q, iRA X.K o x H Q → r x H Q) : ∀ σ H Q, iE X.K X.mg W (ap o fa) σ H Q → (fun σ H Q => iA X.K X.mg W fa σ H fun xs H1 => r xs H1 Q : TE) σ H Q := by
  rintro σ H Q ⟨φ, env, mh, re, hh, p⟩
  refine ⟨φ, env, mh, re, hh, post_mono (Px.refl φ) (Kp.refl H) (post_bind (R1 := RelDs X.K) p) ?_⟩
  rintro x H1 ⟨φ1, d, mh1, p1, k1, h1, r1, q⟩
  exact hr _ _ _ ⟨φ1, mh1, d, r1, h1, post_ofO q⟩

theorem sv (i : Nat) {x : Str} {pos : Pos} (hN : X.N[i]? = some x := by rfl) (hv : Vis X.env.scope x := by first | exact Or.inl rfl | exact Or.inr (Or.inl rfl) | exact Or.inr (Or.inr rfl)) (hd : (x == ("__debug__" : Str)) = false := by decide)
    (hcd : (x == ("__classdict__" : Str)) = false := by decide) : SE X W (.Name x pos) (vr i) := by
  refine (pe_var (i := i) hN hv hd hcd).imp ?_
  rintro σ H Q ⟨φ, env, mh, re, hh, p⟩
  unfold vr at p
  cases h : env[i]? with
  | none => rw [h] at p; exact p.elim
  | some o =>
    cases o with
    | none => rw [h] at p; exact p.elim
    | some d =>
      rw [h] at p
      obtain ⟨v, h1, h2⟩ := re.at' i d h
      exact ⟨v, h1, p φ v H (Px.refl φ) (Kp.refl H) hh h2⟩
theorem skn {v : V} {d : D} (h : PE X e (tC v)) (r : ∀ φ H, RelD X.K φ H d v) : SE X W e (kn d) := by
  refine h.imp ?_
  rintro σ H Q ⟨φ, env, mh, re, hh, p⟩
  exact p φ v H (Px.refl φ) (Kp.refl H) hh (r φ H)
theorem sint {i : Int} {j : Nat} {pos : Pos} : SE X W (.Constant (.int i) j pos) (kn (.int i)) := skn pe_int fun _ _ => .int i
theorem sbl {i : Bool} {j : Nat} {pos : Pos} : SE X W (.Constant (.bool i) j pos) (kn (.bl i)) := skn pe_bl fun _ _ => .bl i
theorem snon {j : Nat} {pos : Pos} : SE X W (.Constant .none j pos) (kn .non) := skn pe_non fun _ _ => .non
theorem sstr {i : Str} {j : Nat} {pos : Pos} : SE X W (.Constant (.str i) j pos) (kn (.str i)) := skn pe_str fun _ _ => .str i
theorem sa_nil : SA X W [] anil := pa_nil.imp (by
  rintro σ H Q ⟨φ, env, mh, re, hh, p⟩
  exact p φ [] H (Px.refl φ) (Kp.refl H) hh .nil)
theorem sa_cons (ha : SE X W e f) (hr : SA X W es fa) (hs : starEach (e :: es) X.env = (false, eval e X.env) :: starEach es X.env := by rfl) : SA X W (e :: es) (acons f fa) := (pa_cons ha hr hs).imp (by
  rintro σ H Q ⟨φ, env, mh, re, hh, p⟩
  refine ⟨φ, env, mh, re, hh, post_mono (Px.refl φ) (Kp.refl H) (post_bind (R1 := RelD X.K) p) ?_⟩
  rintro x H1 ⟨φ1, d, mh1, p1, k1, h1, r1, q⟩
  refine ⟨φ1, env, mh1, re.mono p1 k1, h1, post_mono (Px.refl φ1) (Kp.refl H1) (post_bind (R1 := RelDs X.K) q) ?_⟩
  rintro xs H2 ⟨φ2, ds, mh2, p2, k2, h2, r2, q2⟩
  exact q2 φ2 (x :: xs) H2 (Px.refl φ2) (Kp.refl H2) h2 (.cons (r1.mono p2 k2) r2))
/-- operators, by their rules -/
theorem sbin {op : Operator} {r : R2} {o : Op2} (ho : OpR X (binaryOp op) r) (hr : ∀ x y H Q, iR2 X.K o x y H Q → r x y H Q) (ha : SE X W a f) (hb : SE X W b g) : SE X W (.BinOp a op b pos) (bi o f g) := (pe_op ho ha hb).imp (imp2 hr)
theorem sun {op : UnaryOp} {r : V → Hp → VK → Prop} {o : Op1} (ho : UnR X (unaryOp op) r) (hr : ∀ x H Q, iR1 X.K o x H Q → r x H Q) (ha : SE X W a f) : SE X W (.UnaryOp op a pos) (un o f) := (pe_un ho ha).imp (imp1 (t := tC .non) hr)
theorem scmp {op : CmpOp} {r : R2} {o : Op2} (ho : OpR X (compareOp op) r) (hr : ∀ x y H Q, iR2 X.K o x y H Q → r x y H Q) (ha : SE X W a f) (hb : SE X W b g) (hm : behindInMarks op b = false) : SE X W (.Compare a [op] [b] pos) (bi o f g) := (pe_cmpR ho ha hb hm).imp (imp2 hr)
theorem imp_tb : ∀ σ H Q, iT X.K X.mg W (tb f) σ H Q → tTest (iE X.K X.mg W f) σ H Q := by
  rintro σ H Q ⟨φ, env, mh, re, hh, p⟩
  refine ⟨φ, env, mh, re, hh, post_mono (Px.refl φ) (Kp.refl H) (post_bind (R1 := RelD X.K) p) ?_⟩
  rintro x H1 ⟨φ1, d, mh1, p1, k1, h1, r1, q⟩
  cases r1 with
  | bl b => exact ⟨b, rfl, q φ1 b H1 (Px.refl φ1) (Kp.refl H1) h1 rfl⟩
  | _ => exact q.elim
theorem tcmp {op : CmpOp} {r : R2} {o : Op2} (ho : OpR X (compareOp op) r) (hr : ∀ x y H Q, iR2 X.K o x y H Q → r x y H Q) (ha : SE X W a f) (hb : SE X W b g) (hm : behindInMarks op b = false) : ST X W (.Compare a [op] [b] pos) (tb (bi o f g)) :=
  (pt_cmpR ho ha hb hm).imp (by
    intro σ H Q h
    obtain ⟨φ, env, mh, re, hh, p⟩ := imp_tb (f := bi o f g) σ H Q h
    exact imp2 hr σ H _ ⟨φ, env, mh, re, hh, p⟩)
theorem truV_of {d : D} {v : V} {φ : List Addr} {mh : MH} {H : Hp} {k : Bool} (r : RelD X.K φ H d v) (hh : HR X.K φ mh H) (h : truD d mh = some k) : TruV X.K v H k := by
  cases r with
  | non => simp only [truD, Option.some.injEq] at h; exact h.symm
  | bl b => simp only [truD, Option.some.injEq] at h; exact h.symm
  | int i => simp only [truD, Option.some.injEq] at h; exact h.symm
  | str s =>
    simp only [truD] at h
    split at h
    · rename_i hl; simp only [Option.some.injEq] at h; exact ⟨hl, h.symm⟩
    · cases h
  | ty n => simp [truD] at h
  | exc => simp [truD] at h
  | ref e =>
    simp only [truD] at h
    split at h
    · rename_i xs hx
      simp only [Option.some.injEq] at h
      obtain ⟨vs, h1, h2⟩ := hh.lst e hx
      refine .inl ⟨vs, SqL.of h1, ?_⟩
      rw [← h]
      have := h2.length
      cases xs <;> cases vs <;> simp_all
    · rename_i xs hx
      simp only [Option.some.injEq] at h
      obtain ⟨vs, h1, h2⟩ := hh.ob _ _ _ e hx
      refine .inr (.inr ⟨vs, h1, ?_⟩)
      rw [← h]
      have := h2.2.length
      cases xs <;> cases vs <;> simp_all
    · cases h
  | tup e es =>
    simp only [truD, Option.some.injEq] at h
    refine .inr (.inl ⟨_, e, ?_⟩)
    rw [← h]
    have := es.length
    rename_i ds vs
    cases ds <;> cases vs <;> simp_all
  | rol e es =>
    simp only [truD, Option.some.injEq] at h
    refine .inl ⟨_, e.seq, ?_⟩
    rw [← h]
    have := es.length
    rename_i ds vs
    cases ds <;> cases vs <;> simp_all
theorem stru (ha : SE X W a f) (he : ∀ whole, isTrue a X.env whole = (do let v ← whole; standAt a.pos; holding [v] (truthy v)) := by intro _; rfl) : ST X W a (tru f) := (pt_truth ha he).imp (by
  rintro σ H Q ⟨φ, env, mh, re, hh, p⟩
  refine ⟨φ, env, mh, re, hh, post_mono (Px.refl φ) (Kp.refl H) (post_bind (R1 := RelD X.K) p) ?_⟩
  rintro x H1 ⟨φ1, d, mh1, p1, k1, h1, r1, q⟩
  cases hd : truD d mh1 with
  | none => rw [hd] at q; exact q.elim
  | some k =>
    rw [hd] at q
    exact ⟨k, truV_of r1 h1 hd, q φ1 k H1 (Px.refl φ1) (Kp.refl H1) h1 rfl⟩)
theorem st_not (ha : ST X W a ft) : ST X W (.UnaryOp .Not a pos) (tnot ft) := (pt_not ha).imp (by
  rintro σ H Q ⟨φ, env, mh, re, hh, p⟩
  refine ⟨φ, env, mh, re, hh, post_mono (Px.refl φ) (Kp.refl H) (post_bind (R1 := RB) p) ?_⟩
  rintro x H1 ⟨φ1, d, mh1, p1, k1, h1, r1, q⟩
  have e1 : d = x := r1
  subst e1
  exact q φ1 (!d) H1 (Px.refl φ1) (Kp.refl H1) h1 rfl)
theorem imp_and : ∀ σ H Q, iT X.K X.mg W (tand ft gt) σ H Q → tAnd (iT X.K X.mg W ft) (iT X.K X.mg W gt) σ H Q := by
  rintro σ H Q ⟨φ, env, mh, re, hh, p⟩
  refine ⟨φ, env, mh, re, hh, post_mono (Px.refl φ) (Kp.refl H) (post_bind (R1 := RB) p) ?_⟩
  rintro x H1 ⟨φ1, d, mh1, p1, k1, h1, r1, q⟩
  have e1 : d = x := r1
  subst e1
  cases d with
  | true => exact ⟨φ1, env, mh1, re.mono p1 k1, h1, q⟩
  | false => exact q φ1 false H1 (Px.refl φ1) (Kp.refl H1) h1 rfl
theorem imp_or : ∀ σ H Q, iT X.K X.mg W (tor ft gt) σ H Q → tOr (iT X.K X.mg W ft) (iT X.K X.mg W gt) σ H Q := by
  rintro σ H Q ⟨φ, env, mh, re, hh, p⟩
  refine ⟨φ, env, mh, re, hh, post_mono (Px.refl φ) (Kp.refl H) (post_bind (R1 := RB) p) ?_⟩
  rintro x H1 ⟨φ1, d, mh1, p1, k1, h1, r1, q⟩
  have e1 : d = x := r1
  subst e1
  cases d with
  | true => exact q φ1 true H1 (Px.refl φ1) (Kp.refl H1) h1 rfl
  | false => exact ⟨φ1, env, mh1, re.mono p1 k1, h1, q⟩
theorem sw_and1 (ha : ST X W a ft) : SW X W (.BoolOp .And [a] pos) ft := pw_and1 ha
theorem sw_or1 (ha : ST X W a ft) : SW X W (.BoolOp .Or [a] pos) ft := pw_or1 ha
theorem sw_and {rest : List Expr} (ha : ST X W a ft) (hb : SW X W (.BoolOp .And (b :: rest) pos) gt) : SW X W (.BoolOp .And (a :: b :: rest) pos) (tand ft gt) := (pw_and ha hb).imp imp_and
theorem sw_or {rest : List Expr} (ha : ST X W a ft) (hb : SW X W (.BoolOp .Or (b :: rest) pos) gt) : SW X W (.BoolOp .Or (a :: b :: rest) pos) (tor ft gt) := (pw_or ha hb).imp imp_or
theorem se_one {op : BoolOp} (h : SE X W a f) : SE X W (.BoolOp op [a] pos) f := pe_one h
theorem se_and {rest : List Expr} (ha : SE X W a f) (hb : SE X W (.BoolOp .And (b :: rest) pos) g) : SE X W (.BoolOp .And (a :: b :: rest) pos) (eand f g) := (pe_andT ha hb).imp (by
  rintro σ H Q ⟨φ, env, mh, re, hh, p⟩
  refine ⟨φ, env, mh, re, hh, post_mono (Px.refl φ) (Kp.refl H) (post_bind (R1 := RelD X.K) p) ?_⟩
  rintro x H1 ⟨φ1, d, mh1, p1, k1, h1, r1, q⟩
  cases hd : truD d mh1 with
  | none => rw [hd] at q; exact q.elim
  | some k =>
    rw [hd] at q
    refine ⟨k, truV_of r1 h1 hd, ?_⟩
    cases k with
    | true => exact ⟨φ1, env, mh1, re.mono p1 k1, h1, q⟩
    | false => exact q φ1 x H1 (Px.refl φ1) (Kp.refl H1) h1 r1)
theorem se_or {rest : List Expr} (ha : SE X W a f) (hb : SE X W (.BoolOp .Or (b :: rest) pos) g) : SE X W (.BoolOp .Or (a :: b :: rest) pos) (eor f g) := (pe_orT ha hb).imp (by
  rintro σ H Q ⟨φ, env, mh, re, hh, p⟩
  refine ⟨φ, env, mh, re, hh, post_mono (Px.refl φ) (Kp.refl H) (post_bind (R1 := RelD X.K) p) ?_⟩
  rintro x H1 ⟨φ1, d, mh1, p1, k1, h1, r1, q⟩
  cases hd : truD d mh1 with
  | none => rw [hd] at q; exact q.elim
  | some k =>
    rw [hd] at q
    refine ⟨k, truV_of r1 h1 hd, ?_⟩
    cases k with
    | false => exact ⟨φ1, env, mh1, re.mono p1 k1, h1, q⟩
    | true => exact q φ1 x H1 (Px.refl φ1) (Kp.refl H1) h1 r1)
theorem se_not (ha : SE X W a f) : SE X W (.UnaryOp .Not a pos) (enot f) := (pe_notT ha).imp (by
  rintro σ H Q ⟨φ, env, mh, re, hh, p⟩
  refine ⟨φ, env, mh, re, hh, post_mono (Px.refl φ) (Kp.refl H) (post_bind (R1 := RelD X.K) p) ?_⟩
  rintro x H1 ⟨φ1, d, mh1, p1, k1, h1, r1, q⟩
  cases hd : truD d mh1 with
  | none => rw [hd] at q; exact q.elim
  | some k =>
    rw [hd] at q
    exact ⟨k, truV_of r1 h1 hd, q φ1 _ H1 (Px.refl φ1) (Kp.refl H1) h1 (.bl _)⟩)
theorem se_if (hc : ST X W c ft) (ha : SE X W a f) (hb : SE X W b g) : SE X W (.IfExp c a b pos) (eif ft f g) := (pe_ifExp hc ha hb).imp (by
  rintro σ H Q ⟨φ, env, mh, re, hh, p⟩
  refine ⟨φ, env, mh, re, hh, post_mono (Px.refl φ) (Kp.refl H) (post_bind (R1 := RB) p) ?_⟩
  rintro x H1 ⟨φ1, d, mh1, p1, k1, h1, r1, q⟩
  have e1 : d = x := r1
  subst e1
  cases d with
  | true => exact ⟨φ1, env, mh1, re.mono p1 k1, h1, q⟩
  | false => exact ⟨φ1, env, mh1, re.mono p1 k1, h1, q⟩)
end
end Det
/-! Det, part C: statements, loops, comprehensions, defs. -/
namespace Det
open PySem PySem.Spec PyProof.Rows L2

abbrev MS := Nv → MH → SRes
def lift {α : Type} (r : Res α) (env : Nv) (k : α → MH → SRes) : SRes := match r with
  | .ok a h => k a h
  | .ex x h => .ex x env h
  | .no => .no
def nop : MS := fun env mh => .nx env mh
def sq (s t : MS) : MS := fun env mh => match s env mh with
  | .nx e h => t e h
  | r => r
def sst (i : Nat) (f : ME) : MS := fun env mh => lift (f env mh) env fun d mh1 => .nx (env.set i (some d)) mh1
def drp (f : ME) : MS := fun env mh => lift (f env mh) env fun _ mh1 => .nx env mh1
def ret (f : ME) : MS := fun env mh => lift (f env mh) env fun d mh1 => .rt d mh1
def retN : MS := fun _ mh => .rt .non mh
def sif (c : MT) (s t : MS) : MS := fun env mh => lift (c env mh) env fun b mh1 => if b = true then s env mh1 else t env mh1
def brk : MS := fun env mh => .bk env mh
def cnt : MS := fun env mh => .ct env mh
def whl (c : MT) (b : MS) : Nat → MS
  | 0 => fun _ _ => .no
  | n + 1 => fun env mh => lift (c env mh) env fun t mh1 => if t = true then (match b env mh1 with
    | .nx e h => whl c b n e h
    | .ct e h => whl c b n e h
    | .bk e h => .nx e h
    | r => r) else .nx env mh1
/-- targets -/
inductive Pat where
  | nm (i : Nat) | tp (is : List Nat)
def Pat.ix : Pat → List Nat
  | .nm i => [i]
  | .tp is => is
def setMany : List Nat → List D → Nv → Nv
  | i :: is, d :: ds, env => setMany is ds (env.set i (some d))
  | _, _, env => env
def setP : Pat → D → Nv → Option Nv
  | .nm i, d, env => some (env.set i (some d))
  | .tp is, .tup ds, env => if ds.length = is.length then some (setMany is ds env) else none
  | _, _, _ => none
def asg (p : Pat) (f : ME) : MS := fun env mh => lift (f env mh) env fun d mh1 => match setP p d env with | some e => .nx e mh1 | none => .no
/-- what a for walks over -/
structure ItD where
  items : List D
  chk : MH → Bool
abbrev MI := Nv → MH → Res ItD
def loopF (chk : MH → Bool) (p : Pat) (body : MS) : List D → MS
  | [], env, mh => if chk mh = true then .nx env mh else .no
  | d :: ds, env, mh => if chk mh = true then (match setP p d env with
    | some e => (match body e mh with
      | .nx e h => loopF chk p body ds e h
      | .ct e h => loopF chk p body ds e h
      | .bk e h => .nx e h
      | r => r)
    | none => .no) else .no
def sfor (fi : MI) (p : Pat) (body : MS) : MS := fun env mh => lift (fi env mh) env fun it mh1 => loopF it.chk p body it.items env mh1
def Res.nox {α : Type} : Res α → Res α
  | .ex _ _ => .no
  | r => r
def wipeD (env : Nv) : List Nat → Nv
  | [] => env
  | v :: vs => (wipeD env vs).set v none
def loopC (n : Nat) (chk : MH → Bool) (p : Pat) (test : MT) (elt : ME) (env : Nv) : List D → MH → Res D
  | [], mh => if chk mh = true then .ok (.ref n) mh else .no
  | d :: ds, mh => if chk mh = true then (match setP p d env with
    | some e => ((test e mh).nox).bind fun b mh2 => if b = true then ((elt e mh2).nox).bind fun y mh3 => (match mh3[n]? with
        | some (.lst acc) => if acc.length < sizeLine then loopC n chk p test elt env ds (mh3.set n (.lst (acc ++ [y]))) else .no
        | _ => .no) else loopC n chk p test elt env ds mh2
    | none => .no) else .no
def lc (fi : MI) (p : Pat) (test : MT) (elt : ME) (vs : List Nat) : ME := fun env mh => (fi env mh).bind fun it mh1 =>
  loopC mh1.length it.chk p test elt (wipeD env vs) it.items (mh1 ++ [.lst []])
def yes : MT := fun _ mh => .ok true mh
/-- a def's function -/
def runF (n : Nat) (body : MS) : Fn := fun ds mh => match body (ds.map some ++ List.replicate (n - ds.length) none) mh with
  | .nx _ h => .ok .non h
  | .rt d h => .ok d h
  | .ex x _ h => .ex x h
  | _ => .no

/-! ### readings -/
def postS (K : PySem.W.Frag) (mg : MGl) (W : WX) (φ : List Addr) (H : Hp) (r : SRes) (D : Ends) : Prop := match r with
  | .nx e mh' => ∀ φ' σ' H', Px φ φ' → Kp H H' → HR K φ' mh' H' → RelE K φ' H' e σ' → D.nx σ' H'
  | .bk e mh' => ∀ φ' σ' H', Px φ φ' → Kp H H' → HR K φ' mh' H' → RelE K φ' H' e σ' → D.bk σ' H'
  | .ct e mh' => ∀ φ' σ' H', Px φ φ' → Kp H H' → HR K φ' mh' H' → RelE K φ' H' e σ' → D.ct σ' H'
  | .rt d mh' => ∀ φ' v H', Px φ φ' → Kp H H' → HR K φ' mh' H' → RelD K φ' H' d v → D.rt v H'
  | .ex x e mh' => ∀ φ' c d σ' H', Px φ φ' → Kp H H' → HR K φ' mh' H' → RelE K φ' H' e σ' → RelX K mg φ' H' x c d → W c d σ' H'
  | .no => False
def iS (K : PySem.W.Frag) (mg : MGl) (W : WX) (f : MS) : TS := fun D σ H => ∃ φ env mh, RelE K φ H env σ ∧ HR K φ mh H ∧ postS K mg W φ H (f env mh) D
abbrev SS (X : Cx) (W : WX) (st : Stmt) (f : MS) : Prop := PS X st (iS X.K X.mg W f)
abbrev SSs (X : Cx) (W : WX) (sts : List Stmt) (f : MS) : Prop := PSs X sts (iS X.K X.mg W f)
section
variable {K : PySem.W.Frag} {mg : MGl} {W : WX} {σ : L2.St} {φ φ' : List Addr} {H H' : Hp} {env : Nv} {D D' : Ends}
theorem postS_mono {r : SRes} (p : Px φ φ') (k : Kp H H') (h : postS K mg W φ H r D) (h1 : ∀ σ H, D.nx σ H → D'.nx σ H) (h2 : ∀ v H, D.rt v H → D'.rt v H) (h3 : ∀ σ H, D.bk σ H → D'.bk σ H) (h4 : ∀ σ H, D.ct σ H → D'.ct σ H) : postS K mg W φ' H' r D' := by
  cases r with
  | nx e mh => exact fun φ2 s H2 p2 k2 hr he => h1 _ _ (h φ2 s H2 (p.trans p2) (k.trans k2) hr he)
  | bk e mh => exact fun φ2 s H2 p2 k2 hr he => h3 _ _ (h φ2 s H2 (p.trans p2) (k.trans k2) hr he)
  | ct e mh => exact fun φ2 s H2 p2 k2 hr he => h4 _ _ (h φ2 s H2 (p.trans p2) (k.trans k2) hr he)
  | rt d mh => exact fun φ2 s H2 p2 k2 hr he => h2 _ _ (h φ2 s H2 (p.trans p2) (k.trans k2) hr he)
  | ex x e mh => exact fun φ2 c d s H2 p2 k2 hr he hx => h φ2 c d s H2 (p.trans p2) (k.trans k2) hr he hx
  | no => exact h
theorem postS_up {r : SRes} (p : Px φ φ') (k : Kp H H') (h : postS K mg W φ H r D) : postS K mg W φ' H' r D := postS_mono p k h (fun _ _ q => q) (fun _ _ q => q) (fun _ _ q => q) (fun _ _ q => q)
theorem post_lift {α β : Type} {R : Rl α β} {r : Res α} {k : α → MH → SRes} (re : RelE K φ H env σ) (h : postS K mg W φ H (lift r env k) D) :
    post K mg W R σ φ H r fun b H1 => ∃ φ1 a mh1, Px φ φ1 ∧ Kp H H1 ∧ HR K φ1 mh1 H1 ∧ R φ1 H1 a b ∧ postS K mg W φ1 H1 (k a mh1) D := by
  cases r with
  | ok a mh => exact fun φ2 b H2 p2 k2 hr hR => ⟨φ2, a, mh, p2, k2, hr, hR, postS_up p2 k2 h⟩
  | ex x mh => exact fun φ2 c d H2 p2 k2 hr hx => h φ2 c d σ H2 p2 k2 hr (re.mono p2 k2) hx
  | no => exact h
theorem RelE.none (r : RelE K φ H env σ) (v : Nat) : RelE K φ H (env.set v none) (σ.set v none) := by
  refine ⟨by simp [r.len], fun j e q => ?_⟩
  by_cases hj : j = v
  · subst hj
    by_cases hl : j < env.length
    · rw [List.getElem?_set_self hl] at q; cases q
    · rw [List.getElem?_eq_none (by simpa using hl)] at q; cases q
  · rw [List.getElem?_set_ne (Ne.symm hj)] at q ⊢
    exact r.at' j e q
theorem RelE.wipe (r : RelE K φ H env σ) : ∀ vs : List Nat, RelE K φ H (wipeD env vs) (L2.wipe σ vs)
  | [] => r
  | v :: vs => (RelE.wipe r vs).none v
end
section
variable {X : Cx} {W : WX} {e c : Expr} {f : ME} {ft : MT} {s t : MS} {st : Stmt} {rest body body2 : List Stmt} {pos : Pos}
theorem ss_nil : SSs X W [] nop := pss_nil.imp (by
  rintro D σ H ⟨φ, env, mh, re, hh, p⟩
  exact p φ σ H (Px.refl φ) (Kp.refl H) hh re)
theorem ss_pass : SS X W (.Pass pos) nop := ps_pass.imp (by
  rintro D σ H ⟨φ, env, mh, re, hh, p⟩
  exact p φ σ H (Px.refl φ) (Kp.refl H) hh re)
theorem ss_brk : SS X W (.Break pos) brk := ps_break.imp (by
  rintro D σ H ⟨φ, env, mh, re, hh, p⟩
  exact p φ σ H (Px.refl φ) (Kp.refl H) hh re)
theorem ss_cnt : SS X W (.Continue pos) cnt := ps_continue.imp (by
  rintro D σ H ⟨φ, env, mh, re, hh, p⟩
  exact p φ σ H (Px.refl φ) (Kp.refl H) hh re)
theorem ss_retN : SS X W (.Return none pos) retN := ps_retN.imp (by
  rintro D σ H ⟨φ, env, mh, re, hh, p⟩
  exact p φ .non H (Px.refl φ) (Kp.refl H) hh .non)
theorem ss_one (h1 : SS X W st s) : SSs X W [st] s := pss_one h1
theorem ss_cons (h1 : SS X W st s) (h2 : SSs X W rest t) : SSs X W (st :: rest) (sq s t) := (pss_cons h1 h2).imp (by
  rintro D σ H ⟨φ, env, mh, re, hh, p⟩
  refine ⟨φ, env, mh, re, hh, ?_⟩
  unfold sq at p
  cases h : s env mh with
  | nx e h1 => rw [h] at p; exact fun φ2 s2 H2 p2 k2 hr he => ⟨φ2, e, h1, he, hr, postS_up p2 k2 p⟩
  | bk e h1 => rw [h] at p; exact p
  | ct e h1 => rw [h] at p; exact p
  | rt e h1 => rw [h] at p; exact p
  | ex x e h1 => rw [h] at p; exact p
  | no => rw [h] at p; exact p)
theorem ss_drop (he : SE X W e f) (hs : swapsWith e none pos.line X.env = pure false := by rfl) : SS X W (.Expr e pos) (drp f) := (ps_expr he hs).imp (by
  rintro D σ H ⟨φ, env, mh, re, hh, p⟩
  refine ⟨φ, env, mh, re, hh, post_mono (Px.refl φ) (Kp.refl H) (post_lift (R := RelD X.K) re p) ?_⟩
  rintro x H1 ⟨φ1, d, mh1, p1, k1, h1, r1, q⟩
  exact q φ1 σ H1 (Px.refl φ1) (Kp.refl H1) h1 (re.mono p1 k1))
theorem ss_ret (he : SE X W e f) : SS X W (.Return (some e) pos) (ret f) := (ps_ret he).imp (by
  rintro D σ H ⟨φ, env, mh, re, hh, p⟩
  refine ⟨φ, env, mh, re, hh, post_mono (Px.refl φ) (Kp.refl H) (post_lift (R := RelD X.K) re p) ?_⟩
  rintro x H1 ⟨φ1, d, mh1, p1, k1, h1, r1, q⟩
  exact q φ1 x H1 (Px.refl φ1) (Kp.refl H1) h1 r1)
theorem imp_set {i : Nat} : ∀ D σ H, iS X.K X.mg W (sst i f) D σ H → tAsg (iE X.K X.mg W f) (gName i) D σ H := by
  rintro D σ H ⟨φ, env, mh, re, hh, p⟩
  refine ⟨φ, env, mh, re, hh, post_mono (Px.refl φ) (Kp.refl H) (post_lift (R := RelD X.K) re p) ?_⟩
  rintro x H1 ⟨φ1, d, mh1, p1, k1, h1, r1, q⟩
  exact q φ1 _ H1 (Px.refl φ1) (Kp.refl H1) h1 ((re.mono p1 k1).set r1 i)
theorem ss_set {i : Nat} {x : Str} {pos' : Pos} (he : SE X W e f) (hN : X.N.Nodup) (hi : X.N[i]? = some x := by rfl) (hx : Loc X.env.scope x := by first | exact Or.inl rfl | exact Or.inr rfl)
    (hs : swapsWith e (some (.Name x pos')) pos.line X.env = pure false := by rfl) (hf : X.fn x = true ∨ X.env.scope.names.lookup x = some .local := by first | exact .inl rfl | exact .inr rfl) :
    SS X W (.Assign [.Name x pos'] e pos) (sst i f) := (ps_set hN hi hx he hs hf).imp imp_set
theorem ss_if (hc : ST X W c ft) (ha : SSs X W body s) (hb : SSs X W body2 t) : SS X W (.If c body body2 pos) (sif ft s t) := (ps_if hc ha hb).imp (by
  rintro D σ H ⟨φ, env, mh, re, hh, p⟩
  refine ⟨φ, env, mh, re, hh, post_mono (Px.refl φ) (Kp.refl H) (post_lift (R := RB) re p) ?_⟩
  rintro x H1 ⟨φ1, d, mh1, p1, k1, h1, r1, q⟩
  have e1 : d = x := r1
  subst e1
  cases d with
  | true => exact ⟨φ1, env, mh1, re.mono p1 k1, h1, q⟩
  | false => exact ⟨φ1, env, mh1, re.mono p1 k1, h1, q⟩)
theorem ss_while (fuel : Nat) (hp : PassesOwn (model X.prog X.w) X.A X.env X.xe) (hc : ST X W c ft) (hb : SSs X W body s) : SS X W (.While c body [] pos) (whl ft s fuel) := (ps_while hp hc hb).imp (by
  rintro D σ H ⟨φ, env, mh, re, hh, p⟩
  refine ⟨fun m σ H => ∃ φ env mh, RelE X.K φ H env σ ∧ HR X.K φ mh H ∧ postS X.K X.mg W φ H (whl ft s m env mh) D, ⟨fuel, φ, env, mh, re, hh, p⟩, ?_⟩
  rintro m σ H ⟨φ, env, mh, re, hh, p⟩
  cases m with
  | zero => exact p.elim
  | succ m =>
    refine ⟨φ, env, mh, re, hh, post_mono (Px.refl φ) (Kp.refl H) (post_lift (R := RB) re p) ?_⟩
    rintro x H1 ⟨φ1, d, mh1, p1, k1, h1, r1, q⟩
    have e1 : d = x := r1
    subst e1
    cases d with
    | false => exact q φ1 σ H1 (Px.refl φ1) (Kp.refl H1) h1 (re.mono p1 k1)
    | true =>
      refine ⟨fun σ' H' => ∃ φ env mh, RelE X.K φ H' env σ' ∧ HR X.K φ mh H' ∧ postS X.K X.mg W φ H' (whl ft s m env mh) D, fun σ' H' h => ⟨m, Nat.lt_succ_self m, h⟩, ?_⟩
      refine ⟨φ1, env, mh1, re.mono p1 k1, h1, ?_⟩
      cases hb : s env mh1 with
      | nx e h => simp only [hb, if_true] at q; exact fun φ2 s2 H2 p2 k2 hr he => ⟨φ2, e, h, he, hr, postS_up p2 k2 q⟩
      | ct e h => simp only [hb, if_true] at q; exact fun φ2 s2 H2 p2 k2 hr he => ⟨φ2, e, h, he, hr, postS_up p2 k2 q⟩
      | bk e h => simp only [hb, if_true] at q; exact q
      | rt e h => simp only [hb, if_true] at q; exact q
      | ex x e h => simp only [hb, if_true] at q; exact q
      | no => simp only [hb, if_true] at q; exact q)

/-! ### targets -/
def iG (K : PySem.W.Frag) (p : Pat) : TG := fun v σ H Q => ∃ φ env mh d env', RelE K φ H env σ ∧ HR K φ mh H ∧ RelD K φ H d v ∧ setP p d env = some env' ∧
  ∀ σ', RelE K φ H env' σ' → (∀ vs, (∀ j ∈ p.ix, j ∈ vs) → wipe σ' vs = wipe σ vs) → Q σ' H
abbrev SG (X : Cx) (tg : Expr) (p : Pat) : Prop := PG X tg (iG X.K p)
theorem _root_.L2.PG.imp {X : Cx} {e : Expr} {t t' : TG} (h : PG X e t) (w : ∀ v σ H Q, t' v σ H Q → t v σ H Q) : PG X e t' := ⟨fun pins s σ H v u Q I r q => h.run pins s σ H v u Q I r (w v σ H Q q)⟩
theorem wipe_set {σ : L2.St} {j : Nat} {o : Option V} : ∀ {vs : List Nat}, j ∈ vs → wipe (σ.set j o) vs = wipe σ vs
  | v :: vs, h => by
    show (wipe (σ.set j o) vs).set v none = (wipe σ vs).set v none
    by_cases hv : j ∈ vs
    · rw [wipe_set hv]
    · have e : j = v := by
        rcases List.mem_cons.mp h with e | e
        · exact e
        · exact absurd e hv
      subst e
      have : ∀ (us : List Nat), j ∉ us → (wipe (σ.set j o) us) = (wipe σ us).set j o := by
        intro us
        induction us with
        | nil => intro _; rfl
        | cons u us ih =>
          intro hu
          show (wipe (σ.set j o) us).set u none = ((wipe σ us).set u none).set j o
          rw [ih (fun z => hu (List.mem_cons_of_mem _ z)), List.set_comm]
          exact fun z => hu (by rw [z]; exact List.mem_cons_self)
      rw [this vs hv, List.set_set]
theorem sg_name {i : Nat} {x : Str} (hN : X.N.Nodup) (hi : X.N[i]? = some x := by rfl) (hx : Loc X.env.scope x := by first | exact Or.inl rfl | exact Or.inr rfl)
    (hf : X.fn x = true ∨ X.env.scope.names.lookup x = some .local := by first | exact .inl rfl | exact .inr rfl) : SG X (.Name x pos) (.nm i) := (pg_name hN hi hx hf).imp (by
  rintro v σ H Q ⟨φ, env, mh, d, env', re, hh, rd, e, q⟩
  simp only [setP, Option.some.injEq] at e
  subst e
  exact q _ (re.set rd i) fun vs h => wipe_set (h i (List.mem_singleton.mpr rfl)))
/-- several names -/
def iGs (K : PySem.W.Frag) (is : List Nat) : TGs := fun vs σ H Q => ∃ φ env mh ds, RelE K φ H env σ ∧ HR K φ mh H ∧ RelDs K φ H ds vs ∧ ds.length = is.length ∧
  ∀ σ', RelE K φ H (setMany is ds env) σ' → (∀ us, (∀ j ∈ is, j ∈ us) → wipe σ' us = wipe σ us) → Q σ' H
abbrev SGs (X : Cx) (ts : List Expr) (is : List Nat) : Prop := PGs X ts (iGs X.K is)
theorem sgs_nil : SGs X [] [] := ⟨fun pins s σ H vs us Q I r h => by
  obtain ⟨φ, env, mh, ds, re, hh, rd, e, q⟩ := h
  cases ds with
  | cons _ _ => simp at e
  | nil =>
    cases rd
    exact pgs_nil.run pins s σ H [] us Q I r ⟨rfl, q σ re fun _ _ => rfl⟩⟩
theorem sgs_cons {i : Nat} {is : List Nat} {x : Str} {es : List Expr} (h2 : SGs X es is) (hN : X.N.Nodup) (hi : X.N[i]? = some x := by rfl) (hx : Loc X.env.scope x := by first | exact Or.inl rfl | exact Or.inr rfl)
    (hf : X.fn x = true ∨ X.env.scope.names.lookup x = some .local := by first | exact .inl rfl | exact .inr rfl)
    (hs : (assignEach (.Name x pos :: es) X.env).map (·.2) = assign (.Name x pos) X.env :: (assignEach es X.env).map (·.2) := by rfl) : SGs X (.Name x pos :: es) (i :: is) := ⟨fun pins s σ H vs us Q I r h => by
  obtain ⟨φ, env, mh, ds, re, hh, rd, e, q⟩ := h
  cases ds with
  | nil => simp at e
  | cons d ds =>
    cases rd with
    | cons r1 r2 =>
      rename_i v vs
      refine (pgs_cons (t := gName i) (pg_name hN hi hx hf) h2 hs).run pins s σ H _ us Q I r ⟨v, vs, rfl, φ, env.set i (some d), mh, ds, re.set r1 i, hh, r2, by simpa using e, fun σ' he hw => q σ' he fun us hu => ?_⟩
      rw [hw us fun j hj => hu j (List.mem_cons_of_mem _ hj)]
      exact wipe_set (hu i List.mem_cons_self)⟩
theorem sg_tup {is : List Nat} {es : List Expr} {k : Nat} (hc : X.calm = true) (h : SGs X es is) (hn : (assignEach es X.env).length = is.length := by rfl) (hst : (assignEach es X.env).findIdx? (·.1) = none := by rfl) :
    SG X (.Tuple es k pos) (.tp is) := (pg_tup hc h hn hst).imp (by
  rintro v σ H Q ⟨φ, env, mh, d, env', re, hh, rd, e, q⟩
  cases rd with
  | tup hs r =>
    rename_i a ds vs
    simp only [setP] at e
    split at e
    · rename_i hl
      cases e
      exact ⟨a, vs, rfl, hs, by rw [← r.length]; exact hl, φ, env, mh, ds, re, hh, r, hl, q⟩
    · cases e
  | _ => simp [setP] at e)
theorem ss_asg {tg : Expr} {p : Pat} (he : SE X W e f) (hg : SG X tg p) (hs : swapsWithSole [tg] e pos.line X.env = pure false := by rfl) (hw : swappedStores [tg] e X.env = pure none := by rfl)
    (h1 : (assignEach [tg] X.env).map (·.2) = [assign tg X.env] := by rfl) : SS X W (.Assign [tg] e pos) (asg p f) := (ps_asg he hg hs hw h1).imp (by
  rintro D σ H ⟨φ, env, mh, re, hh, p⟩
  refine ⟨φ, env, mh, re, hh, post_mono (Px.refl φ) (Kp.refl H) (post_lift (R := RelD X.K) re p) ?_⟩
  rintro x H1 ⟨φ1, d, mh1, p1, k1, h1, r1, q⟩
  cases hd : setP ‹Pat› d env with
  | none => rw [hd] at q; exact q.elim
  | some e =>
    rw [hd] at q
    exact ⟨φ1, env, mh1, d, e, re.mono p1 k1, h1, r1, hd, fun σ' he _ => q φ1 σ' H1 (Px.refl φ1) (Kp.refl H1) h1 he⟩)

/-! ### for -/
def ItOk (K : PySem.W.Frag) (φ₀ : List Addr) (H₀ : Hp) (it : ItD) (J : It) : Prop := ∀ i φ mh H, Px φ₀ φ → Kp H₀ H → HR K φ mh H → it.chk mh = true →
  (∀ d, it.items[i]? = some d → J.go i H ∧ ∀ x H', J.yld i H x H' → Kp H H' ∧ HR K φ mh H' ∧ RelD K φ H' d x) ∧ (it.items.length ≤ i → J.stop i H)
theorem ItOk.mono {K : PySem.W.Frag} {φ φ' : List Addr} {H H' : Hp} {it : ItD} {J : It} (p : Px φ φ') (k : Kp H H') (h : ItOk K φ H it J) : ItOk K φ' H' it J := fun i φ2 mh2 H2 p2 k2 hh hc => h i φ2 mh2 H2 (p.trans p2) (k.trans k2) hh hc
def iI (K : PySem.W.Frag) (mg : MGl) (W : WX) (f : MI) : TI := fun σ H R => ∃ φ env mh, RelE K φ H env σ ∧ HR K φ mh H ∧ post K mg W (ItOk K) σ φ H (f env mh) R
abbrev SI (X : Cx) (W : WX) (tg iter : Expr) (f : MI) : Prop := PI X tg iter (iI X.K X.mg W f)
theorem _root_.L2.PI.imp {X : Cx} {tg e : Expr} {t t' : TI} (h : PI X tg e t) (w : ∀ σ H Q, t' σ H Q → t σ H Q) : PI X tg e t' := ⟨fun pins s σ H R I q => h.run pins s σ H R I (w σ H R q)⟩
theorem ss_for {tg iter : Expr} {p : Pat} {fi : MI} (hp : PassesOwn (model X.prog X.w) X.A X.env X.xe) (hc : X.calm = true) (hi : SI X W tg iter fi) (hg : SG X tg p) (hb : SSs X W body s)
    (hs : ∀ x, foldedSetIterable iter X.env x = pure x := by intro _; rfl) : SS X W (.For tg iter body [] pos) (sfor fi p s) := (ps_for hp hc hi hg hb hs).imp (by
  rintro D σ H ⟨φ, env, mh, re, hh, pq⟩
  refine ⟨φ, env, mh, re, hh, post_mono (Px.refl φ) (Kp.refl H) (post_lift (R := ItOk X.K) re pq) ?_⟩
  rintro J H1 ⟨φ1, it, mh1, p1, k1, h1, J1, q⟩
  refine ⟨fun i m σ H => m = it.items.length - i ∧ i ≤ it.items.length ∧ ∃ φ env mh, Px φ1 φ ∧ Kp H1 H ∧ RelE X.K φ H env σ ∧ HR X.K φ mh H ∧ postS X.K X.mg W φ H (loopF it.chk p s (it.items.drop i) env mh) D,
    ⟨_, rfl, Nat.zero_le _, φ1, env, mh1, Px.refl φ1, Kp.refl H1, re.mono p1 k1, h1, q⟩, ?_⟩
  rintro i m σ H ⟨rfl, hi, φ, env, mh, p2, k2, re, hh, q⟩
  by_cases hlt : i < it.items.length
  · have ed : it.items.drop i = it.items[i] :: it.items.drop (i + 1) := List.drop_eq_getElem_cons hlt
    rw [ed] at q
    unfold loopF at q
    by_cases hck : it.chk mh = true
    · rw [if_pos hck] at q
      obtain ⟨hgo, _⟩ := J1 i φ mh H p2 k2 hh hck
      obtain ⟨g1, g2⟩ := hgo it.items[i] (by simp [hlt])
      refine .inr ⟨g1, fun σ' H' => ∃ φ env mh, Px φ1 φ ∧ Kp H1 H' ∧ RelE X.K φ H' env σ' ∧ HR X.K φ mh H' ∧ postS X.K X.mg W φ H' (loopF it.chk p s (it.items.drop (i + 1)) env mh) D,
        fun σ' H' h => ⟨it.items.length - (i + 1), by omega, rfl, hlt, h⟩, fun x H' y => ?_⟩
      obtain ⟨k3, h3, r3⟩ := g2 x H' y
      cases hse : setP p it.items[i] env with
      | none => rw [hse] at q; exact q.elim
      | some e =>
        rw [hse] at q
        refine ⟨φ, env, mh, it.items[i], e, re.mono (Px.refl φ) k3, h3, r3, hse, fun σ' he _ => ⟨φ, e, mh, he, h3, ?_⟩⟩
        cases hb : s e mh with
        | nx e2 h2 => simp only [hb] at q; exact fun φ4 s4 H4 p4 k4 hr he4 => ⟨φ4, e2, h2, p2.trans p4, (k2.trans k3).trans k4, he4, hr, postS_up p4 (k3.trans k4) q⟩
        | ct e2 h2 => simp only [hb] at q; exact fun φ4 s4 H4 p4 k4 hr he4 => ⟨φ4, e2, h2, p2.trans p4, (k2.trans k3).trans k4, he4, hr, postS_up p4 (k3.trans k4) q⟩
        | bk e2 h2 => simp only [hb] at q; exact fun φ4 s4 H4 p4 k4 hr he4 => q φ4 s4 H4 p4 (k3.trans k4) hr he4
        | rt e2 h2 => simp only [hb] at q; exact fun φ4 s4 H4 p4 k4 hr he4 => q φ4 s4 H4 p4 (k3.trans k4) hr he4
        | ex x e2 h2 => simp only [hb] at q; exact fun φ4 c d s4 H4 p4 k4 hr he4 hx => q φ4 c d s4 H4 p4 (k3.trans k4) hr he4 hx
        | no => simp only [hb] at q; exact q.elim
    · rw [if_neg hck] at q; exact q.elim
  · have e : i = it.items.length := by omega
    subst e
    rw [List.drop_length] at q
    unfold loopF at q
    by_cases hck : it.chk mh = true
    · rw [if_pos hck] at q
      exact .inl ⟨(J1 _ φ mh H p2 k2 hh hck).2 (Nat.le_refl _), q φ σ H (Px.refl φ) (Kp.refl H) hh re⟩
    · rw [if_neg hck] at q; exact q.elim)

/-! ### comprehensions -/
abbrev W0 : WX := fun _ _ _ _ => False
abbrev STs (X : Cx) (W : WX) (ifs : List Expr) (f : MT) : Prop := PTs X ifs (iT X.K X.mg W f)
theorem sts_nil : STs X W [] yes := ⟨fun pins s σ H Q I h => by
  obtain ⟨φ, env, mh, re, hh, p⟩ := h
  exact pts_nil.run pins s σ H Q I (p φ true H (Px.refl φ) (Kp.refl H) hh rfl)⟩
theorem sts_one (h : ST X W c ft) : STs X W [c] ft := pts_one h
theorem post_nox {α β γ δ : Type} {K : PySem.W.Frag} {mg : MGl} {φ : List Addr} {H : Hp} {σ σ2 : L2.St} {R1 : Rl α β} {R2 : Rl γ δ} {r : Res α} {k : α → MH → Res γ} {Q : δ → Hp → Prop} (h : post K mg W R2 σ φ H (r.nox.bind k) Q) :
    post K mg W0 R1 σ2 φ H r fun b H1 => ∃ φ1 a mh1, Px φ φ1 ∧ Kp H H1 ∧ HR K φ1 mh1 H1 ∧ R1 φ1 H1 a b ∧ post K mg W R2 σ φ1 H1 (k a mh1) Q := by
  cases r with
  | ok a mh => exact fun φ2 b H2 p2 k2 hr hR => ⟨φ2, a, mh, p2, k2, hr, hR, post_mono p2 k2 h fun _ _ q => q⟩
  | ex x mh => exact (show False from h).elim
  | no => exact h
theorem imp_lc {fi : MI} {p : Pat} {elt : ME} {vs : List Nat} (hv : ∀ j ∈ p.ix, j ∈ vs) : ∀ σ H Q, iE X.K X.mg W (lc fi p ft elt vs) σ H Q →
    tLc (iI X.K X.mg W fi) (iG X.K p) (iT X.K X.mg W0 ft) (iE X.K X.mg W0 elt) vs σ H Q := by
  rintro σ H Q ⟨φ, env, mh, re, hh, pq⟩
  refine ⟨φ, env, mh, re, hh, post_mono (Px.refl φ) (Kp.refl H) (post_bind (R1 := ItOk X.K) pq) ?_⟩
  rintro J H1 ⟨φ1, it, mh1, p1, k1, h1, J1, q⟩ Dl hD
  have hnew := h1.new (ds := []) (vs := []) hD .nil
  refine ⟨fun i m H => m = it.items.length - i ∧ i ≤ it.items.length ∧ ∃ φ mh, Px (φ1 ++ [Dl]) φ ∧ Kp H1 H ∧ HR X.K φ mh H ∧ post X.K X.mg W (RelD X.K) σ φ H (loopC mh1.length it.chk p ft elt (wipeD env vs) (it.items.drop i) mh) Q,
    ⟨_, rfl, Nat.zero_le _, φ1 ++ [Dl], _, Px.refl _, Kp.new hD, hnew, post_mono px1 (Kp.new hD) q fun _ _ q => q⟩, ?_⟩
  rintro i m H ⟨rfl, hi, φ, mh, p2, k2, hh, q⟩
  have hat : φ[mh1.length]? = some Dl := p2.get h1.last
  by_cases hlt : i < it.items.length
  · have ed : it.items.drop i = it.items[i] :: it.items.drop (i + 1) := List.drop_eq_getElem_cons hlt
    rw [ed] at q
    unfold loopC at q
    by_cases hck : it.chk mh = true
    · rw [if_pos hck] at q
      obtain ⟨hgo, _⟩ := J1 i φ mh H (px1.trans p2) k2 hh hck
      obtain ⟨g1, g2⟩ := hgo it.items[i] (by simp [hlt])
      refine .inr ⟨g1, fun H' => ∃ φ mh, Px (φ1 ++ [Dl]) φ ∧ Kp H1 H' ∧ HR X.K φ mh H' ∧ post X.K X.mg W (RelD X.K) σ φ H' (loopC mh1.length it.chk p ft elt (wipeD env vs) (it.items.drop (i + 1)) mh) Q,
        fun H' h => ⟨it.items.length - (i + 1), by omega, rfl, hlt, h⟩, fun x H' y => ?_⟩
      obtain ⟨k3, h3, r3⟩ := g2 x H' y
      have re2 : RelE X.K φ H' (wipeD env vs) (wipe σ vs) := ((re.mono (p1.trans (px1.trans p2)) ((k1.trans k2).trans k3))).wipe vs
      cases hse : setP p it.items[i] (wipeD env vs) with
      | none => rw [hse] at q; exact q.elim
      | some e =>
        rw [hse] at q
        refine ⟨φ, wipeD env vs, mh, it.items[i], e, re2, h3, r3, hse, fun σ' he hw => ⟨?_, φ, e, mh, he, h3, ?_⟩⟩
        · rw [hw vs hv]
          have : ∀ us : List Nat, (∀ u ∈ us, u ∈ vs) → wipe (wipe σ vs) us = wipe σ vs := by
            intro us
            induction us with
            | nil => intro _; rfl
            | cons u us ih =>
              intro hu
              show (wipe (wipe σ vs) us).set u none = wipe σ vs
              rw [ih fun z hz => hu z (List.mem_cons_of_mem _ hz)]
              apply List.ext_getElem?
              intro j
              by_cases hj : j = u
              · subst hj
                by_cases hl : j < (wipe σ vs).length
                · rw [List.getElem?_set_self hl]
                  cases hx : (wipe σ vs)[j]? with
                  | none => rw [List.getElem?_eq_none_iff] at hx; omega
                  | some o =>
                    cases o with
                    | none => rfl
                    | some z => exact absurd (hu j List.mem_cons_self) (wipe_some hx).2
                · rw [List.getElem?_eq_none (by simpa using hl), List.getElem?_eq_none (by simpa using hl)]
              · rw [List.getElem?_set_ne (Ne.symm hj)]
          exact this vs fun _ h => h
        · refine post_mono (Px.refl φ) (Kp.refl H') (post_nox (R1 := RB) (post_mono (Px.refl φ) k3 q fun _ _ q => q)) ?_
          rintro b H4 ⟨φ4, b', mh4, p4, k4, h4, rb, q4⟩
          have e1 : b' = b := rb
          subst e1
          cases b' with
          | false => exact ⟨φ4, mh4, p2.trans p4, (k2.trans k3).trans k4, h4, q4⟩
          | true =>
            refine ⟨φ4, e, mh4, he.mono p4 k4, h4, post_mono (Px.refl φ4) (Kp.refl H4) (post_nox (R1 := RelD X.K) q4) ?_⟩
            rintro y H5 ⟨φ5, d5, mh5, p5, k5, h5, r5, q5⟩
            have hat5 : φ5[mh1.length]? = some Dl := p5.get (p4.get hat)
            cases hl : mh5[mh1.length]? with
            | none => simp only [hl] at q5; exact q5.elim
            | some ob =>
              cases ob with
              | lst acc =>
                simp only [hl] at q5
                by_cases hz : acc.length < sizeLine
                · rw [if_pos hz] at q5
                  obtain ⟨vs5, hv5, rv5⟩ := h5.lst hat5 hl
                  refine ⟨vs5, hv5, by rw [← rv5.length]; exact hz, φ5, _, (p2.trans p4).trans p5, (((k2.trans k3).trans k4).trans k5).trans (Kp.mut hv5 fun z => z), h5.setL hat5 hv5 (rv5.append (.cons r5 .nil)), post_mono (Px.refl φ5) (Kp.mut hv5 fun z => z) q5 fun _ _ q => q⟩
                · rw [if_neg hz] at q5; exact q5.elim
              | dk _ => simp only [hl] at q5; exact q5.elim
              | dt _ => simp only [hl] at q5; exact q5.elim
              | lk _ => simp only [hl] at q5; exact q5.elim
    · rw [if_neg hck] at q; exact q.elim
  · have e : i = it.items.length := by omega
    subst e
    rw [List.drop_length] at q
    unfold loopC at q
    by_cases hck : it.chk mh = true
    · rw [if_pos hck] at q
      exact .inl ⟨(J1 _ φ mh H (px1.trans p2) k2 hh hck).2 (Nat.le_refl _), q φ _ H (Px.refl φ) (Kp.refl H) hh (.ref hat)⟩
    · rw [if_neg hck] at q; exact q.elim
theorem se_lc {elt tg iter : Expr} {ifs : List Expr} {scope : Scope} {own : List (Str × Nat)} {fi : MI} {p : Pat} {fe : ME} (hc : X.calm = true) (hN : X.N.Nodup) (hi : SI X W tg iter fi) (ok : BlkOk X.N X.env.scope scope own)
    (hv : ∀ j ∈ p.ix, j ∈ own.map (·.2)) (hg : ∀ (s : Shared) (H : Hp) (C : Addr) (cl : List (Str × Addr)) (fp : List Addr), SG (X.blk s H scope (compEnvC scope cl C X.env) fp) tg p)
    (ht : ∀ (s : Shared) (H : Hp) (C : Addr) (cl : List (Str × Addr)) (fp : List Addr), STs (X.blk s H scope (compEnvC scope cl C X.env) fp) W0 ifs ft)
    (he : ∀ (s : Shared) (H : Hp) (C : Addr) (cl : List (Str × Addr)) (fp : List Addr), SE (X.blk s H scope (compEnvC scope cl C X.env) fp) W0 elt fe) (hs : ∀ x, foldedSetIterable iter X.env x = pure x := by intro _; rfl) :
    SE X W (.ListComp elt [⟨tg, iter, ifs, 0⟩] scope pos) (lc fi p ft fe (own.map (·.2))) := (pe_lc hc hN hi ok hg ht he hs).imp (imp_lc hv)
theorem ss_setLc {i : Nat} {y : Str} {py : Pos} {elt tg iter : Expr} {ifs : List Expr} {scope : Scope} {own : List (Str × Nat)} {spos : Pos} {fi : MI} {p : Pat} {fe : ME} (hc : X.calm = true) (hN : X.N.Nodup) (hi : SI X W tg iter fi) (ok : BlkOk X.N X.env.scope scope own)
    (hv : ∀ j ∈ p.ix, j ∈ own.map (·.2)) (hg : ∀ (s : Shared) (H : Hp) (C : Addr) (cl : List (Str × Addr)) (fp : List Addr), SG (X.blk s H scope (compEnvC scope cl C X.env) fp) tg p)
    (ht : ∀ (s : Shared) (H : Hp) (C : Addr) (cl : List (Str × Addr)) (fp : List Addr), STs (X.blk s H scope (compEnvC scope cl C X.env) fp) W0 ifs ft)
    (he : ∀ (s : Shared) (H : Hp) (C : Addr) (cl : List (Str × Addr)) (fp : List Addr), SE (X.blk s H scope (compEnvC scope cl C X.env) fp) W0 elt fe)
    (hy : X.N[i]? = some y := by rfl) (hyl : X.env.scope.names.lookup y = some .local := by rfl)
    (hsw : swapsWith (.ListComp elt [⟨tg, iter, ifs, 0⟩] scope pos) (some (.Name y py)) spos.line X.env = pure true) (hs : ∀ x, foldedSetIterable iter X.env x = pure x := by intro _; rfl) :
    SS X W (.Assign [.Name y py] (.ListComp elt [⟨tg, iter, ifs, 0⟩] scope pos) spos) (sst i (lc fi p ft fe (own.map (·.2)))) := (ps_setLc hc hN hy hyl hsw hi ok hg ht he hs).imp (by
  rintro D σ H ⟨φ, env, mh, re, hh, pq⟩
  refine imp_lc hv σ H _ ⟨φ, env, mh, re, hh, post_mono (Px.refl φ) (Kp.refl H) (post_lift (R := RelD X.K) re pq) ?_⟩
  rintro x H1 ⟨φ1, d, mh1, p1, k1, h1, r1, q⟩
  exact q φ1 _ H1 (Px.refl φ1) (Kp.refl H1) h1 ((re.mono p1 k1).set r1 i))

/-! ### defs and calls -/
def spF (K : PySem.W.Frag) (mg : MGl) (n : Nat) (F : Fn) : Sp := fun vs H Q E => ∃ φ mh ds, RelDs K φ H ds vs ∧ HR K φ mh H ∧ ds.length = n ∧ post K mg (fun c d _ H' => E c d H') (RelD K) [] φ H (F ds mh) Q
abbrev DOk (P : Program) (w : World) (K : PySem.W.Frag) (mg : MGl) (base : Heap) (k : Nat) (f : Addr) (fd : FuncData) (ps : List Str) (F : Fn) : Prop := FnOk P w K mg base (L2.CX P w) k f fd ps (spF K mg ps.length F)
theorem imp_cal {F : Fn} {n : Nat} {fa : MA} : ∀ σ H Q, iE X.K X.mg W (cal n F fa) σ H Q → iA X.K X.mg W fa σ H fun vs H1 => spF X.K X.mg n F vs H1 Q (WE W σ) := by
  rintro σ H Q ⟨φ, env, mh, re, hh, pq⟩
  refine ⟨φ, env, mh, re, hh, post_mono (Px.refl φ) (Kp.refl H) (post_bind (R1 := RelDs X.K) pq) ?_⟩
  rintro vs H1 ⟨φ1, ds, mh1, p1, k1, h1, r1, q⟩
  by_cases hl : ds.length = n
  · rw [if_pos hl] at q
    refine ⟨φ1, mh1, ds, r1, h1, hl, ?_⟩
    cases hF : F ds mh1 with
    | ok d mh2 => rw [hF] at q; exact q
    | ex x mh2 => rw [hF] at q; exact q
    | no => rw [hF] at q; exact q
  · rw [if_neg hl] at q; exact q.elim
theorem se_call {F : Fn} {k : Nat} {g : Addr} {fd : FuncData} {ps : List Str} {x : Str} {p : Pos} {es : List Expr} {fa : MA} (tk : Takes X W) (G : DOk X.prog X.w X.K X.mg X.base k g fd ps F) (hr : Room k X.A) (hm : X.mg x = some (.ref g)) (hk : PySem.W.keepIn X.K (.ref g) = true) (hb : Binds X.K fd ps [])
    (ha : SA X W (e :: es) fa) (hg : Gl X x := by rfl) (hdb : (x == ("__debug__" : Str)) = false := by decide) (he : starEach (e :: es) X.env = (false, eval e X.env) :: starEach es X.env := by rfl) (hpl : (backTo pos (starEach es X.env)).any (·.1) = false := by rfl) :
    SE X W (.Call (.Name x p) (e :: es) [] pos) (cal ps.length F fa) := (pe_callS G hr hg hm hk hb (fun σ => passAt tk σ) ha hdb he hpl).imp imp_cal
/-- f(), nothing raised -/
theorem se_call0 {F : Fn} {k : Nat} {g : Addr} {fd : FuncData} {x : Str} {p : Pos} (tk : Takes X W) (G : DOk X.prog X.w X.K X.mg X.base k g fd [] F) (hr : Room k X.A) (hm : X.mg x = some (.ref g)) (hk : PySem.W.keepIn X.K (.ref g) = true) (hb : Binds X.K fd [] [])
    (hg : Gl X x := by rfl) (hdb : (x == ("__debug__" : Str)) = false := by decide) :
    SE X W (.Call (.Name x p) [] [] pos) (cal 0 F anil) := by
  refine ⟨fun pins s σ H Q I h => ?_⟩
  obtain ⟨φ, env, mh, re, hh, pq⟩ := imp_cal σ H Q h
  refine wpAny_Call_Name_kw (ld_glob I hg hm ?_ hdb)
  exact PySem.W.callWith_K0 I.kIn hk (run_fnS (us := []) G hr hb (passAt tk σ) I .nil (pq φ [] H (Px.refl φ) (Kp.refl H) hh .nil))
/-- THE RULE of a def -/
theorem okF {P : Program} {w : World} {K : PySem.W.Frag} {mg : MGl} {base : Heap} {x qual : Str} {stt : Stmt} {fad : Addr} {fd : FuncData} {N ps : List Str} {k : Nat} {bd : MS} (F : Fun K x qual stt fad fd) (S : FnScope N ps (defScope stt)) (hle : ps.length ≤ N.length)
    (hb : ∀ (cdv : Value) (A : Around) (outer : List Env) (s : Shared) (H : Hp) (E : XK), Room k (A.deeper (envOfC qual (defScope stt) s.heap.objs.size fad cdv)) →
      SSs (cxOf (L2.CX P w) P w K mg base N qual (defScope stt) fad cdv A outer s H E) (fun c d _ H' => E c d H') (defBody stt) bd) : DOk P w K mg base (k + 1) fad fd ps (runF N.length bd) := by
  refine F.okX S (fun vs H Q E h => ?_) (fun cdv A outer s H vs Q E hr h => ⟨_, hb cdv A outer s H E hr, ?_⟩)
  · obtain ⟨φ, mh, ds, r, _, hl, _⟩ := h
    rw [← r.length]; exact hl
  · obtain ⟨φ, mh, ds, r, hh, hl, q⟩ := h
    have hlv : vs.length = ps.length := by rw [← r.length]; exact hl
    refine ⟨φ, ds.map some ++ List.replicate (N.length - ds.length) none, mh, ⟨?_, fun i d e => ?_⟩, hh, ?_⟩
    · unfold L2.start; simp [r.length]
    · have hi : i < ds.length := by
        by_cases h : i < ds.length
        · exact h
        · rw [List.getElem?_append_right (by simpa using h)] at e
          rw [List.getElem?_replicate] at e
          split at e <;> cases e
      rw [List.getElem?_append_left (by simpa using hi), List.getElem?_map] at e
      cases hd : ds[i]? with
      | none => rw [hd] at e; cases e
      | some d' =>
        rw [hd] at e
        cases e
        obtain ⟨v, h1, h2⟩ := r.get hd
        refine ⟨v, ?_, h2⟩
        have hiv : i < vs.length := by rw [← r.length]; exact hi
        show (vs.map some ++ List.replicate (N.length - vs.length) none)[i]? = some (some v)
        rw [List.getElem?_append_left (by simpa using hiv), List.getElem?_map, h1]
        rfl
    · unfold runF at q
      cases hbd : bd (ds.map some ++ List.replicate (N.length - ds.length) none) mh with
      | nx e h => rw [hbd] at q; exact fun φ2 s2 H2 p2 k2 hr _ => q φ2 .non H2 p2 k2 hr .non
      | rt e h => rw [hbd] at q; exact q
      | ex x e h => rw [hbd] at q; exact fun φ2 c d s2 H2 p2 k2 hr _ hx => q φ2 c d H2 p2 k2 hr hx
      | bk e h => rw [hbd] at q; exact q.elim
      | ct e h => rw [hbd] at q; exact q.elim
      | no => rw [hbd] at q; exact q.elim
end
end Det
/-! Det, part D: operations on values. -/
namespace Det
open PySem PySem.Spec PyProof.Rows L2

/-! ### operators -/
def oAdd : Op2 := fun a b mh => match a, b with
  | .int i, .int j => some (.int (i + j), mh)
  | .str x, .str y => if x.length + y.length ≤ sizeLine then some (.str (x ++ y), mh) else none
  | .tup xs, .tup ys => if xs.length + ys.length ≤ sizeLine then some (.tup (xs ++ ys), mh) else none
  | .ref m, .ref n => match mh[m]?, mh[n]? with
    | some (.lst xs), some (.lst ys) => if xs.length + ys.length ≤ sizeLine then some (.ref mh.length, mh ++ [.lst (xs ++ ys)]) else none
    | _, _ => none
  | _, _ => none
def oSub : Op2 := fun a b mh => match a, b with
  | .int i, .int j => some (.int (i - j), mh)
  | _, _ => none
def oMul : Op2 := fun a b mh => match a, b with
  | .int i, .int j => if (-(2 ^ 64) < i ∧ i < 2 ^ 64) ∨ (-(2 ^ 64) < j ∧ j < 2 ^ 64) then some (.int (i * j), mh) else none
  | .tup xs, .int k => if xs ≠ [] ∧ 2 ≤ k ∧ k ≤ 1000 ∧ xs.length ≤ 1000 then some (.tup (List.replicate k.toNat xs).flatten, mh) else none
  | .ref m, .int k => match mh[m]? with
    | some (.lst xs) => if -(2 ^ 63) ≤ k ∧ k < 2 ^ 63 ∧ xs.length * k.toNat ≤ sizeLine then some (.ref mh.length, mh ++ [.lst (List.replicate k.toNat xs).flatten]) else none
    | _ => none
  | _, _ => none
def oFdiv : Op2 := fun a b mh => match a, b with
  | .int i, .int j => if j ≠ 0 ∧ j.natAbs < 1073741824 then some (.int (i.fdiv j), mh) else none
  | _, _ => none
def oMod : Op2 := fun a b mh => match a, b with
  | .int i, .int j => if j ≠ 0 then some (.int (i.fmod j), mh) else none
  | _, _ => none
def oPow : Op2 := fun a b mh => match a, b with
  | .int i, .int j => if 0 ≤ j ∧ j ≤ 1000000 ∧ i.natAbs < 2 ^ 64 then some (.int (i ^ j.toNat), mh) else none
  | _, _ => none
def oShl : Op2 := fun a b mh => match a, b with
  | .int i, .int j => if 0 ≤ j ∧ j ≤ 1000000 ∧ i.natAbs < 2 ^ 64 then some (.int (i * 2 ^ j.toNat), mh) else none
  | _, _ => none
def oNeg : Op1 := fun a mh => match a with
  | .int i => some (.int (-i), mh)
  | _ => none
section
variable {X : Cx}
theorem postO_val {K : PySem.W.Frag} {φ : List Addr} {H : Hp} {d : D} {v : V} {mh : MH} {Q : V → Hp → Prop} (hh : HR K φ mh H) (p : postO K (RelD K) φ H (some (d, mh)) Q) (r : RelD K φ H d v) : Q v H := p φ v H (Px.refl φ) (Kp.refl H) hh r
theorem postO_new {K : PySem.W.Frag} {φ : List Addr} {H : Hp} {ds : List D} {vs : List V} {mh : MH} {Q : V → Hp → Prop} (hh : HR K φ mh H) (p : postO K (RelD K) φ H (some (.ref mh.length, mh ++ [.lst ds])) Q) (r : RelDs K φ H ds vs) {a : Addr} (ha : H a = none) : Q (.ref a) (upd H a (.lst vs)) :=
  p (φ ++ [a]) (.ref a) _ px1 (Kp.new ha) (hh.new ha r) (.ref hh.last)
theorem postO_tup {K : PySem.W.Frag} {φ : List Addr} {H : Hp} {ds : List D} {vs : List V} {mh : MH} {Q : V → Hp → Prop} (hh : HR K φ mh H) (p : postO K (RelD K) φ H (some (.tup ds, mh)) Q) (r : RelDs K φ H ds vs) {a : Addr} (ha : H a = none) : Q (.ref a) (upd H a (.tup vs)) :=
  p φ (.ref a) _ (Px.refl φ) (Kp.new ha) (hh.grow ha) (.tup (SqT.of upd_same) (r.mono (Px.refl φ) (Kp.new ha)))
theorem RelDs.nil_iff {K : PySem.W.Frag} {φ : List Addr} {H : Hp} {ds : List D} {vs : List V} (r : RelDs K φ H ds vs) : ds = [] ↔ vs = [] := by
  cases r <;> simp
theorem r_add : OpR X (binaryOp .Add) (iR2 X.K oAdd) := by
  rintro pins s σ H x y v u Q I rx ry ⟨φ, mh, a, b, ra, rb, hh, p⟩
  cases ra with
  | int i =>
    cases rb with
    | int j => exact op_add pins s σ H _ _ v u Q I rx ry ⟨i, j, rfl, rfl, postO_val hh p (.int _)⟩
    | _ => exact p.elim
  | str i =>
    cases rb with
    | str j =>
      simp only [oAdd] at p
      split at p
      · rename_i hl; exact op_add_str pins s σ H _ _ v u Q I rx ry ⟨i, j, rfl, rfl, hl, postO_val hh p (.str _)⟩
      · exact p.elim
    | _ => exact p.elim
  | tup h1 r1 =>
    rename_i a1 xs vs
    cases rb with
    | tup h2 r2 =>
      rename_i a2 ys ws
      simp only [oAdd] at p
      split at p
      · rename_i hl
        refine op_catA pins s σ H _ _ v u Q I rx ry ⟨a1, a2, vs, ws, rfl, rfl, h1, h2, by rw [← r1.length, ← r2.length]; exact hl, fun e => ?_, fun _ e => ?_, fun _ _ q hq => postO_tup hh p (r1.append r2) hq⟩
        · have e' := r1.nil_iff.mpr e
          subst e'
          exact postO_val hh p (.tup h2 r2)
        · have e' := r2.nil_iff.mpr e
          subst e'
          rw [List.append_nil] at p
          exact postO_val hh p (.tup h1 r1)
      · exact p.elim
    | _ => exact p.elim
  | ref h1 =>
    rename_i n a1
    cases rb with
    | ref h2 =>
      rename_i m a2
      simp only [oAdd] at p
      split at p
      · rename_i xs ys e1 e2
        split at p
        · rename_i hl
          obtain ⟨vs, q1, r1⟩ := hh.lst h1 e1
          obtain ⟨ws, q2, r2⟩ := hh.lst h2 e2
          exact op_cat pins s σ H _ _ v u Q I rx ry ⟨a1, a2, vs, ws, rfl, rfl, q1, q2, by rw [← r1.length, ← r2.length]; exact hl, fun q hq => postO_new hh p (r1.append r2) hq⟩
        · exact p.elim
      · exact p.elim
    | _ => exact p.elim
  | _ => cases rb <;> exact p.elim
theorem r_sub : OpR X (binaryOp .Sub) (iR2 X.K oSub) := by
  rintro pins s σ H x y v u Q I rx ry ⟨φ, mh, a, b, ra, rb, hh, p⟩
  cases ra with
  | int i =>
    cases rb with
    | int j => exact op_sub pins s σ H _ _ v u Q I rx ry ⟨i, j, rfl, rfl, postO_val hh p (.int _)⟩
    | _ => exact p.elim
  | _ => cases rb <;> exact p.elim
theorem RelDs.rep {K : PySem.W.Frag} {φ : List Addr} {H : Hp} {ds : List D} {vs : List V} (r : RelDs K φ H ds vs) : ∀ k : Nat, RelDs K φ H (List.replicate k ds).flatten (List.replicate k vs).flatten
  | 0 => .nil
  | k + 1 => by rw [List.replicate_succ, List.replicate_succ, List.flatten_cons, List.flatten_cons]; exact r.append (RelDs.rep r k)
theorem r_mul : OpR X (binaryOp .Mult) (iR2 X.K oMul) := by
  rintro pins s σ H x y v u Q I rx ry ⟨φ, mh, a, b, ra, rb, hh, p⟩
  cases ra with
  | int i =>
    cases rb with
    | int j =>
      simp only [oMul] at p
      split at p
      · rename_i hl; exact op_mul pins s σ H _ _ v u Q I rx ry ⟨i, j, rfl, rfl, hl, postO_val hh p (.int _)⟩
      · exact p.elim
    | _ => exact p.elim
  | tup h1 r1 =>
    rename_i a1 xs vs
    cases rb with
    | int k =>
      simp only [oMul] at p
      split at p
      · rename_i hl
        obtain ⟨n1, n2, n3, n4⟩ := hl
        exact op_repT pins s σ H _ _ v u Q I rx ry ⟨a1, k, vs, rfl, rfl, h1, fun e => n1 (r1.nil_iff.mpr e), n2, n3, by rw [← r1.length]; exact n4, fun q hq => postO_tup hh p (r1.rep _) hq⟩
      · exact p.elim
    | _ => exact p.elim
  | ref h1 =>
    rename_i n a1
    cases rb with
    | int k =>
      simp only [oMul] at p
      split at p
      · rename_i xs e1
        split at p
        · rename_i hl
          obtain ⟨n1, n2, n3⟩ := hl
          obtain ⟨vs, q1, r1⟩ := hh.lst h1 e1
          exact op_rep pins s σ H _ _ v u Q I rx ry ⟨a1, k, vs, rfl, rfl, q1, n1, n2, by rw [← r1.length]; exact n3, fun q hq => postO_new hh p (r1.rep _) hq⟩
        · exact p.elim
      · exact p.elim
    | _ => exact p.elim
  | _ => cases rb <;> exact p.elim
theorem r_int {op : Operator} {C : Int → Int → Prop} [∀ i j, Decidable (C i j)] {g : Int → Int → Int} {o : Op2} (rule : OpR X (binaryOp op) (rI C fun i j => .int (g i j)))
    (ho : ∀ a b mh, o a b mh = match a, b with | .int i, .int j => if C i j then some (.int (g i j), mh) else none | _, _ => none) : OpR X (binaryOp op) (iR2 X.K o) := by
  rintro pins s σ H x y v u Q I rx ry ⟨φ, mh, a, b, ra, rb, hh, p⟩
  rw [ho] at p
  cases ra with
  | int i =>
    cases rb with
    | int j =>
      simp only at p
      split at p
      · rename_i hl; exact rule pins s σ H _ _ v u Q I rx ry ⟨i, j, rfl, rfl, hl, postO_val hh p (.int _)⟩
      · exact p.elim
    | _ => exact p.elim
  | _ => cases rb <;> exact p.elim
instance : ∀ i j, Decidable (CDivN i j) := fun i j => by unfold CDivN; infer_instance
instance : ∀ i j, Decidable (CPow i j) := fun i j => by unfold CPow; infer_instance
theorem r_fdiv : OpR X (binaryOp .FloorDiv) (iR2 X.K oFdiv) := r_int op_fdivN fun a b mh => by cases a <;> cases b <;> rfl
theorem r_mod : OpR X (binaryOp .Mod) (iR2 X.K oMod) := r_int op_modN fun a b mh => by cases a <;> cases b <;> rfl
theorem r_pow : OpR X (binaryOp .Pow) (iR2 X.K oPow) := r_int op_pow fun a b mh => by cases a <;> cases b <;> rfl
theorem r_shl : OpR X (binaryOp .LShift) (iR2 X.K oShl) := r_int op_shl fun a b mh => by cases a <;> cases b <;> rfl
theorem r_neg : UnR X (unaryOp .USub) (iR1 X.K oNeg) := by
  rintro pins s σ H x v Q I rx ⟨φ, mh, a, ra, hh, p⟩
  cases ra with
  | int i => exact un_neg pins s σ H _ v Q I rx ⟨i, rfl, postO_val hh p (.int _)⟩
  | _ => exact p.elim

/-! ### comparisons -/
/-- data of a value, lists read -/
def datD (mh : MH) : Nat → D → Option PyData
  | _, .non => some .none
  | _, .bl b => some (.bool b)
  | _, .int i => some (.int i)
  | _, .str x => some (.str x)
  | n + 1, .tup xs => (xs.mapM (datD mh n)).map .tuple
  | n + 1, .rol xs => (xs.mapM (datD mh n)).map .list
  | n + 1, .ref m => match mh[m]? with
    | some (.lst xs) => (xs.mapM (datD mh n)).map .list
    | _ => none
  | _, _ => none
theorem mapM_dat {K : PySem.W.Frag} {φ : List Addr} {H : Hp} {f : D → Option PyData} (hf : ∀ d v p, RelD K φ H d v → f d = some p → Dp K H v p) : ∀ {ds : List D} {vs : List V} {ps : List PyData}, RelDs K φ H ds vs → ds.mapM f = some ps → DpAll K H vs ps
  | _, _, ps, .nil, e => by
    simp at e
    subst e
    exact .nil
  | _, _, ps, .cons (d := d) (ds := ds) h t, e => by
    rw [List.mapM_cons] at e
    cases h1 : f d with
    | none => rw [h1] at e; cases e
    | some p =>
      rw [h1] at e
      cases h2 : ds.mapM f with
      | none => simp [h2] at e
      | some qs =>
        simp [h2] at e
        subst e
        exact .cons (hf _ _ _ h h1) (mapM_dat hf t h2)
theorem datD_ok {K : PySem.W.Frag} {φ : List Addr} {H : Hp} {mh : MH} (hh : HR K φ mh H) : ∀ (n : Nat) (d : D) (v : V) (p : PyData), RelD K φ H d v → datD mh n d = some p → Dp K H v p := by
  intro n
  induction n with
  | zero =>
    intro d v p r e
    cases r with
    | non => cases e; exact .non
    | bl b => cases e; exact .bl b
    | int i => cases e; exact .int i
    | str x => cases e; exact .str x
    | _ => cases e
  | succ n ih =>
    intro d v p r e
    cases r with
    | non => cases e; exact .non
    | bl b => cases e; exact .bl b
    | int i => cases e; exact .int i
    | str x => cases e; exact .str x
    | tup hs t =>
      simp only [datD] at e
      cases h2 : List.mapM (datD mh n) ‹List D› with
      | none => rw [h2] at e; cases e
      | some qs =>
        rw [h2] at e
        cases e
        exact .tup hs (mapM_dat ih t h2)
    | rol hs t =>
      simp only [datD] at e
      cases h2 : List.mapM (datD mh n) ‹List D› with
      | none => rw [h2] at e; cases e
      | some qs =>
        rw [h2] at e
        cases e
        exact .lst hs.seq (mapM_dat ih t h2)
    | ref hn =>
      simp only [datD] at e
      split at e
      · rename_i xs hx
        cases h2 : List.mapM (datD mh n) xs with
        | none => rw [h2] at e; cases e
        | some qs =>
          rw [h2] at e
          cases e
          obtain ⟨vs, q1, r1⟩ := hh.lst hn hx
          exact .lst (SqL.of q1) (mapM_dat ih r1 h2)
      · cases e
    | _ => cases e
/-- == of data -/
def eqD (mh : MH) (a b : D) : Option Bool := match a, b with
  | .int i, .int j => some (i == j)
  | .str x, .str y => some (x == y)
  | a, b => match datD mh 60 a, datD mh 60 b with
    | some d, some e => if SeqAt.shaped d = true ∧ SeqAt.shaped e = true then some (PyData.eqv d e) else none
    | _, _ => none
def oEq : Op2 := fun a b mh => match eqD mh a b with
  | some k => some (.bl k, mh)
  | none => none
def oNe : Op2 := fun a b mh => match eqD mh a b with
  | some k => some (.bl (!k), mh)
  | none => none
theorem eqD_ok {φ : List Addr} {H : Hp} {mh : MH} {a b : D} {x y : V} {k : Bool} (hh : HR X.K φ mh H) (ra : RelD X.K φ H a x) (rb : RelD X.K φ H b y) (h : eqD mh a b = some k) :
    (scal x y = true ∧ decide (x = y) = k) ∨ ∃ d e, Dp X.K H x d ∧ Dp X.K H y e ∧ SeqAt.shaped d = true ∧ SeqAt.shaped e = true ∧ PyData.eqv d e = k := by
  unfold eqD at h
  split at h
  · cases ra; cases rb
    simp only [Option.some.injEq] at h
    exact .inl ⟨rfl, by rw [dec_int]; exact h⟩
  · cases ra; cases rb
    simp only [Option.some.injEq] at h
    exact .inl ⟨rfl, by rw [dec_str]; exact h⟩
  · split at h
    · rename_i d e h1 h2
      split at h
      · rename_i hs
        simp only [Option.some.injEq] at h
        exact .inr ⟨d, e, datD_ok hh _ _ _ _ ra h1, datD_ok hh _ _ _ _ rb h2, hs.1, hs.2, h⟩
      · cases h
    · cases h
theorem r_eq (hu : X.A.units + 64 < cLine) : OpR X (compareOp .Eq) (iR2 X.K oEq) := by
  rintro pins s σ H x y v u Q I rx ry ⟨φ, mh, a, b, ra, rb, hh, p⟩
  unfold oEq at p
  cases h : eqD mh a b with
  | none => rw [h] at p; exact p.elim
  | some k =>
    rw [h] at p
    have q := postO_val hh p (.bl k)
    rcases eqD_ok hh ra rb h with ⟨h1, h2⟩ | ⟨d, e, h1, h2, h3, h4, h5⟩
    · exact op_eq pins s σ H x y v u Q I rx ry ⟨h1, by rw [h2]; exact q⟩
    · exact op_eqD hu pins s σ H x y v u Q I rx ry ⟨d, e, h1, h2, h3, h4, by rw [h5]; exact q⟩
theorem r_ne (hu : X.A.units + 64 < cLine) : OpR X (compareOp .NotEq) (iR2 X.K oNe) := by
  rintro pins s σ H x y v u Q I rx ry ⟨φ, mh, a, b, ra, rb, hh, p⟩
  unfold oNe at p
  cases h : eqD mh a b with
  | none => rw [h] at p; exact p.elim
  | some k =>
    rw [h] at p
    have q := postO_val hh p (.bl (!k))
    rcases eqD_ok hh ra rb h with ⟨h1, h2⟩ | ⟨d, e, h1, h2, h3, h4, h5⟩
    · exact op_ne pins s σ H x y v u Q I rx ry ⟨h1, by rw [h2]; exact q⟩
    · exact op_neD hu pins s σ H x y v u Q I rx ry ⟨d, e, h1, h2, h3, h4, by rw [h5]; exact q⟩
/-- order of ints and texts -/
def ltS (x y : Str) : Bool := decide (x.cps.toList < y.cps.toList)
def oCmp (fi : Int → Int → Bool) (fs : Str → Str → Bool) : Op2 := fun a b mh => match a, b with
  | .int i, .int j => some (.bl (fi i j), mh)
  | .str x, .str y => some (.bl (fs x y), mh)
  | _, _ => none
abbrev oLt : Op2 := oCmp (fun i j => decide (i < j)) ltS
abbrev oLe : Op2 := oCmp (fun i j => decide (i ≤ j)) fun x y => !ltS y x
abbrev oGt : Op2 := oCmp (fun i j => decide (j < i)) fun x y => ltS y x
abbrev oGe : Op2 := oCmp (fun i j => decide (j ≤ i)) fun x y => !ltS x y
theorem r_cmp {op : CmpOp} {fi : Int → Int → Bool} {fs : Str → Str → Bool} (h1 : OpR X (compareOp op) (rI0 fun i j => .bl (fi i j))) (h2 : OpR X (compareOp op) (fun x y H Q => ∃ i j, x = .str i ∧ y = .str j ∧ Q (.bl (fs i j)) H)) :
    OpR X (compareOp op) (iR2 X.K (oCmp fi fs)) := by
  rintro pins s σ H x y v u Q I rx ry ⟨φ, mh, a, b, ra, rb, hh, p⟩
  cases ra with
  | int i =>
    cases rb with
    | int j => exact h1 pins s σ H _ _ v u Q I rx ry ⟨i, j, rfl, rfl, postO_val hh p (.bl _)⟩
    | _ => exact p.elim
  | str i =>
    cases rb with
    | str j => exact h2 pins s σ H _ _ v u Q I rx ry ⟨i, j, rfl, rfl, postO_val hh p (.bl _)⟩
    | _ => exact p.elim
  | _ => cases rb <;> exact p.elim
theorem r_lt : OpR X (compareOp .Lt) (iR2 X.K oLt) := r_cmp op_lt op_lt_str
theorem r_le : OpR X (compareOp .LtE) (iR2 X.K oLe) := r_cmp op_le op_le_str
theorem r_gt : OpR X (compareOp .Gt) (iR2 X.K oGt) := r_cmp op_gt op_gt_str
theorem r_ge : OpR X (compareOp .GtE) (iR2 X.K oGe) := r_cmp op_ge op_ge_str
/-- x in xs: flat things; one sign in a text; a key of a dict -/
def flatD : D → Bool
  | .non => true
  | .bl _ => true
  | .int _ => true
  | .str _ => true
  | _ => false
def eqvD : D → D → Bool
  | .non, .non => true
  | .bl a, .bl b => a == b
  | .int i, .int j => i == j
  | .str x, .str y => x == y
  | .bl a, .int j => b2i a == j
  | .int i, .bl b => i == b2i b
  | _, _ => false
end
end Det
/-! Det, part E: membership, identity, built-ins, items, slices, displays, what is walked. -/
namespace Det
open PySem PySem.Spec PyProof.Rows L2

section
variable {X : Cx} {W : WX}
/-! ### in, is -/
def vD : D → V
  | .non => .non
  | .bl b => .bl b
  | .int i => .int i
  | .str x => .str x
  | _ => .non
theorem flat_rel {K : PySem.W.Frag} {φ : List Addr} {H : Hp} {d : D} {v : V} (r : RelD K φ H d v) (f : flatD d = true) : v = vD d ∧ flatV v = true := by
  cases r with
  | non => exact ⟨rfl, rfl⟩
  | bl b => exact ⟨rfl, rfl⟩
  | int i => exact ⟨rfl, rfl⟩
  | str x => exact ⟨rfl, rfl⟩
  | _ => simp [flatD] at f
theorem flats_rel {K : PySem.W.Frag} {φ : List Addr} {H : Hp} : ∀ {ds : List D} {vs : List V}, RelDs K φ H ds vs → ds.all flatD = true → vs = ds.map vD ∧ vs.all flatV = true
  | _, _, .nil, _ => ⟨rfl, rfl⟩
  | _, _, .cons h t, f => by
    rw [List.all_cons, Bool.and_eq_true] at f
    obtain ⟨e1, f1⟩ := flat_rel h f.1
    obtain ⟨e2, f2⟩ := flats_rel t f.2
    exact ⟨by rw [List.map_cons, ← e1, ← e2], by rw [List.all_cons, f1, f2]; rfl⟩
/-- == of flat values -/
def eqF (a b : D) : Bool := eqV (vD a) (vD b)
def hasF (x : D) (xs : List D) : Bool := xs.any fun y => eqF y x
theorem hasF_in {x : D} {xs : List D} : inV (vD x) (xs.map vD) = hasF x xs := by
  unfold inV hasF eqF
  rw [List.any_map]; rfl
/-- the items of a list or a tuple -/
def itemsD (mh : MH) : D → Option (List D)
  | .tup xs => some xs
  | .rol xs => some xs
  | .ref n => match mh[n]? with
    | some (.lst xs) => some xs
    | _ => none
  | _ => none
def subStr (x y : Str) : Bool := if x.cps.size = 1 then decide (x.cps.getD 0 0 ∈ y.cps.toList) else !(Builtin.Str.occurrences y x 0 y.length 1).isEmpty
def inD (mh : MH) (x c : D) : Option Bool := match x, c with
  | .str a, .str b => some (subStr a b)
  | x, c => match itemsD mh c with
    | some xs => if flatD x = true ∧ xs.all flatD = true then some (hasF x xs) else
      (match c with
      | .ref _ => (match datD mh 60 x, datD mh 60 c with
        | some d, some (.list ds) => if SeqAt.shaped d = true ∧ SeqAt.shaped (.list ds) = true then some (ds.any fun z => PyData.eqv z d) else none
        | _, _ => none)
      | _ => none)
    | none => none
def oIn : Op2 := fun a b mh => (inD mh a b).map fun k => (.bl k, mh)
def oNotIn : Op2 := fun a b mh => (inD mh a b).map fun k => (.bl (!k), mh)
theorem seq_of {φ : List Addr} {H : Hp} {mh : MH} {c : D} {y : V} {xs : List D} (hh : HR X.K φ mh H) (r : RelD X.K φ H c y) (h : itemsD mh c = some xs) : ∃ p vs, y = .ref p ∧ (SqL X.K H p vs ∨ SqT X.K H p vs) ∧ RelDs X.K φ H xs vs := by
  cases r with
  | tup hs rs => cases h; exact ⟨_, _, rfl, .inr hs, rs⟩
  | rol hs rs => cases h; exact ⟨_, _, rfl, .inl hs.seq, rs⟩
  | ref hn =>
    simp only [itemsD] at h
    split at h
    · rename_i xs' hx
      cases h
      obtain ⟨vs, q, rs⟩ := hh.lst hn hx
      exact ⟨_, vs, rfl, .inl (SqL.of q), rs⟩
    · cases h
  | _ => cases h
theorem inD_ok {φ : List Addr} {H : Hp} {mh : MH} {a c : D} {x y : V} {k : Bool} (hh : HR X.K φ mh H) (ra : RelD X.K φ H a x) (rc : RelD X.K φ H c y) (h : inD mh a c = some k) :
    (∃ c' z, x = .str ⟨#[c']⟩ ∧ y = .str z ∧ decide (c' ∈ z.cps.toList) = k) ∨ (∃ i j, x = .str i ∧ y = .str j ∧ (!(Builtin.Str.occurrences j i 0 j.length 1).isEmpty) = k) ∨
    (∃ p vs, y = .ref p ∧ (SqL X.K H p vs ∨ SqT X.K H p vs) ∧ flatV x = true ∧ vs.all flatV = true ∧ inV x vs = k) ∨
    (∃ d ds, Dp X.K H x d ∧ Dp X.K H y (.list ds) ∧ SeqAt.shaped d = true ∧ SeqAt.shaped (.list ds) = true ∧ (ds.any fun z => PyData.eqv z d) = k) := by
  unfold inD at h
  split at h
  · cases ra; cases rc
    rename_i a b
    simp only [Option.some.injEq] at h
    unfold subStr at h
    split at h
    · rename_i hs
      refine .inl ⟨a.cps.getD 0 0, b, ?_, rfl, h⟩
      obtain ⟨⟨l⟩⟩ := a
      match l, hs with
      | [c'], _ => rfl
      | [], hs => simp at hs
      | _ :: _ :: _, hs => simp at hs
    · exact .inr (.inl ⟨a, b, rfl, rfl, h⟩)
  · split at h
    · rename_i xs hx
      split at h
      · rename_i hf
        simp only [Option.some.injEq] at h
        obtain ⟨p, vs, e, hs, rs⟩ := seq_of hh rc hx
        obtain ⟨e1, f1⟩ := flat_rel ra hf.1
        obtain ⟨e2, f2⟩ := flats_rel rs hf.2
        exact .inr (.inr (.inl ⟨p, vs, e, hs, f1, f2, by rw [e1, e2, hasF_in]; exact h⟩))
      · split at h
        · split at h
          · rename_i d ds h1 h2
            split at h
            · rename_i hs
              simp only [Option.some.injEq] at h
              exact .inr (.inr (.inr ⟨d, ds, datD_ok hh _ _ _ _ ra h1, datD_ok hh _ _ _ _ rc h2, hs.1, hs.2, h⟩))
            · cases h
          · cases h
        · cases h
    · cases h
theorem r_in (hu : X.A.units + 65 < cLine) : OpR X (compareOp .In) (iR2 X.K oIn) := by
  rintro pins s σ H x y v u Q I rx ry ⟨φ, mh, a, b, ra, rb, hh, p⟩
  unfold oIn at p
  cases h : inD mh a b with
  | none => rw [h] at p; exact p.elim
  | some k =>
    rw [h] at p
    have q := postO_val hh p (.bl k)
    rcases inD_ok hh ra rb h with ⟨c, z, h1, h2, h3⟩ | ⟨i, j, h1, h2, h3⟩ | ⟨pp, vs, h1, h2, h3, h4, h5⟩ | ⟨d, ds, h1, h2, h3, h4, h5⟩
    · exact op_in_sign pins s σ H x y v u Q I rx ry ⟨c, z, h1, h2, by rw [h3]; exact q⟩
    · exact op_in_str pins s σ H x y v u Q I rx ry ⟨i, j, h1, h2, by rw [h3]; exact q⟩
    · exact op_in_seq pins s σ H x y v u Q I rx ry ⟨pp, vs, h1, h2, h3, h4, by rw [h5]; exact q⟩
    · exact op_inD hu pins s σ H x y v u Q I rx ry ⟨d, ds, h1, h2, h3, h4, by rw [h5]; exact q⟩
theorem r_notIn (hu : X.A.units + 65 < cLine) : OpR X (compareOp .NotIn) (iR2 X.K oNotIn) := by
  rintro pins s σ H x y v u Q I rx ry ⟨φ, mh, a, b, ra, rb, hh, p⟩
  unfold oNotIn at p
  cases h : inD mh a b with
  | none => rw [h] at p; exact p.elim
  | some k =>
    rw [h] at p
    have q := postO_val hh p (.bl (!k))
    rcases inD_ok hh ra rb h with ⟨c, z, h1, h2, h3⟩ | ⟨i, j, h1, h2, h3⟩ | ⟨pp, vs, h1, h2, h3, h4, h5⟩ | ⟨d, ds, h1, h2, h3, h4, h5⟩
    · exact op_notIn_sign pins s σ H x y v u Q I rx ry ⟨c, z, h1, h2, by rw [h3]; exact q⟩
    · exact op_notin_str pins s σ H x y v u Q I rx ry ⟨i, j, h1, h2, by rw [h3]; exact q⟩
    · exact op_notIn_seq pins s σ H x y v u Q I rx ry ⟨pp, vs, h1, h2, h3, h4, by rw [if_pos rfl, h5]; exact q⟩
    · exact op_notInD hu pins s σ H x y v u Q I rx ry ⟨d, ds, h1, h2, h3, h4, by rw [h5]; exact q⟩
def isD : D → D → Option Bool
  | .non, .non => some true
  | _, .non => some false
  | .bl a, .bl b => some (decide (a = b))
  | _, _ => none
def oIs : Op2 := fun a b mh => (isD a b).map fun k => (.bl k, mh)
def oIsNot : Op2 := fun a b mh => (isD a b).map fun k => (.bl (!k), mh)
theorem isD_ok {K : PySem.W.Frag} {φ : List Addr} {H : Hp} {a b : D} {x y : V} {k : Bool} (ra : RelD K φ H a x) (rb : RelD K φ H b y) (h : isD a b = some k) : (y = .non ∧ decide (x = .non) = k) ∨ ∃ i j : Bool, x = .bl i ∧ y = .bl j ∧ decide (i = j) = k := by
  cases rb with
  | non =>
    cases ra with
    | non => exact .inl ⟨rfl, by simpa [isD] using h⟩
    | _ => exact .inl ⟨rfl, by simpa [isD] using h⟩
  | bl j =>
    cases ra with
    | bl i => exact .inr ⟨i, j, rfl, rfl, by simpa [isD] using h⟩
    | _ => cases h
  | _ => cases ra <;> cases h
theorem r_is : OpR X (compareOp .Is) (iR2 X.K oIs) := by
  rintro pins s σ H x y v u Q I rx ry ⟨φ, mh, a, b, ra, rb, hh, p⟩
  unfold oIs at p
  cases h : isD a b with
  | none => rw [h] at p; exact p.elim
  | some k =>
    rw [h] at p
    have q := postO_val hh p (.bl k)
    rcases isD_ok ra rb h with ⟨h1, h2⟩ | ⟨i, j, h1, h2, h3⟩
    · exact op_isN pins s σ H x y v u Q I rx ry ⟨h1, by rw [h2]; exact q⟩
    · exact op_isBl pins s σ H x y v u Q I rx ry ⟨i, j, h1, h2, by rw [h3]; exact q⟩
theorem r_isNot : OpR X (compareOp .IsNot) (iR2 X.K oIsNot) := by
  rintro pins s σ H x y v u Q I rx ry ⟨φ, mh, a, b, ra, rb, hh, p⟩
  unfold oIsNot at p
  cases h : isD a b with
  | none => rw [h] at p; exact p.elim
  | some k =>
    rw [h] at p
    have q := postO_val hh p (.bl (!k))
    rcases isD_ok ra rb h with ⟨h1, h2⟩ | ⟨i, j, h1, h2, h3⟩
    · exact op_notN pins s σ H x y v u Q I rx ry ⟨h1, by rw [h2]; exact q⟩
    · exact op_notBl pins s σ H x y v u Q I rx ry ⟨i, j, h1, h2, by rw [h3]; exact q⟩

/-! ### built-ins by name -/
def lenD (mh : MH) : D → Option Nat
  | .str s => if s.length ≤ sizeLine then some s.length else none
  | .ref n => match mh[n]? with
    | some (.lst xs) => some xs.length
    | some (.dk kvs) => some kvs.length
    | _ => none
  | .tup xs => some xs.length
  | .rol xs => some xs.length
  | _ => none
def oLen : OpA := fun as mh => match as with
  | [a] => (lenD mh a).map fun n => (.int (n : Int), mh)
  | _ => none
theorem RelDs.one {K : PySem.W.Frag} {φ : List Addr} {H : Hp} {d : D} {vs : List V} (r : RelDs K φ H [d] vs) : ∃ v, vs = [v] ∧ RelD K φ H d v := by
  cases r with
  | cons h t => cases t; exact ⟨_, rfl, h⟩
theorem RelDs.two {K : PySem.W.Frag} {φ : List Addr} {H : Hp} {d e : D} {vs : List V} (r : RelDs K φ H [d, e] vs) : ∃ v w, vs = [v, w] ∧ RelD K φ H d v ∧ RelD K φ H e w := by
  cases r with
  | cons h t => obtain ⟨w, rfl, h2⟩ := t.one; exact ⟨_, _, rfl, h, h2⟩
theorem r_len : CallR X (.builtin "len") (iRA X.K oLen) := by
  rintro pins s σ H xs us Q I r ⟨φ, mh, as, ra, hh, p⟩
  unfold oLen at p
  split at p
  · rename_i a
    obtain ⟨v, rfl, rv⟩ := ra.one
    cases h : lenD mh a with
    | none => rw [h] at p; exact p.elim
    | some n =>
      rw [h] at p
      have q := postO_val hh p (.int _)
      cases rv with
      | str z =>
        simp only [lenD] at h
        split at h
        · rename_i hl
          cases h
          exact call_len_str pins s σ H _ us Q I r ⟨z, rfl, hl, q⟩
        · cases h
      | tup hs rs =>
        cases h
        rw [rs.length] at q
        exact call_len_seq pins s σ H _ us Q I r ⟨_, _, rfl, .inr hs, q⟩
      | rol hs rs =>
        cases h
        rw [rs.length] at q
        exact call_len_seq pins s σ H _ us Q I r ⟨_, _, rfl, .inl hs.seq, q⟩
      | ref hn =>
        simp only [lenD] at h
        split at h
        · rename_i xs hx
          cases h
          obtain ⟨vs, e, rs⟩ := hh.lst hn hx
          rw [rs.length] at q
          exact call_len_seq pins s σ H _ us Q I r ⟨_, _, rfl, .inl (SqL.of e), q⟩
        · rename_i kds hx
          cases h
          obtain ⟨kvs, e, rk⟩ := hh.ob _ _ _ hn hx
          have hl := congrArg List.length rk.1
          rw [List.length_map, List.length_map] at hl
          rw [hl] at q
          exact call_lenD pins s σ H _ us Q I r ⟨_, kvs, rfl, e, q⟩
        · cases h
      | _ => cases h
  · exact p.elim
def oInt : OpA := fun as mh => match as with
  | [.int i] => some (.int i, mh)
  | [.bl k] => some (.int (if k then 1 else 0), mh)
  | _ => none
theorem r_intc : CallR X (.type "int") (iRA X.K oInt) := by
  rintro pins s σ H xs us Q I r ⟨φ, mh, as, ra, hh, p⟩
  unfold oInt at p
  split at p
  · obtain ⟨v, rfl, rv⟩ := ra.one
    cases rv
    exact call_int1 pins s σ H _ us Q I r (.inl ⟨_, rfl, postO_val hh p (.int _)⟩)
  · obtain ⟨v, rfl, rv⟩ := ra.one
    cases rv
    exact call_int1 pins s σ H _ us Q I r (.inr ⟨_, rfl, postO_val hh p (.int _)⟩)
  · exact p.elim
def oStr : OpA := fun as mh => match as with
  | [.int i] => if i.natAbs.log2 < 1920 then some (.str (toString i : String), mh) else none
  | _ => none
theorem r_strc : CallR X (.type "str") (iRA X.K oStr) := by
  rintro pins s σ H xs us Q I r ⟨φ, mh, as, ra, hh, p⟩
  unfold oStr at p
  split at p
  · obtain ⟨v, rfl, rv⟩ := ra.one
    cases rv
    split at p
    · rename_i hl
      exact call_str_int pins s σ H _ us Q I r ⟨_, rfl, hl, postO_val hh p (.str _)⟩
    · exact p.elim
  · exact p.elim
def oAbs : OpA := fun as mh => match as with
  | [.int i] => some (.int (if i < 0 then -i else i), mh)
  | _ => none
theorem r_abs : CallR X (.builtin "abs") (iRA X.K oAbs) := by
  rintro pins s σ H xs us Q I r ⟨φ, mh, as, ra, hh, p⟩
  unfold oAbs at p
  split at p
  · obtain ⟨v, rfl, rv⟩ := ra.one
    cases rv
    exact call_abs pins s σ H _ us Q I r ⟨_, rfl, postO_val hh p (.int _)⟩
  · exact p.elim
def oTuple : OpA := fun as mh => match as with
  | [a] => (itemsD mh a).map fun xs => (.tup xs, mh)
  | _ => none
theorem r_tuple : CallR X (.type "tuple") (iRA X.K oTuple) := by
  rintro pins s σ H xs us Q I r ⟨φ, mh, as, ra, hh, p⟩
  unfold oTuple at p
  split at p
  · obtain ⟨v, rfl, rv⟩ := ra.one
    rename_i a
    cases h : itemsD mh a with
    | none => rw [h] at p; exact p.elim
    | some ys =>
      rw [h] at p
      obtain ⟨pp, vs, e, hs, rs⟩ := seq_of hh rv h
      subst e
      rcases hs with hs | hs
      · exact call_tuple_of pins s σ H _ us Q I r ⟨pp, vs, rfl, .inl ⟨hs, fun l hl => postO_tup hh p rs hl⟩⟩
      · exact call_tuple_of pins s σ H _ us Q I r ⟨pp, vs, rfl, .inr ⟨hs, postO_val hh p (.tup hs rs)⟩⟩
  · exact p.elim
def oList : OpA := fun as mh => match as with
  | [a] => (itemsD mh a).map fun xs => (.ref mh.length, mh ++ [.lst xs])
  | _ => none
theorem r_list : CallR X (.type "list") (iRA X.K oList) := by
  rintro pins s σ H xs us Q I r ⟨φ, mh, as, ra, hh, p⟩
  unfold oList at p
  split at p
  · obtain ⟨v, rfl, rv⟩ := ra.one
    rename_i a
    cases h : itemsD mh a with
    | none => rw [h] at p; exact p.elim
    | some ys =>
      rw [h] at p
      obtain ⟨pp, vs, e, hs, rs⟩ := seq_of hh rv h
      subst e
      exact call_list_of pins s σ H _ us Q I r ⟨pp, vs, rfl, hs, fun l hl => postO_new hh p rs hl⟩
  · exact p.elim
/-- isinstance(x, T), T a built-in type -/
def tyD (mh : MH) : D → Option String
  | .non => some "NoneType"
  | .bl _ => some "bool"
  | .int _ => some "int"
  | .str _ => some "str"
  | .tup _ => some "tuple"
  | .rol _ => some "list"
  | .ref n => match mh[n]? with
    | some (.lst _) => some "list"
    | some (.dk _) => some "dict"
    | some (.dt _) => some "dict"
    | _ => none
  | .ty _ => none
  | .exc _ _ _ => none
def oIsi : OpA := fun as mh => match as with
  | [a, .ty n] => match tyD mh a with
    | some t => (kitB t n).map fun b => (.bl b, mh)
    | none => none
  | _ => none
end
end Det
/-! Det, part F: isinstance, items, slices, displays, what is walked, methods of lists, stores. -/
namespace Det
open PySem PySem.Spec PyProof.Rows L2

section
variable {X : Cx} {W : WX}
theorem tyX_of {φ : List Addr} {H : Hp} {mh : MH} {d : D} {v : V} {t : String} (hh : HR X.K φ mh H) (r : RelD X.K φ H d v) (h : tyD mh d = some t) : TyX X.K H v (.type t) := by
  cases r with
  | non => cases h; exact .base .non
  | bl b => cases h; exact .base (.bl b)
  | int i => cases h; exact .base (.int i)
  | str x => cases h; exact .base (.str x)
  | tup hs rs =>
    cases h
    rcases hs with (e | ⟨o, e⟩) | ⟨o, its, n, e, c, _⟩
    · exact .base (.tup e)
    · exact .fTuple e
    · exact .kTuple e c
  | rol hs rs =>
    cases h
    rcases hs with ⟨o, e⟩ | ⟨o, its, n, e, c, _⟩
    · exact .base (.frz e)
    · exact .kList e c
  | ref hn =>
    simp only [tyD] at h
    split at h
    · rename_i xs hx
      cases h
      obtain ⟨vs, e, _⟩ := hh.lst hn hx
      exact .base (.lst e)
    · rename_i kds hx
      cases h
      obtain ⟨kvs, e, _⟩ := hh.ob _ _ _ hn hx
      exact .base (.dK e)
    · rename_i kds hx
      cases h
      obtain ⟨kvs, e, _⟩ := hh.ob _ _ _ hn hx
      exact .base (.dT e)
    · cases h
  | ty n => cases h
  | exc => cases h
theorem r_isi : CallR X (.builtin "isinstance") (iRA X.K oIsi) := by
  rintro pins s σ H xs us Q I r ⟨φ, mh, as, ra, hh, p⟩
  unfold oIsi at p
  split at p
  · rename_i a n
    obtain ⟨v, w, rfl, rv, rw'⟩ := ra.two
    cases rw'
    cases h : tyD mh a with
    | none => rw [h] at p; exact p.elim
    | some t =>
      rw [h] at p
      cases hk : kitB t n with
      | none => simp only [hk] at p; exact p.elim
      | some b =>
        simp only [hk] at p
        exact call_isi pins s σ H _ us Q I r ⟨v, .ty n, .type t, .type n, b, rfl, .ty n, tyX_of hh rv h, kit_ty hk, postO_val hh p (.bl b)⟩
  · exact p.elim

/-! ### calls of built-ins -/
theorem se_blt {id : String} {o : OpA} {x : Str} {p pos : Pos} {e : Expr} {es : List Expr} {fa : MA} (hc : CallR X (.builtin id) (iRA X.K o)) (hm : X.mg x = none) (ha : SA X W (e :: es) fa) (hg : Gl X x := by rfl) (hv : bootBuiltins x = some (.builtin id) := by decide +kernel) (hn : x ≠ "__name__" := by decide)
    (hdb : (x == ("__debug__" : Str)) = false := by decide) (he : starEach (e :: es) X.env = (false, eval e X.env) :: starEach es X.env := by rfl) (hpl : (backTo pos (starEach es X.env)).any (·.1) = false := by rfl) :
    SE X W (.Call (.Name x p) (e :: es) [] pos) (ap o fa) := (pe_callB hc hg hm hv ha hn hdb he hpl).imp (impA fun _ _ _ h => h)
theorem se_typ {id : String} {o : OpA} {x : Str} {p pos : Pos} {e : Expr} {es : List Expr} {fa : MA} (hc : CallR X (.type id) (iRA X.K o)) (hm : X.mg x = none) (ha : SA X W (e :: es) fa) (hg : Gl X x := by rfl) (hv : bootBuiltins x = some (.type id) := by decide +kernel) (hn : x ≠ "__name__" := by decide)
    (hdb : (x == ("__debug__" : Str)) = false := by decide) (he : starEach (e :: es) X.env = (false, eval e X.env) :: starEach es X.env := by rfl) (hpl : (backTo pos (starEach es X.env)).any (·.1) = false := by rfl) :
    SE X W (.Call (.Name x p) (e :: es) [] pos) (ap o fa) := (pe_callTy hc hg hm hv ha hn hdb he hpl).imp (impA fun _ _ _ h => h)
/-- a built-in type's name as a value -/
theorem s_ty {n : String} {x : Str} {pos : Pos} (hm : X.mg x = none) (hg : Gl X x := by rfl) (hv : bootBuiltins x = some (.type n) := by decide +kernel) (hn : x ≠ "__name__" := by decide) (hd : (x == ("__debug__" : Str)) = false := by decide) : SE X W (.Name x pos) (kn (.ty n)) :=
  skn (v := .ty n) (pe_bltn hg hm hv rfl hn hd) fun _ _ => .ty n
/-- a module's name that holds a text, an int -/
theorem s_gstr {z : Str} {t : Tok} {x : Str} {pos : Pos} (hm : X.mg x = some (.str z t)) (hg : Gl X x := by rfl) (hd : (x == ("__debug__" : Str)) = false := by decide) : SE X W (.Name x pos) (kn (.str z)) :=
  skn (v := .str z) (pe_glob hg hm ⟨t, rfl⟩ hd) fun _ _ => .str z
theorem s_gint {z : Int} {t : Tok} {x : Str} {pos : Pos} (hm : X.mg x = some (.int z t)) (hg : Gl X x := by rfl) (hd : (x == ("__debug__" : Str)) = false := by decide) : SE X W (.Name x pos) (kn (.int z)) :=
  skn (v := .int z) (pe_glob hg hm ⟨t, rfl⟩ hd) fun _ _ => .int z

/-! ### items and slices -/
def oIx : Op2 := fun a b mh => match a, b with
  | .str z, .int i => if z.length ≤ sizeLine then (atI z.cps.toList i).map fun c => (.str ⟨#[c]⟩, mh) else none
  | a, .int i => match itemsD mh a with
    | some xs => (atI xs i).map fun d => (d, mh)
    | none => none
  | _, _ => none
theorem atI_rel {K : PySem.W.Frag} {φ : List Addr} {H : Hp} {ds : List D} {vs : List V} {i : Int} {d : D} (r : RelDs K φ H ds vs) (h : atI ds i = some d) : ∃ v, atI vs i = some v ∧ RelD K φ H d v := by
  unfold atI at h ⊢
  rw [← r.length]
  cases hx : ixN ds.length i with
  | none => rw [hx] at h; cases h
  | some j =>
    rw [hx] at h
    exact r.get h
theorem r_ix : IxR X (iR2 X.K oIx) := by
  rintro ve se pins s σ H x y v u Q I rx ry ⟨φ, mh, a, b, ra, rb, hh, p⟩ hsub
  unfold oIx at p
  split at p
  · rename_i z i
    cases ra; cases rb
    split at p
    · rename_i hl
      cases h : atI z.cps.toList i with
      | none => rw [h] at p; exact p.elim
      | some c =>
        rw [h] at p
        exact ix_str ve se pins s σ H _ _ v u Q I rx ry ⟨z, i, c, rfl, rfl, hl, h, postO_val hh p (.str _)⟩ hsub
    · exact p.elim
  · rename_i i _
    cases rb
    split at p
    case h_2 => exact p.elim
    case h_1 xs h =>
      cases h2 : atI xs i with
      | none => simp only [h2] at p; exact p.elim
      | some d =>
        simp only [h2] at p
        obtain ⟨pp, vs, e, hs, rs⟩ := seq_of hh ra h
        subst e
        obtain ⟨w, h3, rw'⟩ := atI_rel rs h2
        rcases hs with hs | hs
        · exact ix_list ve se pins s σ H _ _ v u Q I rx ry ⟨pp, vs, i, w, rfl, rfl, hs, h3, postO_val hh p rw'⟩ hsub
        · exact ix_tup ve se pins s σ H _ _ v u Q I rx ry ⟨pp, vs, i, w, rfl, rfl, hs, h3, postO_val hh p rw'⟩ hsub
  · exact p.elim
theorem se_ix {a b : Expr} {f g : ME} {pos : Pos} (ha : SE X W a f) (hb : SE X W b g) (hs : PlainIx b := by exact fun _ _ => rfl) : SE X W (.Subscript a b pos) (bi oIx f g) := (pe_ix r_ix ha hb hs).imp (imp2 fun _ _ _ _ h => h)
/-- an end of a slice -/
abbrev MO := Nv → MH → Res (Option Int)
def RO : Rl (Option Int) (Option Int) := fun _ _ a b => a = b
def iO (K : PySem.W.Frag) (mg : MGl) (W : WX) (f : MO) : TO := fun σ H Q => ∃ φ env mh, RelE K φ H env σ ∧ HR K φ mh H ∧ post K mg W RO σ φ H (f env mh) Q
abbrev SO (X : Cx) (W : WX) (e : Option Expr) (f : MO) : Prop := PO X e (iO X.K X.mg W f)
def onone : MO := fun _ mh => .ok none mh
def osome (f : ME) : MO := fun env mh => (f env mh).bind fun a mh1 => match a with | .int i => .ok (some i) mh1 | _ => .no
theorem _root_.L2.PO.imp {e : Option Expr} {t t' : TO} (h : PO X e t) (w : ∀ σ H Q, t' σ H Q → t σ H Q) : PO X e t' := ⟨fun pins s σ H Q I q => h.run pins s σ H Q I (w σ H Q q)⟩
theorem so_none : SO X W none onone := po_none.imp (by
  rintro σ H Q ⟨φ, env, mh, re, hh, p⟩
  exact p φ none H (Px.refl φ) (Kp.refl H) hh rfl)
theorem so_some {e : Expr} {f : ME} (h : SE X W e f) : SO X W (some e) (osome f) := (po_some h).imp (by
  rintro σ H Q ⟨φ, env, mh, re, hh, p⟩
  refine ⟨φ, env, mh, re, hh, post_mono (Px.refl φ) (Kp.refl H) (post_bind (R1 := RelD X.K) p) ?_⟩
  rintro x H1 ⟨φ1, d, mh1, p1, k1, h1, r1, q⟩
  cases r1 with
  | int i => exact ⟨i, rfl, q φ1 (some i) H1 (Px.refl φ1) (Kp.refl H1) h1 rfl⟩
  | _ => exact q.elim)
def cutD (xs : List D) (lo hi : Option Int) : List D := (xs.drop (HT.sIx xs.length 0 lo)).take (HT.sIx xs.length xs.length hi - HT.sIx xs.length 0 lo)
theorem cut_rel {K : PySem.W.Frag} {φ : List Addr} {H : Hp} {ds : List D} {vs : List V} {lo hi : Option Int} (r : RelDs K φ H ds vs) : RelDs K φ H (cutD ds lo hi) (cutV vs lo hi) := by
  unfold cutD cutV
  rw [r.length]
  exact (r.drop _).take _
def oSl (a : D) (lo hi : Option Int) (mh : MH) : Option (D × MH) := match a with
  | .str z => if z.length ≤ sizeLine then some (.str (cutS z lo hi), mh) else none
  | .tup xs => some (.tup (cutD xs lo hi), mh)
  | a => match itemsD mh a with
    | some xs => some (.ref mh.length, mh ++ [.lst (cutD xs lo hi)])
    | none => none
def sl (f : ME) (l h : MO) : ME := fun env mh => (f env mh).bind fun a mh1 => (l env mh1).bind fun lo mh2 => (h env mh2).bind fun hi mh3 => .ofO (oSl a lo hi mh3)
def rSlD (K : PySem.W.Frag) : V → Option Int → Option Int → Hp → VK → Prop := fun x lo hi H Q => ∃ φ mh a, RelD K φ H a x ∧ HR K φ mh H ∧ postO K (RelD K) φ H (oSl a lo hi mh) Q
theorem r_sl : SlR X (rSlD X.K) := by
  rintro pins s σ H x v vl vu lo hi sl Q I rx hs pl pu ⟨φ, mh, a, ra, hh, p⟩
  unfold oSl at p
  split at p
  · rename_i z
    cases ra
    split at p
    · rename_i hl
      exact sl_str pins s σ H _ v vl vu lo hi sl Q I rx hs pl pu ⟨z, rfl, hl, postO_val hh p (.str _)⟩
    · exact p.elim
  · cases ra with
    | tup ht rs =>
      rename_i xs a vs
      refine sl_tupA pins s σ H _ v vl vu lo hi sl Q I rx hs pl pu ⟨_, _, rfl, ht, fun hw => ?_, fun _ q hq => postO_tup hh p (cut_rel rs) hq⟩
      have e : cutD xs lo hi = xs := by
        unfold cutD
        rw [rs.length, hw.1, hw.2, ← rs.length]
        simp
      rw [e] at p
      exact postO_val hh p (.tup ht rs)
  · split at p
    · rename_i xs h
      obtain ⟨pp, vs, e, hq, rs⟩ := seq_of hh ra h
      subst e
      rcases hq with hq | hq
      · exact sl_list pins s σ H _ v vl vu lo hi sl Q I rx hs pl pu ⟨pp, vs, rfl, hq, fun q hq => postO_new hh p (cut_rel rs) hq⟩
      · cases ra with
        | tup ht rs2 =>
          rename_i hn
          cases h
          exact (hn _ rfl).elim
        | rol hr rs2 => exact sl_list pins s σ H _ v vl vu lo hi sl Q I rx hs pl pu ⟨_, _, rfl, hr.seq, fun q hq => by cases h; exact postO_new hh p (cut_rel rs2) hq⟩
        | ref hn =>
          simp only [itemsD] at h
          split at h
          · rename_i ys hy
            cases h
            obtain ⟨ws, e2, rs2⟩ := hh.lst hn hy
            exact sl_list pins s σ H _ v vl vu lo hi sl Q I rx hs pl pu ⟨_, _, rfl, SqL.of e2, fun q hq => postO_new hh p (cut_rel rs2) hq⟩
          · cases h
        | exc => cases h
    · exact p.elim
theorem se_sl {e : Expr} {lo hi : Option Expr} {f : ME} {l h : MO} {pos p2 : Pos} (he : SE X W e f) (hl : SO X W lo l) (hu : SO X W hi h) : SE X W (.Subscript e (.Slice lo hi none p2) pos) (sl f l h) := (pe_slice r_sl he hl hu).imp (by
  rintro σ H Q ⟨φ, env, mh, re, hh, p⟩
  refine ⟨φ, env, mh, re, hh, post_mono (Px.refl φ) (Kp.refl H) (post_bind (R1 := RelD X.K) p) ?_⟩
  rintro x H1 ⟨φ1, d, mh1, p1, k1, h1, r1, q⟩
  refine ⟨φ1, env, mh1, re.mono p1 k1, h1, post_mono (Px.refl φ1) (Kp.refl H1) (post_bind (R1 := RO) q) ?_⟩
  rintro lo2 H2 ⟨φ2, d2, mh2, p2, k2, h2, r2, q2⟩
  have e2 : d2 = lo2 := r2
  subst e2
  refine ⟨φ2, env, mh2, (re.mono p1 k1).mono p2 k2, h2, post_mono (Px.refl φ2) (Kp.refl H2) (post_bind (R1 := RO) q2) ?_⟩
  rintro hi2 H3 ⟨φ3, d3, mh3, p3, k3, h3, r3, q3⟩
  have e3 : d3 = hi2 := r3
  subst e3
  exact ⟨φ3, mh3, d, (r1.mono p2 k2).mono p3 k3, h3, post_ofO q3⟩)

/-! ### displays -/
def dtup (f : MA) : ME := fun env mh => (f env mh).bind fun ds mh1 => if ds.length ≤ sizeLine then .ok (.tup ds) mh1 else .no
def dlst (f : MA) : ME := fun env mh => (f env mh).bind fun ds mh1 => if ds.length ≤ sizeLine then .ok (.ref mh1.length) (mh1 ++ [.lst ds]) else .no
theorem se_tup {es : List Expr} {f : MA} {pos : Pos} {x1 : Nat} (h : SA X W es f) : SE X W (.Tuple es x1 pos) (dtup f) := (pe_tup h).imp (by
  rintro σ H Q ⟨φ, env, mh, re, hh, p⟩
  refine ⟨φ, env, mh, re, hh, post_mono (Px.refl φ) (Kp.refl H) (post_bind (R1 := RelDs X.K) p) ?_⟩
  rintro vs H1 ⟨φ1, ds, mh1, p1, k1, h1, r1, q⟩
  by_cases hl : ds.length ≤ sizeLine
  · rw [if_pos hl] at q
    exact ⟨by rw [← r1.length]; exact hl, fun pp hp => q φ1 (.ref pp) _ (Px.refl φ1) (Kp.new hp) (h1.grow hp) (.tup (SqT.of upd_same) (r1.mono (Px.refl φ1) (Kp.new hp)))⟩
  · rw [if_neg hl] at q; exact q.elim)
theorem se_lst {es : List Expr} {f : MA} {pos : Pos} (h : SA X W es f) : SE X W (.List es pos) (dlst f) := (pe_lst h).imp (by
  rintro σ H Q ⟨φ, env, mh, re, hh, p⟩
  refine ⟨φ, env, mh, re, hh, post_mono (Px.refl φ) (Kp.refl H) (post_bind (R1 := RelDs X.K) p) ?_⟩
  rintro vs H1 ⟨φ1, ds, mh1, p1, k1, h1, r1, q⟩
  by_cases hl : ds.length ≤ sizeLine
  · rw [if_pos hl] at q
    exact ⟨by rw [← r1.length]; exact hl, fun pp hp => q (φ1 ++ [pp]) (.ref pp) _ px1 (Kp.new hp) (h1.new hp r1) (.ref h1.last)⟩
  · rw [if_neg hl] at q; exact q.elim)

/-! ### methods of lists -/
def app (fo f : ME) : ME := fun env mh => (fo env mh).bind fun o mh1 => match o with
  | .ref n => (match mh1[n]? with
    | some (.lst _) => (f env mh1).bind fun d mh2 => (match mh2[n]? with
      | some (.lst xs) => if xs.length < sizeLine then .ok .non (mh2.set n (.lst (xs ++ [d]))) else .no
      | _ => .no)
    | _ => .no)
  | _ => .no
theorem se_app {o e : Expr} {fo f : ME} {apos cpos : Pos} (ho : SE X W o fo) (he : SE X W e f) (hbase : attributeBase o "append" X.env (eval o X.env) = eval o X.env := by rfl) (hline : (apos.endLine == cpos.line) = true := by rfl)
    (hfew : ((backTo cpos (starEach [e] X.env)).all (fun x => !x.1) && (backToKw cpos (keywordEach [] X.env)).all (fun x => x.1.isSome) && decide (([e] : List Expr).length + ([] : List Keyword).length + (if ([] : List Keyword).isEmpty then 0 else 1) < 30)) = true := by rfl)
    (hst : starEach (e :: []) X.env = (false, eval e X.env) :: starEach [] X.env := by rfl) (hplain : (backTo cpos (starEach [] X.env)).any (·.1) = false := by rfl) : SE X W (.Call (.Attribute o "append" apos) [e] [] cpos) (app fo f) :=
  (pe_bm PySem.F.plainAttrs_list PySem.F.slot_list_append PySem.F.type_list_append mt_append ho (pa_cons he pa_nil hst) hbase hfew hline hst hplain).imp (by
  rintro σ H Q ⟨φ, env, mh, re, hh, p⟩
  refine ⟨φ, env, mh, re, hh, post_mono (Px.refl φ) (Kp.refl H) (post_bind (R1 := RelD X.K) p) ?_⟩
  rintro x H1 ⟨φ1, d, mh1, p1, k1, h1, r1, q⟩
  cases r1 with
  | ref hn =>
    rename_i n a
    try simp only at q
    split at q
    · rename_i xs0 hx0
      obtain ⟨vs0, e0, _⟩ := h1.lst hn hx0
      refine ⟨.inl ⟨rfl, vs0, SqL.of e0⟩, φ1, env, mh1, re.mono p1 k1, h1, post_mono (Px.refl φ1) (Kp.refl H1) (post_bind (R1 := RelD X.K) q) ?_⟩
      rintro y H2 ⟨φ2, d2, mh2, p2, k2, h2, r2, q2⟩
      try simp only at q2
      split at q2
      · rename_i xs hx
        split at q2
        · rename_i hl
          obtain ⟨vs, e1, rs⟩ := h2.lst (p2.get hn) hx
          exact ⟨a, vs, y, rfl, rfl, e1, by rw [← rs.length]; exact hl, q2 φ2 .non _ (Px.refl φ2) (Kp.mut e1 fun z => z) (h2.setL (p2.get hn) e1 (rs.append (.cons r2 .nil))) .non⟩
        · exact q2.elim
      · exact q2.elim
    · exact q.elim
  | _ => exact q.elim)
def popAt (fo f : ME) : ME := fun env mh => (fo env mh).bind fun o mh1 => match o with
  | .ref n => (match mh1[n]? with
    | some (.lst _) => (f env mh1).bind fun d mh2 => (match d, mh2[n]? with
      | .int i, some (.lst xs) => if -(2 ^ 63) ≤ i ∧ i < 2 ^ 63 then (match seqIndex? i xs.length with
        | some k => (match xs[k]? with
          | some y => .ok y (mh2.set n (.lst (xs.eraseIdx k)))
          | none => .no)
        | none => .no) else .no
      | _, _ => .no)
    | _ => .no)
  | _ => .no
theorem se_popAt {o e : Expr} {fo f : ME} {apos cpos : Pos} (ho : SE X W o fo) (he : SE X W e f) (hbase : attributeBase o "pop" X.env (eval o X.env) = eval o X.env := by rfl) (hline : (apos.endLine == cpos.line) = true := by rfl)
    (hfew : ((backTo cpos (starEach [e] X.env)).all (fun x => !x.1) && (backToKw cpos (keywordEach [] X.env)).all (fun x => x.1.isSome) && decide (([e] : List Expr).length + ([] : List Keyword).length + (if ([] : List Keyword).isEmpty then 0 else 1) < 30)) = true := by rfl)
    (hst : starEach (e :: []) X.env = (false, eval e X.env) :: starEach [] X.env := by rfl) (hplain : (backTo cpos (starEach [] X.env)).any (·.1) = false := by rfl) : SE X W (.Call (.Attribute o "pop" apos) [e] [] cpos) (popAt fo f) :=
  (pe_bm PySem.F.plainAttrs_list PySem.F.slot_list_pop PySem.F.type_list_pop mt_popAt ho (pa_cons he pa_nil hst) hbase hfew hline hst hplain).imp (by
  rintro σ H Q ⟨φ, env, mh, re, hh, p⟩
  refine ⟨φ, env, mh, re, hh, post_mono (Px.refl φ) (Kp.refl H) (post_bind (R1 := RelD X.K) p) ?_⟩
  rintro x H1 ⟨φ1, d, mh1, p1, k1, h1, r1, q⟩
  cases r1 with
  | ref hn =>
    rename_i n a
    try simp only at q
    split at q
    · rename_i xs0 hx0
      obtain ⟨vs0, e0, _⟩ := h1.lst hn hx0
      refine ⟨.inl ⟨rfl, vs0, SqL.of e0⟩, φ1, env, mh1, re.mono p1 k1, h1, post_mono (Px.refl φ1) (Kp.refl H1) (post_bind (R1 := RelD X.K) q) ?_⟩
      rintro y H2 ⟨φ2, d2, mh2, p2, k2, h2, r2, q2⟩
      try simp only at q2
      split at q2
      · rename_i i xs hx
        cases r2
        split at q2
        · rename_i hl
          split at q2
          · rename_i k hk
            split at q2
            · rename_i y hy
              obtain ⟨vs, e1, rs⟩ := h2.lst (p2.get hn) hx
              obtain ⟨w, hw, rw'⟩ := rs.get hy
              have km : Kp H2 (upd H2 a (.lst (vs.eraseIdx k))) := Kp.mut e1 fun z => z
              exact ⟨a, vs, i, k, w, rfl, rfl, e1, hl.1, hl.2, by rw [← rs.length]; exact hk, hw, q2 φ2 w _ (Px.refl φ2) km (h2.setL (p2.get hn) e1 (rs.erase k)) (rw'.mono (Px.refl φ2) km)⟩
            · exact q2.elim
          · exact q2.elim
        · exact q2.elim
      · exact q2.elim
    · exact q.elim
  | _ => exact q.elim)
def pop0 (fo : ME) : ME := fun env mh => (fo env mh).bind fun o mh1 => match o with
  | .ref n => (match mh1[n]? with
    | some (.lst xs) => (match xs[xs.length - 1]? with
      | some y => .ok y (mh1.set n (.lst xs.dropLast))
      | none => .no)
    | _ => .no)
  | _ => .no
theorem RelDs.dropLast {K : PySem.W.Frag} {φ : List Addr} {H : Hp} {ds : List D} {vs : List V} (r : RelDs K φ H ds vs) : RelDs K φ H ds.dropLast vs.dropLast := by
  rw [List.dropLast_eq_take, List.dropLast_eq_take, r.length]
  exact r.take _
theorem se_pop0 {o : Expr} {fo : ME} {apos cpos : Pos} (ho : SE X W o fo) (hbase : attributeBase o "pop" X.env (eval o X.env) = eval o X.env := by rfl) (hline : (apos.endLine == cpos.line) = true := by rfl) :
    SE X W (.Call (.Attribute o "pop" apos) [] [] cpos) (pop0 fo) :=
  (pe_bm0 PySem.F.plainAttrs_list PySem.F.slot_list_pop PySem.F.type_list_pop mt_pop ho hbase hline).imp (by
  rintro σ H Q ⟨φ, env, mh, re, hh, p⟩
  refine ⟨φ, env, mh, re, hh, post_mono (Px.refl φ) (Kp.refl H) (post_bind (R1 := RelD X.K) p) ?_⟩
  rintro x H1 ⟨φ1, d, mh1, p1, k1, h1, r1, q⟩
  cases r1 with
  | ref hn =>
    rename_i n a
    try simp only at q
    split at q
    · rename_i xs hx
      split at q
      · rename_i y hy
        obtain ⟨vs, e1, rs⟩ := h1.lst hn hx
        obtain ⟨w, hw, rw'⟩ := rs.get hy
        have km : Kp H1 (upd H1 a (.lst vs.dropLast)) := Kp.mut e1 fun z => z
        exact ⟨.inl ⟨rfl, vs, SqL.of e1⟩, a, vs, w, rfl, rfl, e1, by rw [← rs.length]; exact hw, q φ1 w _ (Px.refl φ1) km (h1.setL hn e1 rs.dropLast) (rw'.mono (Px.refl φ1) km)⟩
      · exact q.elim
    · exact q.elim
  | _ => exact q.elim)
/-- o[i] = e, o a list -/
def setIx (fo fi f : ME) : MS := fun env mh => lift (f env mh) env fun v mh1 => lift (fo env mh1) env fun o mh2 => lift (fi env mh2) env fun i mh3 => match o, i with
  | .ref n, .int k => (match mh3[n]? with
    | some (.lst xs) => (match ixN xs.length k with
      | some j => .nx env (mh3.set n (.lst (xs.set j v)))
      | none => .no)
    | _ => .no)
  | _, _ => .no
theorem ss_setIx {o i e : Expr} {fo fi f : ME} {pos pos' : Pos} (he : SE X W e f) (ho : SE X W o fo) (hi : SE X W i fi) (hs : swapsWithSole [.Subscript o i pos'] e pos.line X.env = pure false := by rfl) (hw : swappedStores [.Subscript o i pos'] e X.env = pure none := by rfl)
    (h1 : (assignEach [.Subscript o i pos'] X.env).map (·.2) = [assign (.Subscript o i pos') X.env] := by rfl)
    (ha : ∀ v, assign (.Subscript o i pos') X.env v = (do
      let ov ← holding [v] (eval o X.env)
      let iv ← holding [v, ov] (eval i X.env)
      standAt pos'
      holding [v, ov, iv] (setItem ov iv v)
      release [v, ov, iv] []) := by intro _; rfl) : SS X W (.Assign [.Subscript o i pos'] e pos) (setIx fo fi f) := (ps_asg he (pg_sub ho hi set_list ha) hs hw h1).imp (by
  rintro D σ H ⟨φ, env, mh, re, hh, p⟩
  refine ⟨φ, env, mh, re, hh, post_mono (Px.refl φ) (Kp.refl H) (post_lift (R := RelD X.K) re p) ?_⟩
  rintro x H1 ⟨φ1, v, mh1, p1, k1, h1, r1, q⟩
  have re1 := re.mono p1 k1
  refine ⟨φ1, env, mh1, re1, h1, post_mono (Px.refl φ1) (Kp.refl H1) (post_lift (R := RelD X.K) re1 q) ?_⟩
  rintro y H2 ⟨φ2, o, mh2, p2, k2, h2, r2, q2⟩
  have re2 := re1.mono p2 k2
  refine ⟨φ2, env, mh2, re2, h2, post_mono (Px.refl φ2) (Kp.refl H2) (post_lift (R := RelD X.K) re2 q2) ?_⟩
  rintro z H3 ⟨φ3, i, mh3, p3, k3, h3, r3, q3⟩
  have re3 := re2.mono p3 k3
  try simp only at q3
  split at q3
  · rename_i n k
    cases r3
    cases r2 with
    | ref hn =>
      rename_i a
      split at q3
      · rename_i xs hx
        split at q3
        · rename_i j hj
          obtain ⟨vs, e1, rs⟩ := h3.lst (p3.get hn) hx
          exact ⟨a, vs, k, j, rfl, rfl, e1, by rw [← rs.length]; exact hj, q3 φ3 σ _ (Px.refl φ3) (Kp.mut e1 fun z => z) (h3.setL (p3.get hn) e1 (rs.set ((r1.mono p2 k2).mono p3 k3) j)) (re3.mono (Px.refl φ3) (Kp.mut e1 fun z => z))⟩
        · exact q3.elim
      · exact q3.elim
  · exact q3.elim)

end
end Det
/-! Det, part G: equality of values, what is walked, sorted. -/
namespace Det
open PySem PySem.Spec PyProof.Rows L2

mutual
def D.beq : D → D → Bool
  | .non, .non => true
  | .bl a, .bl b => a == b
  | .int a, .int b => a == b
  | .str a, .str b => a == b
  | .ty a, .ty b => a == b
  | .tup a, .tup b => D.beqs a b
  | .rol a, .rol b => D.beqs a b
  | .ref a, .ref b => a == b
  | .exc a b c, .exc x y z => a == x && b == y && D.beqs c z
  | _, _ => false
def D.beqs : List D → List D → Bool
  | [], [] => true
  | a :: as, b :: bs => D.beq a b && D.beqs as bs
  | _, _ => false
end
mutual
theorem D.beq_iff : ∀ a b : D, D.beq a b = true ↔ a = b
  | .non, b => by cases b <;> simp [D.beq]
  | .bl _, b => by cases b <;> simp [D.beq]
  | .int _, b => by cases b <;> simp [D.beq]
  | .str _, b => by cases b <;> simp [D.beq]
  | .ty _, b => by cases b <;> simp [D.beq]
  | .ref _, b => by cases b <;> simp [D.beq]
  | .tup xs, b => by
    cases b with
    | tup ys => rw [D.beq, D.beqs_iff xs ys]; simp
    | _ => simp [D.beq]
  | .rol xs, b => by
    cases b with
    | rol ys => rw [D.beq, D.beqs_iff xs ys]; simp
    | _ => simp [D.beq]
  | .exc c ns xs, b => by
    cases b with
    | exc x y ys => rw [D.beq, Bool.and_eq_true, Bool.and_eq_true, D.beqs_iff xs ys]; simp [and_assoc]
    | _ => simp [D.beq]
theorem D.beqs_iff : ∀ as bs : List D, D.beqs as bs = true ↔ as = bs
  | [], b => by cases b <;> simp [D.beqs]
  | a :: as, b => by
    cases b with
    | nil => simp [D.beqs]
    | cons b bs => rw [D.beqs, Bool.and_eq_true, D.beq_iff a b, D.beqs_iff as bs]; simp
end
instance : DecidableEq D := fun a b => decidable_of_iff _ (D.beq_iff a b)

/-! ### what is walked -/
def lstIs (n : Nat) (xs : List D) (mh : MH) : Bool := match mh[n]? with
  | some (.lst ys) => decide (ys = xs)
  | _ => false
def sigs (z : Str) : List D := z.cps.toList.map fun c => .str ⟨#[c]⟩
def itD (d : D) (mh : MH) : Option ItD := match d with
  | .tup xs => some ⟨xs, fun _ => true⟩
  | .rol xs => some ⟨xs, fun _ => true⟩
  | .str z => some ⟨sigs z, fun _ => true⟩
  | .ref n => match mh[n]? with
    | some (.lst xs) => some ⟨xs, lstIs n xs⟩
    | _ => none
  | _ => none
def iter (f : ME) : MI := fun env mh => (f env mh).bind fun d mh1 => match itD d mh1 with | some it => .ok it mh1 | none => .no
section
variable {X : Cx} {W : WX} {tg : Expr}
/-- a list, a tuple, a text that is walked, whichever it is -/
def iAny (K : PySem.W.Frag) (tl : TE) : TI := fun σ H R => tl σ H fun x H1 =>
  (∃ a, x = .ref a ∧ (∃ xs, SqL K H1 a xs) ∧ R (Itl K a) H1) ∨ (∃ a, x = .ref a ∧ (∃ xs, SqT K H1 a xs) ∧ R (Itt K a) H1) ∨ ∃ z, x = .str z ∧ R (Its z) H1
/-- a value as an expression's reading: for the rules of walked things -/
theorem pi_any {l : Expr} {tl : TE} (hl : PE X l tl) : PI X tg l (iAny X.K tl) := by
  refine ⟨fun pins s σ H R I h => ?_⟩
  -- one of the three rules serves, by the value that has come
  refine thn (hl.run pins s σ H _ I h) fun v s1 hv => ?_
  obtain ⟨x, H1, I1, rx, q⟩ := hv
  rcases q with ⟨a, ea, ⟨xs, hq⟩, q⟩ | ⟨a, ea, ⟨xs, hq⟩, q⟩ | ⟨z, ez, q⟩
  · subst ea
    cases rx
    obtain ⟨its, _, pl, _⟩ := I1.list hq
    refine wpAny_pyIter_list pl.isList ?_
    exact ⟨_, [_], _, _, H1, rfl, I1.kept (t' := s1.toks) (fun b o e => Heap.get?_push_of_some _ e), turn_list a _, ⟨_, Heap.get?_push_size _ rfl, rfl, rfl⟩, (fun b hb => by
      rw [List.mem_singleton.mp hb]; exact I1.fpOk (Nat.le_refl _) (I1.hok.fresh (Nat.le_refl _))), q⟩
  · subst ea
    cases rx
    obtain ⟨its, _, pt, _⟩ := I1.tuple hq
    refine wpAny_pyIter_tuple (show s1.heap.IsTuple a its.toArray from pt) ?_
    exact ⟨_, [_], _, _, H1, rfl, I1.kept (t' := s1.toks) (fun b o e => Heap.get?_push_of_some _ e), turn_tuple a _, ⟨_, Heap.get?_push_size _ rfl, rfl, rfl⟩, (fun b hb => by
      rw [List.mem_singleton.mp hb]; exact I1.fpOk (Nat.le_refl _) (I1.hok.fresh (Nat.le_refl _))), q⟩
  · subst ez
    obtain ⟨tk, ev⟩ := rx
    subst ev
    by_cases hz : z.cps.all (· < 128) = true
    · refine wpAny_pyIter_ascii hz (pi_one (tk := s1.toks) I1 _ (turn_str _ z tk "str_ascii_iterator" (Or.inl rfl)) ?_ q)
      exact ⟨_, Heap.get?_push_size _ rfl, rfl, rfl⟩
    · have hz' : z.cps.all (· < 128) = false := by simpa using hz
      refine wpAny_pyIter_wide hz' (pi_one (tk := s1.toks) I1 _ (turn_str _ z tk "str_iterator" (Or.inr rfl)) ?_ q)
      exact ⟨_, Heap.get?_push_size _ rfl, rfl, rfl⟩
/-- an It over what stands still: its items are vs -/
theorem itOk_seq {φ : List Addr} {H : Hp} {it : ItD} {J : It}
    (h : ∀ i φ' mh' H', Px φ φ' → Kp H H' → HR X.K φ' mh' H' → it.chk mh' = true → ∃ vs : List V, RelDs X.K φ' H' it.items vs ∧ (∀ v, vs[i]? = some v → J.go i H' ∧ ∀ x H2, J.yld i H' x H2 → H2 = H' ∧ x = v) ∧ (vs.length ≤ i → J.stop i H')) : ItOk X.K φ H it J := by
  intro i φ' mh' H' p k hh hc
  obtain ⟨us, r, h1, h2⟩ := h i φ' mh' H' p k hh hc
  refine ⟨fun d hd => ?_, fun hl => h2 (by rw [← r.length]; exact hl)⟩
  obtain ⟨v, hv, rv⟩ := r.get hd
  obtain ⟨g1, g2⟩ := h1 v hv
  refine ⟨g1, fun x H2 y => ?_⟩
  obtain ⟨e1, e2⟩ := g2 x H2 y
  subst e1; subst e2
  exact ⟨Kp.refl _, hh, rv⟩
theorem si_any {e : Expr} {f : ME} (he : SE X W e f) : SI X W tg e (iter f) := (pi_any he).imp (by
  rintro σ H R ⟨φ, env, mh, re, hh, p⟩
  refine ⟨φ, env, mh, re, hh, post_mono (Px.refl φ) (Kp.refl H) (post_bind (R1 := RelD X.K) p) ?_⟩
  rintro x H1 ⟨φ1, d, mh1, p1, k1, h1, r1, q⟩
  cases r1 with
  | str z =>
    refine .inr (.inr ⟨z, rfl, q φ1 (Its z) H1 (Px.refl φ1) (Kp.refl H1) h1 (itOk_seq fun i φ' mh' H' _ _ _ _ => ⟨z.cps.toList.map fun c => .str ⟨#[c]⟩, ?_, fun v hv => ?_, fun hl => ?_⟩)⟩)
    · have : ∀ l : List Nat, RelDs X.K φ' H' (l.map fun c => D.str ⟨#[c]⟩) (l.map fun c => V.str ⟨#[c]⟩) := by
        intro l
        induction l with
        | nil => exact .nil
        | cons c l ih => exact .cons (.str _) ih
      exact this _
    · rw [List.getElem?_map, Array.getElem?_toList] at hv
      cases hc : z.cps[i]? with
      | none => rw [hc] at hv; cases hv
      | some c =>
        rw [hc] at hv
        cases hv
        refine ⟨(Array.getElem?_eq_some_iff.mp hc).1, fun x H2 y => ?_⟩
        obtain ⟨e1, c', hc', e2⟩ := y
        rw [hc] at hc'
        cases hc'
        exact ⟨e1, e2⟩
    · show z.cps.size ≤ i
      simpa using hl
  | tup hs rs =>
    rename_i a xs vs
    refine .inr (.inl ⟨a, rfl, ⟨vs, hs⟩, q φ1 (Itt X.K a) H1 (Px.refl φ1) (Kp.refl H1) h1 (itOk_seq fun i φ' mh' H' p' k' _ _ => ?_)⟩)
    have hs' := k'.seqT hs
    refine ⟨vs, rs.mono p' k', fun v hv => ⟨⟨vs, v, hs', hv⟩, fun x H2 y => ⟨y.1, ?_⟩⟩, fun hl => ⟨vs, hs', hl⟩⟩
    have := y.2 vs hs'
    rw [hv] at this
    exact (Option.some.inj this).symm
  | rol hs rs =>
    rename_i a xs vs
    refine .inl ⟨a, rfl, ⟨vs, hs.seq⟩, q φ1 (Itl X.K a) H1 (Px.refl φ1) (Kp.refl H1) h1 (itOk_seq fun i φ' mh' H' p' k' _ _ => ?_)⟩
    have hs' := (k'.roL hs).seq
    refine ⟨vs, rs.mono p' k', fun v hv => ⟨⟨vs, v, hs', hv⟩, fun x H2 y => ⟨y.1, ?_⟩⟩, fun hl => ⟨vs, hs', hl⟩⟩
    have := y.2 vs hs'
    rw [hv] at this
    exact (Option.some.inj this).symm
  | ref hn =>
    rename_i n a
    try simp only [itD] at q
    split at q
    · rename_i it hit
      split at hit
      · rename_i xs hx
        cases hit
        obtain ⟨vs, e1, rs⟩ := h1.lst hn hx
        refine .inl ⟨a, rfl, ⟨vs, SqL.of e1⟩, q φ1 (Itl X.K a) H1 (Px.refl φ1) (Kp.refl H1) h1 (itOk_seq fun i φ' mh' H' p' k' hh' hc => ?_)⟩
        have hc' : lstIs n xs mh' = true := hc
        unfold lstIs at hc'
        split at hc'
        · rename_i ys hy
          have ey : ys = xs := of_decide_eq_true hc'
          subst ey
          obtain ⟨ws, e2, rs2⟩ := hh'.lst (p'.get hn) hy
          have hs' : SqL X.K H' a ws := SqL.of e2
          refine ⟨ws, rs2, fun v hv => ⟨⟨ws, v, hs', hv⟩, fun x H2 y => ⟨y.1, ?_⟩⟩, fun hl => ⟨ws, hs', hl⟩⟩
          have := y.2 ws hs'
          rw [hv] at this
          exact (Option.some.inj this).symm
        · cases hc'
      · cases hit
    · exact q.elim
  | _ => exact q.elim)
/-- range(n), range(a, b) -/
def rgD (lo : Int) (n : Nat) : List D := (List.range n).map fun i => .int (lo + (i : Nat))
def okB (i : Int) : Bool := decide (-(2 ^ 62) ≤ i ∧ i < 2 ^ 62)
def range1 (f : ME) : MI := fun env mh => (f env mh).bind fun d mh1 => match d with
  | .int j => if okB j = true then .ok ⟨rgD 0 j.toNat, fun _ => true⟩ mh1 else .no
  | _ => .no
def range2 (f g : ME) : MI := fun env mh => (f env mh).bind fun d mh1 => (g env mh1).bind fun e mh2 => match d, e with
  | .int i, .int j => if okB i = true ∧ okB j = true then .ok ⟨rgD i (j - i).toNat, fun _ => true⟩ mh2 else .no
  | _, _ => .no
theorem itOk_range {φ : List Addr} {H : Hp} (lo : Int) (n : Nat) : ItOk X.K φ H ⟨rgD lo n, fun _ => true⟩ (Itr lo n) := by
  intro i φ' mh' H' _ _ hh _
  refine ⟨fun d hd => ?_, fun hl => ?_⟩
  · have hi : i < n := by
      have := (List.getElem?_eq_some_iff.mp hd).1
      simpa [rgD] using this
    have ed : d = .int (lo + (i : Nat)) := by
      simp [rgD, hi] at hd
      exact hd.symm
    subst ed
    refine ⟨hi, fun x H2 y => ?_⟩
    obtain ⟨e1, e2⟩ := y
    subst e1; subst e2
    exact ⟨Kp.refl _, hh, .int _⟩
  · show n ≤ i
    simpa [rgD] using hl
theorem si_range1 {e : Expr} {f : ME} {p pos : Pos} (hm : X.mg "range" = none) (he : SE X W e f) (hg : Gl X "range" := by rfl) (hs : starEach [e] X.env = [(false, eval e X.env)] := by rfl) (hst : starEach (e :: []) X.env = (false, eval e X.env) :: starEach [] X.env := by rfl) :
    SI X W tg (.Call (.Name "range" p) [e] [] pos) (range1 f) := (pi_range1 hg hm (pa_cons he pa_nil hst) hs).imp (by
  rintro σ H R ⟨φ, env, mh, re, hh, p⟩
  refine ⟨φ, env, mh, re, hh, post_mono (Px.refl φ) (Kp.refl H) (post_bind (R1 := RelD X.K) p) ?_⟩
  rintro x H1 ⟨φ1, d, mh1, p1, k1, h1, r1, q⟩
  cases r1 with
  | int j =>
    try simp only at q
    split at q
    · rename_i hb
      obtain ⟨b1, b2⟩ := of_decide_eq_true hb
      exact ⟨j, rfl, b1, b2, q φ1 _ H1 (Px.refl φ1) (Kp.refl H1) h1 (itOk_range 0 j.toNat)⟩
    · exact q.elim
  | _ => exact q.elim)
theorem si_range2 {e e2 : Expr} {f g : ME} {p pos : Pos} (hm : X.mg "range" = none) (he : SE X W e f) (he2 : SE X W e2 g) (hg : Gl X "range" := by rfl) (hs : starEach [e, e2] X.env = [(false, eval e X.env), (false, eval e2 X.env)] := by rfl) (hs2 : starEach [e2] X.env = [(false, eval e2 X.env)] := by rfl)
    (hst : starEach (e :: [e2]) X.env = (false, eval e X.env) :: starEach [e2] X.env := by rfl) (hst2 : starEach (e2 :: []) X.env = (false, eval e2 X.env) :: starEach [] X.env := by rfl) :
    SI X W tg (.Call (.Name "range" p) [e, e2] [] pos) (range2 f g) := (pi_range2 hg hm (pa_cons he (pa_cons he2 pa_nil hst2) hst) hs hs2).imp (by
  rintro σ H R ⟨φ, env, mh, re, hh, p⟩
  refine ⟨φ, env, mh, re, hh, post_mono (Px.refl φ) (Kp.refl H) (post_bind (R1 := RelD X.K) p) ?_⟩
  rintro x H1 ⟨φ1, d, mh1, p1, k1, h1, r1, q⟩
  refine ⟨φ1, env, mh1, re.mono p1 k1, h1, post_mono (Px.refl φ1) (Kp.refl H1) (post_bind (R1 := RelD X.K) q) ?_⟩
  rintro y H2 ⟨φ2, d2, mh2, p2, k2, h2, r2, q2⟩
  cases r1 with
  | int i =>
    cases r2 with
    | int j =>
      try simp only at q2
      split at q2
      · rename_i hb
        obtain ⟨b1, b2⟩ := of_decide_eq_true hb.1
        obtain ⟨b3, b4⟩ := of_decide_eq_true hb.2
        exact ⟨i, j, rfl, ⟨b1, b2, b3, b4⟩, q2 φ2 _ H2 (Px.refl φ2) (Kp.refl H2) h2 (itOk_range i (j - i).toNat)⟩
      · exact q2.elim
    | _ => exact q2.elim
  | _ => cases r2 <;> exact q2.elim)
end
end Det
/-! Det, part H: sorted, least and greatest. -/
namespace Det
open PySem PySem.Spec PyProof.Rows L2

/-! ### sorted -/
def ins {α : Type} (le : α → α → Bool) (a : α) : List α → List α
  | [] => [a]
  | b :: l => if le a b = true then a :: b :: l else b :: ins le a l
def isort {α : Type} (le : α → α → Bool) : List α → List α
  | [] => []
  | a :: l => ins le a (isort le l)
theorem ins_eq {α : Type} {le : α → α → Bool} {a : α} : ∀ {l₁ l₂ : List α}, (∀ b ∈ l₁, (!le a b) = true) → (∀ b, l₂.head? = some b → le a b = true) → ins le a (l₁ ++ l₂) = l₁ ++ a :: l₂
  | [], [], _, _ => rfl
  | [], b :: l, _, h => by
    show (if le a b = true then _ else _) = _
    rw [if_pos (h b rfl)]; rfl
  | c :: l₁, l₂, h1, h2 => by
    have hc : ¬ le a c = true := by have := h1 c List.mem_cons_self; simpa using this
    show (if le a c = true then _ else c :: ins le a (l₁ ++ l₂)) = _
    rw [if_neg hc, ins_eq (fun b hb => h1 b (List.mem_cons_of_mem _ hb)) h2]
    rfl
theorem isort_eq {α : Type} {le : α → α → Bool} (tr : ∀ a b c, le a b = true → le b c = true → le a c = true) (to : ∀ a b, (le a b || le b a) = true) : ∀ l : List α, l.mergeSort le = isort le l
  | [] => by simp [isort]
  | a :: l => by
    obtain ⟨l₁, l₂, h1, h2, h3⟩ := List.mergeSort_cons (le := le) tr to a l
    rw [h1]
    show l₁ ++ a :: l₂ = ins le a (isort le l)
    rw [← isort_eq tr to l, h2]
    refine (ins_eq h3 fun b hb => ?_).symm
    have hs := List.pairwise_mergeSort (le := le) tr to (a :: l)
    rw [h1, List.pairwise_append] at hs
    match l₂, hb, hs with
    | c :: l₂, hb, hs =>
      have e : c = b := Option.some.inj hb
      subst e
      exact (List.pairwise_cons.mp hs.2.1).1 c List.mem_cons_self
/-- data of a value that holds no lists -/
def datP (d : D) : PyData := (datD [] 60 d).getD .none
def leD (a b : D) : Bool := PySem.W.dataLe false datP a b
def notT : PyData → Bool
  | .none => false
  | .tuple _ => false
  | _ => true
def tupNE : PyData → Bool
  | .tuple (_ :: _) => true
  | _ => false
def okSort (xs : List D) : Bool := xs.all (fun d => (datD [] 60 d).isSome && decide ((datP d).depth ≤ 60)) && xs.all (fun d => xs.all fun e => PySem.W.alike (datP d) (datP e)) && (xs.all (fun d => tupNE (datP d)) || xs.all (fun d => notT (datP d))) && decide (xs.length ≤ sizeLine)
def oSorted : OpA := fun as mh => match as with
  | [a] => match itemsD mh a with
    | some xs => if okSort xs = true then some (.ref mh.length, mh ++ [.lst (isort leD xs)]) else none
    | none => none
  | _ => none
theorem leD_total : PySem.W.TotalLe leD := PySem.W.sortLe_total (listOrd itemOrd) false fun b => PySem.W.keyToks (datP b)
theorem each_vals {K : PySem.W.Frag} {φ : List Addr} {H : Hp} : ∀ {ds : List D} {vs : List V} {us : List Value}, RelDs K φ H ds vs → Vals vs us → PySem.W.EachIs (fun u d => ∃ v, RelV v u ∧ RelD K φ H d v) us ds
  | _, _, _, .nil, .nil => .nil
  | _, _, _, .cons h t, .cons r s => .cons ⟨_, r, h⟩ (each_vals t s)
theorem vals_each {K : PySem.W.Frag} {φ : List Addr} {H : Hp} : ∀ {us : List Value} {ds : List D}, PySem.W.EachIs (fun u d => ∃ v, RelV v u ∧ RelD K φ H d v) us ds → ∃ vs, RelDs K φ H ds vs ∧ Vals vs us
  | _, _, .nil => ⟨[], .nil, .nil⟩
  | _, _, .cons ⟨v, r, h⟩ t => by
    obtain ⟨vs, a, b⟩ := vals_each t
    exact ⟨v :: vs, .cons h a, .cons r b⟩
theorem each_and {α β : Type} {R : α → β → Prop} {p : β → Prop} : ∀ {as : List α} {bs : List β}, PySem.W.EachIs R as bs → (∀ b ∈ bs, p b) → PySem.W.EachIs (fun a b => R a b ∧ p b) as bs
  | _, _, .nil, _ => .nil
  | _, _, .cons r t, h => .cons ⟨r, h _ List.mem_cons_self⟩ (each_and t fun b hb => h b (List.mem_cons_of_mem _ hb))
theorem each_imp {α β : Type} {R R' : α → β → Prop} (f : ∀ a b, R a b → R' a b) : ∀ {as : List α} {bs : List β}, PySem.W.EachIs R as bs → PySem.W.EachIs R' as bs
  | _, _, .nil => .nil
  | _, _, .cons r t => .cons (f _ _ r) (each_imp f t)
theorem datP_ok {K : PySem.W.Frag} {φ : List Addr} {H : Hp} {d : D} {v : V} (h : (datD [] 60 d).isSome = true) (r : RelD K φ H d v) : Dp K H v (datP d) := by
  have go : ∀ (n : Nat) (d : D) (v : V) (p : PyData), RelD K φ H d v → datD [] n d = some p → Dp K H v p := by
    intro n
    induction n with
    | zero =>
      intro d v p r e
      cases r with
      | non => cases e; exact .non
      | bl b => cases e; exact .bl b
      | int i => cases e; exact .int i
      | str x => cases e; exact .str x
      | _ => cases e
    | succ n ih =>
      intro d v p r e
      cases r with
      | non => cases e; exact .non
      | bl b => cases e; exact .bl b
      | int i => cases e; exact .int i
      | str x => cases e; exact .str x
      | tup hs t =>
        simp only [datD] at e
        cases h2 : List.mapM (datD [] n) ‹List D› with
        | none => rw [h2] at e; cases e
        | some qs =>
          rw [h2] at e
          cases e
          exact .tup hs (mapM_dat ih t h2)
      | rol hs t =>
        simp only [datD] at e
        cases h2 : List.mapM (datD [] n) ‹List D› with
        | none => rw [h2] at e; cases e
        | some qs =>
          rw [h2] at e
          cases e
          exact .lst hs.seq (mapM_dat ih t h2)
      | ref hn => simp [datD] at e
      | _ => cases e
  unfold datP
  cases e : datD [] 60 d with
  | none => rw [e] at h; cases h
  | some p => exact go 60 d v p r e
section
variable {X : Cx}
theorem okSort_parts {xs : List D} (h : okSort xs = true) : (∀ d ∈ xs, (datD [] 60 d).isSome = true ∧ (datP d).depth ≤ 60) ∧ PySem.W.AllAlike (xs.map datP) ∧ PySem.W.Sortable (xs.map datP) ∧ xs.length ≤ sizeLine := by
  unfold okSort at h
  rw [Bool.and_eq_true, Bool.and_eq_true, Bool.and_eq_true] at h
  obtain ⟨⟨⟨h1, h2⟩, h3⟩, h4⟩ := h
  rw [List.all_eq_true] at h1 h2
  refine ⟨fun d hd => ?_, fun p hp q hq => ?_, ?_, of_decide_eq_true h4⟩
  · have := h1 d hd
    rw [Bool.and_eq_true] at this
    exact ⟨this.1, of_decide_eq_true this.2⟩
  · obtain ⟨d, hd, rfl⟩ := List.mem_map.mp hp
    obtain ⟨e, he, rfl⟩ := List.mem_map.mp hq
    exact List.all_eq_true.mp (h2 d hd) e he
  · rw [Bool.or_eq_true] at h3
    rcases h3 with h3 | h3
    · refine .inl fun p hp => ?_
      obtain ⟨d, hd, rfl⟩ := List.mem_map.mp hp
      have := List.all_eq_true.mp h3 d hd
      unfold tupNE at this
      split at this
      · rename_i x r e; exact ⟨x, r, e⟩
      · cases this
    · refine .inr fun p hp => ?_
      obtain ⟨d, hd, rfl⟩ := List.mem_map.mp hp
      have := List.all_eq_true.mp h3 d hd
      unfold notT at this
      split at this
      · cases this
      · cases this
      · rename_i h1 h2; exact ⟨h1, h2⟩
/-- the items of a tuple, gathered into a new list -/
theorem gather_tup {prog : Program} {w : World} {A : Around} {E : Value → Shared → Prop} {s : Shared} {t : Addr} {its : List Value} {Q : List Value → Shared → Prop} (ht : IsTup s.heap t its.toArray) (hz : its.length ≤ sizeLine)
    (h : Q its { s with heap := (s.heap.push (seqObj "list" #[] 0)).update s.heap.objs.size (Obj.mapSeq (· ++ its.toArray)) }) : wpAny (model prog w) A (collect (.ref t)) Q E s := by
  obtain ⟨o, ho, hc, n, hd⟩ := ht
  have ho' : (s.heap.push (seqObj "list" #[] 0)).get? t = some o := Heap.get?_push_of_some _ ho
  have hnew : (s.heap.push (seqObj "list" #[] 0)).get? s.heap.objs.size = some (seqObj "list" #[] 0) := Heap.get?_push_size _ rfl
  unfold collect
  refine wpAny_bind (wpAny_runValue (codeAny_builtin entry_proto_collect' ?_))
  refine wpAny_bind (wpAny_newList (wpAny_pure ⟨Code.quiet_builtin _ (by decide +kernel), codeAny_builtin entry_list_iadd' ?_⟩))
  have tt : (Value.type "tuple" == Value.type "tuple") = true := by rfl
  show wpAny _ _ (Builtin.List.listExtendWith (.ref s.heap.objs.size) (.ref t) (.ref s.heap.objs.size)) _ _ _
  unfold Builtin.List.listExtendWith
  refine wpAny_bind (wpAny_typeOf (T := "tuple") ⟨o, ho', hc⟩ ?_)
  rw [if_pos (by rw [tt, Bool.or_true])]
  refine wpAny_bind (listItems_at ho' hd (wpAny_bind (listItems_at hnew rfl ?_)))
  rw [if_neg (by simp)]
  have hz2 : ((#[] : Array Value) ++ its.toArray).size ≤ sizeLine + 1 := by
    rw [Array.size_append, List.size_toArray]
    exact Nat.le_succ_of_le (by simpa using hz)
  refine wpAny_bind (listUpdate_at hnew rfl (wpAny_pure ?_) (Nat.zero_le _) hz2)
  refine wpAny_bind (wpAny_load (get?_update_seq hnew _) ?_)
  have e0 : ((#[] : Array Value) ++ its.toArray).toList = its := by simp
  show wpAny _ _ (pure ((#[] : Array Value) ++ its.toArray).toList) Q E _
  rw [e0]
  exact wpAny_pure h
/-- sorted(t), t a tuple -/
theorem sorted_tup {β : Type} {prog : Program} {w : World} {A : Around} {E : Value → Shared → Prop} {s : Shared} {t : Addr} {its : List Value} {bs : List β} {enc : β → PyData} {R : Value → β → Prop} {Q : Value → Shared → Prop} (ht : IsTup s.heap t its.toArray)
    (e : PySem.W.EachIs R its bs) (er : PySem.W.EachIs (fun v b => ∃ as, Reads s.heap v (enc b) as) its bs) (hal : PySem.W.AllAlike (bs.map enc)) (hk : PySem.W.Sortable (bs.map enc)) (hL : bs.length ≤ sizeLine) (hu : ∀ b, b ∈ bs → A.units + 2 + (enc b).depth < cLine)
    (h : ∀ out, out.length = bs.length → PySem.W.EachIs R out (bs.mergeSort (PySem.W.dataLe false enc)) → Q (.ref (s.heap.objs.size + 1)) { s with heap := sortedAll s.heap its (List.toArray out) }) : wpAny (model prog w) A (call (.builtin "sorted") [.ref t]) Q E s := by
  have hz : its.length ≤ sizeLine := by rw [e.length]; exact hL
  have h2 : PySem.W.EachIs (fun v b => ∃ as, Reads (PySem.W.sortingHeap (PySem.W.copyHeap s.heap its) (s.heap.objs.size + 1) its) v (enc b) as) its bs :=
    each_imp (fun v b ⟨as, r⟩ => ⟨as, PyProof.Rows.Reads.keeps (fun _ _ => PySem.W.sorting_copy_old) r⟩) er
  have S := PySem.W.SortsAt.data (prog := prog) (w := w) (A := A.in1.in1) (s := { s with heap := PySem.W.sortingHeap (PySem.W.copyHeap s.heap its) (s.heap.objs.size + 1) its }) (PySem.W.each_map (R := fun v d => ∃ as, Reads (PySem.W.sortingHeap (PySem.W.copyHeap s.heap its) (s.heap.objs.size + 1) its) v d as) enc h2) hal hk
    (fun d hd => by
      obtain ⟨b, hb, rfl⟩ := List.mem_map.mp hd
      exact hu b hb)
  have n1 : ((s.heap.push (seqObj "list" #[] 0)).update s.heap.objs.size (Obj.mapSeq (· ++ its.toArray))).objs.size = s.heap.objs.size + 1 := by
    rw [Heap.size_update, size_push']
  refine PyProof.Rows.call_function_entry_kw kind_sorted plain_sorted entry_sorted (args_sorted1 _) ?_
  unfold Builtin.«sorted»
  refine wpAny_bind (m := checkCount "sorted" 1 1 _) (wpAny_pure (wpAny_bind (gather_tup ht hz (wpAny_bind (wpAny_newList ?_ hz)))))
  show wpAny _ _ _ _ _ { s with heap := PySem.W.copyHeap s.heap its }
  rw [n1]
  refine wpAny_bind (wpAny_holding (wpAny_call_entry_kw slot_list_sort ⟨_, PySem.W.copyHeap_at s.heap its, rfl⟩ entry_list_sort ?body (args_list_sort _)))
  case body =>
    refine wpAny_mono (PySem.W.list_sort_vals (prog := prog) (w := w) (A := A.in1.in1) (E := fun _ _ => False) (P := fun f s' => f = .done (.ret .none) ∧ Q (.ref (s.heap.objs.size + 1)) s') (s := { s with heap := PySem.W.copyHeap s.heap its }) (PySem.W.copyHeap_at s.heap its) S hz
      ⟨rfl, h _ (by rw [PySem.W.sortVals_length false rfl]; exact e.length) (PySem.W.sortVals_data false e h2 hal)⟩) (fun f s' hf => ?_) fun _ _ x => x.elim
    obtain ⟨rfl, hq⟩ := hf
    exact ⟨_, rfl, wpAny_pure ⟨_, rfl, hq⟩⟩
theorem r_sorted (hu : X.A.units + 64 < cLine) : CallR X (.builtin "sorted") (iRA X.K oSorted) := by
  rintro pins s σ H xs us Q I r ⟨φ, mh, as, ra, hh, p⟩
  unfold oSorted at p
  split at p
  · rename_i a
    obtain ⟨v, rfl, rv⟩ := ra.one
    cases h : itemsD mh a with
    | none => rw [h] at p; exact p.elim
    | some ds =>
      simp only [h] at p
      split at p
      · rename_i hok
        obtain ⟨k1, k2, k3, k4⟩ := okSort_parts hok
        obtain ⟨pp, vs, ev, hs, rs⟩ := seq_of hh rv h
        subst ev
        obtain ⟨u, rfl, ru⟩ := Vals.one r
        cases ru
        -- what is known of the items, whichever it is
        have main : ∀ (its : List Value), Vals vs its → (∀ out : List Value, True) → ∀ (out : List Value), PySem.W.EachIs (fun u d => ∃ v, RelV v u ∧ RelD X.K φ H d v) out (ds.mergeSort (PySem.W.dataLe false datP)) → out.length = ds.length →
            EP X pins σ Q (.ref (s.heap.objs.size + 1)) { s with heap := sortedAll s.heap its (List.toArray out) } := by
          intro its _ _ out eo lo
          rw [show PySem.W.dataLe false datP = leD from rfl, isort_eq (fun a b c => leD_total.trans a b c) (fun a b => by have := leD_total.total a b; simpa using this)] at eo
          obtain ⟨ws, r1, r2⟩ := vals_each eo
          obtain ⟨ep, he'⟩ := sortedAll_at s.heap its (List.toArray out)
          have hfree : H (s.heap.objs.size + 1) = none := I.hok.fresh (Nat.le_succ _)
          refine ⟨.ref (s.heap.objs.size + 1), _, I.laid (t' := s.toks) (o := .lst ws) (fun _ _ => sortedAll_old) (Nat.le_succ _) ⟨?_, out, ep, r2, he'⟩, rfl, postO_new hh p r1 hfree⟩
          rw [r2.length, lo]; exact k4
        have rd : ∀ its : List Value, Vals vs its → PySem.W.EachIs (fun v b => ∃ as, Reads s.heap v (datP b) as) its ds := fun its rv2 =>
          each_imp (fun u d hq => by
            obtain ⟨⟨v, h1, h2⟩, h3⟩ := hq
            exact Dp.reads I (datP d) v u (datP_ok h3 h2) h1) (each_and (each_vals rs rv2) fun d hd => (k1 d hd).1)
        have un : ∀ d ∈ ds, X.A.units + 2 + (datP d).depth < cLine := fun d hd => by
          have := (k1 d hd).2
          omega
        rcases hs with hs | hs
        · obtain ⟨its, rv2, hl, _⟩ := I.list hs
          exact PySem.W.sorted_data hl.isList (each_vals rs rv2) (rd its rv2) k2 k3 k4 un fun out lo eo => main its rv2 (fun _ => trivial) out eo lo
        · obtain ⟨its, rv2, ht, _⟩ := I.tuple hs
          exact sorted_tup ht (each_vals rs rv2) (rd its rv2) k2 k3 k4 un fun out lo eo => main its rv2 (fun _ => trivial) out eo lo
      · exact p.elim
  · exact p.elim
end
end Det
/-! Det, part I: the lesser and the greater of two, count, a tuple turned about. -/
namespace Det
open PySem PySem.Spec PyProof.Rows L2

section
variable {prog : Program} {w : World} {A : Around} {E : Value → Shared → Prop} {s : Shared}
theorem min2S {a b : Str} {t u : Tok} {Q : Value → Shared → Prop} (hh : A.handled = none)
    (h : ∀ h' tk, (∀ c o, s.heap.get? c = some o → h'.get? c = some o) → Q (if ltS b a = true then Value.str b u else Value.str a t) { s with heap := h', toks := tk }) :
    wpAny (model prog w) A (call (.builtin "min") [Value.str a t, Value.str b u]) Q E s := by
  have n1 : (s.heap.push { cls := .type "tuple", data := .seq #[Value.str a t, Value.str b u] }).objs.size = s.heap.objs.size + 1 := Heap.size_push ..
  have hT : (s.heap.push { cls := .type "tuple", data := .seq #[Value.str a t, Value.str b u] }).IsTuple s.heap.objs.size #[Value.str a t, Value.str b u] := ⟨_, Heap.get?_push_size _ rfl, rfl, 0, rfl⟩
  have hP : ∀ (i : Nat) (v : Value), (#[Value.str a t, Value.str b u] : Array Value)[i]? = some v → ∃ tk, v = .str (if i = 0 then a else b) tk := by
    intro i v e
    match i, e with
    | 0, e => cases e; exact ⟨t, rfl⟩
    | 1, e => cases e; exact ⟨u, rfl⟩
    | i + 2, e => simp at e
  have hcmp : CmpOf prog w A.in1 .Lt (fun (i : Nat) (v : Value) => (#[Value.str a t, Value.str b u] : Array Value)[i]? = some v) (fun (i j : Nat) => ltS (if i = 0 then a else b) (if j = 0 then a else b)) := fun i j vi vj s Q E hi hj hq => by
    obtain ⟨t1, rfl⟩ := hP i vi hi
    obtain ⟨t2, rfl⟩ := hP j vj hj
    exact richCompare_gives (op := .Lt) (typeIs_str s _ t1) (typeIs_str s _ t2) F.slot_str_lt F.entry_str_lt (F.args_str_lt_2 _ _) (gives_str_lt _ _ t1 t2) (fun x => nomatch x) hq
  refine call_min_two (wpAny_pyIter_tuple hT ?_)
  refine ⟨_, [_, s.heap.objs.size], [_], _, _, _, _, rfl, Walks.tuple (A := A.in1) hh _ s.heap.objs.size (by rw [n1]; exact Nat.ne_of_lt (Nat.lt_succ_self _)) #[Value.str a t, Value.str b u],
    ⟨⟨_, Heap.get?_push_size _ rfl, rfl, rfl⟩, hT.push _⟩, fun c hc => ?_, by simp, hcmp, fun v h' tk hv hk => ?_⟩
  · have n2 : ((s.heap.push { cls := .type "tuple", data := .seq #[Value.str a t, Value.str b u] }).push { cls := .type "tuple_iterator", data := .fields #[.ref s.heap.objs.size, rawInt 0] }).objs.size = s.heap.objs.size + 1 + 1 := by rw [Heap.size_push, n1]
    have hc' : c = s.heap.objs.size + 1 ∨ c = s.heap.objs.size := by
      rcases List.mem_cons.mp hc with e | e
      · exact .inl (by rw [e, n1])
      · exact .inr (List.mem_singleton.mp e)
    show c < ((s.heap.push _).push _).objs.size
    rw [Heap.size_push, n1]
    rcases hc' with e | e
    · rw [e]; exact Nat.lt_succ_self _
    · rw [e]; exact Nat.lt_succ_of_lt (Nat.lt_succ_self _)
  · have keep : ∀ c o, s.heap.get? c = some o → h'.get? c = some o := fun c o e => hk c o (fun hm => by
      have e1 := List.mem_singleton.mp hm
      have := Heap.lt_size e
      rw [e1, n1] at this
      exact Nat.lt_irrefl _ (Nat.lt_of_succ_lt this)) (Heap.get?_push_of_some _ (Heap.get?_push_of_some _ e))
    have q := h h' tk keep
    have e2 : v = if ltS b a = true then Value.str b u else Value.str a t := by
      cases hc : ltS b a with
      | true =>
        have ev : (#[Value.str a t, Value.str b u] : Array Value)[1]? = some v := by
          have : argBest (fun (i j : Nat) => ltS (if i = 0 then a else b) (if j = 0 then a else b)) 1 = 1 := by
            show (if (ltS (if 1 = 0 then a else b) (if 0 = 0 then a else b)) = true then 1 else 0) = 1
            rw [if_pos]; simpa using hc
          rw [← this]; exact hv
        simpa using ev.symm
      | false =>
        have ev : (#[Value.str a t, Value.str b u] : Array Value)[0]? = some v := by
          have : argBest (fun (i j : Nat) => ltS (if i = 0 then a else b) (if j = 0 then a else b)) 1 = 0 := by
            show (if (ltS (if 1 = 0 then a else b) (if 0 = 0 then a else b)) = true then 1 else 0) = 0
            rw [if_neg]; simpa using hc
          rw [← this]; exact hv
        simpa using ev.symm
    rw [e2]; exact q
theorem max2S {a b : Str} {t u : Tok} {Q : Value → Shared → Prop} (hh : A.handled = none)
    (h : ∀ h' tk, (∀ c o, s.heap.get? c = some o → h'.get? c = some o) → Q (if ltS a b = true then Value.str b u else Value.str a t) { s with heap := h', toks := tk }) :
    wpAny (model prog w) A (call (.builtin "max") [Value.str a t, Value.str b u]) Q E s := by
  have n1 : (s.heap.push { cls := .type "tuple", data := .seq #[Value.str a t, Value.str b u] }).objs.size = s.heap.objs.size + 1 := Heap.size_push ..
  have hT : (s.heap.push { cls := .type "tuple", data := .seq #[Value.str a t, Value.str b u] }).IsTuple s.heap.objs.size #[Value.str a t, Value.str b u] := ⟨_, Heap.get?_push_size _ rfl, rfl, 0, rfl⟩
  have hP : ∀ (i : Nat) (v : Value), (#[Value.str a t, Value.str b u] : Array Value)[i]? = some v → ∃ tk, v = .str (if i = 0 then a else b) tk := by
    intro i v e
    match i, e with
    | 0, e => cases e; exact ⟨t, rfl⟩
    | 1, e => cases e; exact ⟨u, rfl⟩
    | i + 2, e => simp at e
  have hcmp : CmpOf prog w A.in1 .Gt (fun (i : Nat) (v : Value) => (#[Value.str a t, Value.str b u] : Array Value)[i]? = some v) (fun (i j : Nat) => ltS (if j = 0 then a else b) (if i = 0 then a else b)) := fun i j vi vj s Q E hi hj hq => by
    obtain ⟨t1, rfl⟩ := hP i vi hi
    obtain ⟨t2, rfl⟩ := hP j vj hj
    exact richCompare_gives (op := .Gt) (typeIs_str s _ t1) (typeIs_str s _ t2) F.slot_str_gt F.entry_str_gt (F.args_str_gt_2 _ _) (gives_str_gt _ _ t1 t2) (fun x => nomatch x) hq
  refine call_max_two (wpAny_pyIter_tuple hT ?_)
  refine ⟨_, [_, s.heap.objs.size], [_], _, _, _, _, rfl, Walks.tuple (A := A.in1) hh _ s.heap.objs.size (by rw [n1]; exact Nat.ne_of_lt (Nat.lt_succ_self _)) #[Value.str a t, Value.str b u],
    ⟨⟨_, Heap.get?_push_size _ rfl, rfl, rfl⟩, hT.push _⟩, fun c hc => ?_, by simp, hcmp, fun v h' tk hv hk => ?_⟩
  · have n2 : ((s.heap.push { cls := .type "tuple", data := .seq #[Value.str a t, Value.str b u] }).push { cls := .type "tuple_iterator", data := .fields #[.ref s.heap.objs.size, rawInt 0] }).objs.size = s.heap.objs.size + 1 + 1 := by rw [Heap.size_push, n1]
    have hc' : c = s.heap.objs.size + 1 ∨ c = s.heap.objs.size := by
      rcases List.mem_cons.mp hc with e | e
      · exact .inl (by rw [e, n1])
      · exact .inr (List.mem_singleton.mp e)
    show c < ((s.heap.push _).push _).objs.size
    rw [Heap.size_push, n1]
    rcases hc' with e | e
    · rw [e]; exact Nat.lt_succ_self _
    · rw [e]; exact Nat.lt_succ_of_lt (Nat.lt_succ_self _)
  · have keep : ∀ c o, s.heap.get? c = some o → h'.get? c = some o := fun c o e => hk c o (fun hm => by
      have e1 := List.mem_singleton.mp hm
      have := Heap.lt_size e
      rw [e1, n1] at this
      exact Nat.lt_irrefl _ (Nat.lt_of_succ_lt this)) (Heap.get?_push_of_some _ (Heap.get?_push_of_some _ e))
    have q := h h' tk keep
    have e2 : v = if ltS a b = true then Value.str b u else Value.str a t := by
      cases hc : ltS a b with
      | true =>
        have ev : (#[Value.str a t, Value.str b u] : Array Value)[1]? = some v := by
          have : argBest (fun (i j : Nat) => ltS (if j = 0 then a else b) (if i = 0 then a else b)) 1 = 1 := by
            show (if (ltS (if 0 = 0 then a else b) (if 1 = 0 then a else b)) = true then 1 else 0) = 1
            rw [if_pos]; simpa using hc
          rw [← this]; exact hv
        simpa using ev.symm
      | false =>
        have ev : (#[Value.str a t, Value.str b u] : Array Value)[0]? = some v := by
          have : argBest (fun (i j : Nat) => ltS (if j = 0 then a else b) (if i = 0 then a else b)) 1 = 0 := by
            show (if (ltS (if 0 = 0 then a else b) (if 1 = 0 then a else b)) = true then 1 else 0) = 0
            rw [if_neg]; simpa using hc
          rw [← this]; exact hv
        simpa using ev.symm
    rw [e2]; exact q
end
section
variable {X : Cx} {W : WX}
def oMin2 : OpA := fun as mh => match as with
  | [.int i, .int j] => some (.int (if j < i then j else i), mh)
  | [.str x, .str y] => some (.str (if ltS y x = true then y else x), mh)
  | _ => none
def oMax2 : OpA := fun as mh => match as with
  | [.int i, .int j] => some (.int (if j > i then j else i), mh)
  | [.str x, .str y] => some (.str (if ltS x y = true then y else x), mh)
  | _ => none
theorem r_min2 (hc : X.calm = true) : CallR X (.builtin "min") (iRA X.K oMin2) := by
  rintro pins s σ H xs us Q I r ⟨φ, mh, as, ra, hh, p⟩
  unfold oMin2 at p
  split at p
  · obtain ⟨v, v2, rfl, rv, rw'⟩ := ra.two
    cases rv; cases rw'
    exact call_min2 hc pins s σ H _ us Q I r ⟨_, _, rfl, postO_val hh p (.int _)⟩
  · rename_i x y
    obtain ⟨v, v2, rfl, rv, rw'⟩ := ra.two
    cases rv; cases rw'
    obtain ⟨u1, u2, rfl, ⟨t1, rfl⟩, ⟨t2, rfl⟩⟩ := Vals.two r
    refine min2S (I.ok.hd hc) fun h' tk k => ⟨.str (if ltS y x = true then y else x), H, I.kept k, ?_, postO_val hh p (.str _)⟩
    by_cases hl : ltS y x = true
    · rw [if_pos hl, if_pos hl]; exact ⟨_, rfl⟩
    · rw [if_neg hl, if_neg hl]; exact ⟨_, rfl⟩
  · exact p.elim
theorem r_max2 (hc : X.calm = true) : CallR X (.builtin "max") (iRA X.K oMax2) := by
  rintro pins s σ H xs us Q I r ⟨φ, mh, as, ra, hh, p⟩
  unfold oMax2 at p
  split at p
  · obtain ⟨v, v2, rfl, rv, rw'⟩ := ra.two
    cases rv; cases rw'
    exact call_max2 hc pins s σ H _ us Q I r ⟨_, _, rfl, postO_val hh p (.int _)⟩
  · rename_i x y
    obtain ⟨v, v2, rfl, rv, rw'⟩ := ra.two
    cases rv; cases rw'
    obtain ⟨u1, u2, rfl, ⟨t1, rfl⟩, ⟨t2, rfl⟩⟩ := Vals.two r
    refine max2S (I.ok.hd hc) fun h' tk k => ⟨.str (if ltS x y = true then y else x), H, I.kept k, ?_, postO_val hh p (.str _)⟩
    by_cases hl : ltS x y = true
    · rw [if_pos hl, if_pos hl]; exact ⟨_, rfl⟩
    · rw [if_neg hl, if_neg hl]; exact ⟨_, rfl⟩
  · exact p.elim
end
end Det
/-! Det, part J: sorted(set(xs)), len(set(xs)) of ints and texts. -/
namespace Det
open PySem PySem.Spec PyProof.Rows L2

/-- the key that an entry bears -/
def keyAt (z : Int × Value) : Key := match z.2 with
  | .int i _ => .inl i
  | .str x _ => .inr x
  | _ => .inl 0
def KeyE (w : World) (z : Int × Value) : Prop := ∃ y : Key, keyIs y z.2 = true ∧ z.1 = keyH w y
/-- the set of keys at a: ys its members, once each, in no order -/
def SetG (w : World) (h : Heap) (a : Addr) (ys : List Key) : Prop :=
  ∃ ob rows stamp tab, h.get? a = some ob ∧ ob.ExactSet ∧ ob.data = .set rows stamp tab ∧ (∀ z ∈ rows.toList, KeyE w z) ∧ (rows.toList.map keyAt).Perm ys ∧ ys.Nodup ∧
    rows.size < scanBound ∧ tab.fits rows.size = true ∧ Ris tab.place.toList ∧ (w.params.followText "set-order" = true ∨ tab.led = true)
instance memK (y : Key) (ys : List Key) : Decidable (y ∈ ys) := decidable_of_iff (ys.any (fun z => decide (z = y)) = true) (by simp)
def addK (ys : List Key) (y : Key) : List Key := if y ∈ ys then ys else ys ++ [y]
section
variable {P : Program} {w : World} {h h' : Heap} {a : Addr} {ys : List Key}
theorem SetG.at (R : SetG w h a ys) (keep : ∀ q, h.get? a = some q → h'.get? a = some q) : SetG w h' a ys := by
  obtain ⟨ob, rows, stamp, tab, h0, rest⟩ := R
  exact ⟨ob, rows, stamp, tab, keep ob h0, rest⟩
theorem KeyE.elems {l : List (Int × Value)} (g : ∀ z ∈ l, KeyE w z) : ElemsOf (mixKind P w) l := fun z hz => by
  obtain ⟨y, h1, h2⟩ := g z hz
  refine ⟨⟨y, h1, h2⟩, ?_⟩
  rcases keyIs_shape h1 with ⟨i, t, _, e⟩ | ⟨x, t, _, e⟩ <;> rw [e] <;> rfl
theorem KeyE.is {z : Int × Value} (g : KeyE w z) (y : Key) : (mixKind P w).is y z.2 = true ↔ keyAt z = y := by
  obtain ⟨y0, h1, _⟩ := g
  unfold keyAt
  rcases keyIs_shape h1 with ⟨i, t, e0, e⟩ | ⟨x, t, e0, e⟩
  · rw [e]
    constructor
    · intro q; exact (mixKind P w).inj _ _ _ (mixKind_int P w i t) q
    · intro q; have q' : (Sum.inl i : Key) = y := q; rw [← q']; exact mixKind_int P w i t
  · rw [e]
    constructor
    · intro q; exact (mixKind P w).inj _ _ _ (mixKind_str P w x t) q
    · intro q; have q' : (Sum.inr x : Key) = y := q; rw [← q']; exact mixKind_str P w x t
theorem SetG.fresh (ho : h.get? a = some { cls := .type "set", dict := none, data := .set #[] 0 (.fresh 0 0 (!w.params.followText "set-order")) }) : SetG w h a [] :=
  ⟨_, #[], 0, _, ho, ⟨rfl, rfl, rfl⟩, rfl, (fun z hz => by simp at hz), (by simp), (by simp), (by decide), (by rfl), List.Pairwise.nil, by
    show _ ∨ (!w.params.followText "set-order") = true
    cases w.params.followText "set-order"
    · exact .inr rfl
    · exact .inl rfl⟩
end
section
variable {P : Program} {w : World} {A : Around} {E : Value → Shared → Prop} {s : Shared} {a : Addr} {ys : List Key}
theorem setG_tail {gv : Bool → Sem Unit} (hgv : ∀ (b : Bool) (s₁ : Shared) (Q' : Unit → Shared → Prop), Q' () s₁ → wpAny (model P w) A (gv b) Q' E s₁)
    {ob : Obj} {rows : Array (Int × Value)} {stamp : Nat} {tab : SetTable} (ho : s.heap.get? a = some ob) (hex : ob.ExactSet) (hd : ob.data = .set rows stamp tab)
    {rows1 : Array (Int × Value)} {tab2 : SetTable} {zs : List Key} (g1 : ∀ z ∈ rows1.toList, KeyE w z) (m1 : (rows1.toList.map keyAt).Perm zs) (nd1 : zs.Nodup)
    (hb1 : rows1.size < scanBound) (hf2 : tab2.fits rows1.size = true) (hr : Ris tab2.place.toList) (hl : w.params.followText "set-order" = true ∨ tab2.led = true) {wasD : Bool} {R : Option Bool → Shared → Prop}
    (hR : ∀ h', Heap.SameBut a s.heap h' → SetG w h' a zs → R (some true) { s with heap := h' }) :
    wpAny (model P w) A (do
        storeSet a rows1 tab2
        if (!wasD && tab2.tooFull) = true then do
            gv (relayAll tab2 rows1 (SetTable.grown rows1.size)).2.2
            storeSet a (relayAll tab2 rows1 (SetTable.grown rows1.size)).1 (relayAll tab2 rows1 (SetTable.grown rows1.size)).2.1
            pure (some true)
          else pure (some true)) R E s := by
  refine wpAny_bind (wpAny_storeSet_of ho hd ?_ (fits_of_scanBound hb1))
  have at1 := store_at (es' := rows1) (t' := tab2) ho hd
  have same1 := Heap.SameBut.update s.heap a (Obj.putSet rows1 tab2)
  split
  · have pmx := relayAll_perm tab2 rows1 (SetTable.grown rows1.size)
    have hf3 := relayAll_fits tab2 rows1 (SetTable.grown rows1.size)
    have hr3 := relayAll_ris tab2 rows1 (SetTable.grown rows1.size)
    have hl3 := relayAll_led tab2 rows1 (SetTable.grown rows1.size)
    generalize relayAll tab2 rows1 (SetTable.grown rows1.size) = Zr at pmx hf3 hr3 hl3 ⊢
    obtain ⟨rows2, tab3, gave⟩ := Zr
    dsimp only at pmx hf3 hr3 hl3 ⊢
    have hsz : rows2.size = rows1.size := by rw [← Array.length_toList, pmx.length_eq, Array.length_toList]
    have hb2 : rows2.size < scanBound := by rw [hsz]; exact hb1
    refine wpAny_bind (hgv _ _ _ ?_)
    refine wpAny_bind (wpAny_storeSet_of at1 rfl ?_ (fits_of_scanBound hb2))
    have at2 := store_at (es' := rows2) (t' := tab3) at1 rfl
    refine wpAny_pure (hR _ (same1.trans (Heap.SameBut.update _ a _)) ?_)
    exact ⟨_, rows2, _, tab3, at2, hex, rfl, fun z hz => g1 z (pmx.mem_iff.mp hz), (pmx.map keyAt).trans m1, nd1, hb2, (by rw [hsz]; first | exact hf3 | (rw [← hsz]; exact hf3)), hr3,
      hl.imp id fun q => by rw [hl3]; exact q⟩
  · exact wpAny_pure (hR _ same1 ⟨_, rows1, _, tab2, at1, hex, rfl, g1, m1, nd1, hb1, hf2, hr, hl⟩)

theorem setG_addHashed {y : Key} {x : Value} {Q : Bool → Shared → Prop} (hx : (mixKind P w).is y x = true) (R : SetG w s.heap a ys) (room : ys.length + 1 < scanBound)
    (hQ : ∀ b h', Heap.SameBut a s.heap h' → SetG w h' a (addK ys y) → Q b { s with heap := h' }) :
    wpAny (model P w) A (setAddHashed a x ((mixKind P w).hash y)) Q E s := by
  obtain ⟨ob, rows, stamp, tab, ho, hex, hd, g, pm0, nd, hb, hf, hr, hl⟩ := R
  have hsc : x.scannable = true := by
    rcases keyIs_shape hx with ⟨i, t, _, e⟩ | ⟨z, t, _, e⟩ <;> rw [e] <;> rfl
  have hn : rows.size = ys.length := by rw [← pm0.length_eq, List.length_map, Array.length_toList]
  have hel : ElemsOf (mixKind P w) rows.toList := KeyE.elems g
  unfold setAddHashed setAddHashedIn
  refine wpAny_holding (wpAny_bind (wpAny_setState_of ho hd hf ?_))
  dsimp only
  rw [byScan_of hsc hb hel]
  simp only [↓reduceIte]
  unfold setAddByScan
  refine wpAny_bind ?_
  refine wpAny_bind (wpAny_rule ?_)
  refine wpAny_bind (wpAny_setScan_of hx ho hd hf hel ?_)
  cases hfi : List.findIdx? (fun e => (mixKind P w).is y e.2) rows.toList with
  | some j =>
    dsimp only
    obtain ⟨hj, pj, _⟩ := List.findIdx?_eq_some_iff_getElem.mp hfi
    have hy : y ∈ ys := pm0.mem_iff.mp (List.mem_map.mpr ⟨_, List.getElem_mem hj, (KeyE.is (P := P) (g _ (List.getElem_mem hj)) y).mp pj⟩)
    refine wpAny_pure (wpAny_pure (hQ _ s.heap (Heap.SameBut.refl a s.heap) ?_))
    unfold addK
    rw [if_pos hy]
    exact ⟨ob, rows, stamp, tab, ho, hex, hd, g, pm0, nd, hb, hf, hr, hl⟩
  | none =>
    dsimp only
    have hny : y ∉ ys := fun z => by
      obtain ⟨e, he, q⟩ := List.mem_map.mp (pm0.mem_iff.mpr z)
      have c := List.findIdx?_eq_none_iff.mp hfi e he
      rw [(KeyE.is (P := P) (g e he) y).mpr q] at c
      cases c
    have gvw : ∀ (b : Bool) {s₁ : Shared} {Q' : Unit → Shared → Prop}, Q' () s₁ → wpAny (model P w) A (match b with | true => rule "set.scan.the-table-gave-way" | false => pure ()) Q' E s₁ :=
      fun b s₁ Q' q => by cases b; exact wpAny_pure q; exact wpAny_rule q
    have pm := layNew_perm tab rows ((mixKind P w).hash y) x
    have hf1 := layNew_fits tab rows ((mixKind P w).hash y) x
    have hr1 := layNew_ris tab rows ((mixKind P w).hash y) x hr
    have hl1 := layNew_led tab rows ((mixKind P w).hash y) x
    generalize layNew tab rows ((mixKind P w).hash y) x = Zn at pm hf1 hr1 hl1 ⊢
    obtain ⟨rows1, tab1, wasD, gave⟩ := Zn
    dsimp only at pm hf1 hr1 hl1 ⊢
    rw [Array.toList_push] at pm
    have pc : rows1.toList.Perm (rows.toList ++ [((mixKind P w).hash y, x)]) := pm
    have kx : keyAt ((mixKind P w).hash y, x) = y := (KeyE.is (P := P) (w := w) (z := ((mixKind P w).hash y, x)) ⟨y, hx, rfl⟩ y).mp hx
    have pk : (rows1.toList.map keyAt).Perm (ys ++ [y]) := by
      have q := pc.map keyAt
      rw [List.map_append, List.map_singleton, kx] at q
      exact q.trans (pm0.append_right _)
    have g1 : ∀ e ∈ rows1.toList, KeyE w e := fun e he => by
      rcases List.mem_append.mp (pc.mem_iff.mp he) with z | z
      · exact g e z
      · rw [List.mem_singleton.mp z]; exact ⟨y, hx, rfl⟩
    have nd1 : (ys ++ [y]).Nodup := by
      rw [List.nodup_append]
      exact ⟨nd, by simp, fun p hp q hq e => by rw [List.mem_singleton] at hq; subst hq; subst e; exact hny hp⟩
    have hsz : rows1.size = ys.length + 1 := by rw [← Array.length_toList, pc.length_eq, List.length_append, Array.length_toList, hn]; rfl
    have hb1 : rows1.size < scanBound := by rw [hsz]; exact room
    have hled : w.params.followText "set-order" = true ∨ tab1.led = true := hl.imp id fun z => by rw [hl1]; exact z
    have ea : addK ys y = ys ++ [y] := by unfold addK; rw [if_neg hny]
    refine wpAny_bind (gvw _ ?_)
    split
    · refine wpAny_bind ?_
      rw [hashByValue_scannable 8 hsc]
      refine wpAny_pure ?_
      refine setG_tail ?_ ho hex hd g1 pk nd1 hb1 ?_ ?_ ?_ ?_
      · intro b s₁ Q' q; cases b; exact wpAny_pure q; exact wpAny_rule q
      · first | exact hf1 | (split <;> first | exact hf1 | exact SetTable.fits_plain_off hf1)
      · first | exact hr1 | (split <;> exact hr1)
      · first | exact hled | (split <;> exact hled)
      · intro h' sb rg; dsimp only; exact wpAny_pure (hQ _ h' sb (by rw [ea]; exact rg))
    · refine wpAny_bind (wpAny_pure ?_)
      simp only [↓reduceIte]
      refine setG_tail ?_ ho hex hd g1 pk nd1 hb1 hf1 hr1 hled ?_
      · intro b s₁ Q' q; cases b; exact wpAny_pure q; exact wpAny_rule q
      · intro h' sb rg; dsimp only; exact wpAny_pure (hQ _ h' sb (by rw [ea]; exact rg))
def addKs (ys : List Key) (zs : List Key) : List Key := zs.foldl addK ys
theorem addK_len (ys : List Key) (y : Key) : (addK ys y).length ≤ ys.length + 1 := by
  unfold addK; split <;> simp
theorem setG_update {I : Addr} {fp wr : List Addr} {G : Array GenState → Array GenState → Prop} {n : Nat} {Pv : Nat → Value → Prop} {St : Nat → Shared → Prop} {R : Result → Shared → Prop}
    (W : WalksS P w A.in1 I fp wr G n Pv St) (S : Addr) (hSf : S ∉ fp) (zs : List Key) (hn : n = zs.length) (hval : ∀ i v, Pv i v → ∃ y, zs[i]? = some y ∧ (mixKind P w).is y v = true) :
    ∀ (m i : Nat) (cur : List Key) (s : Shared), n - i = m → i ≤ n → cur.length + m + 1 < scanBound → St i s → SetG w s.heap S cur →
      (∀ s', Moved (S :: wr) G s s' → SetG w s'.heap S (addKs cur (zs.drop i)) → R (.ok (.ret .none)) s') →
      codeAny (model P w) A (.builtin "set.update.loop" ⟨[.ref S, .ref I], []⟩) R s := by
  have hSw : S ∉ wr := fun z => hSf (W.sub _ z)
  have subw : ∀ b ∈ wr, b ∈ S :: wr := fun b hb => List.mem_cons_of_mem _ hb
  intro m
  induction m with
  | zero =>
    intro i cur s hm hi hc hst hS hR
    obtain rfl : i = n := by omega
    refine codeAny_builtin F.entry_set_update_loop ?_
    rw [Around.under_plainId F.plain_set_update_loop _]
    show wpAny _ A.in1 (pyNext (.ref I) >>= _) _ _ s
    refine wpAny_bind (W.done s _ _ hst fun s' mv => ?_)
    show wpAny _ A.in1 (PySem.ret Value.none) _ _ s'
    refine wpAny_pure (hR s' (mv.mono subw) ?_)
    rw [show zs.drop i = [] from List.drop_of_length_le (by omega)]
    exact hS.at fun o e => mv.heap S o hSw e
  | succ m ih =>
    intro i cur s hm hi hc hst hS hR
    have lt : i < n := by omega
    refine codeAny_builtin F.entry_set_update_loop ?_
    rw [Around.under_plainId F.plain_set_update_loop _]
    show wpAny _ A.in1 (pyNext (.ref I) >>= _) _ _ s
    refine wpAny_bind (W.item i s _ _ lt hst fun v s' hP hst' mv => ?_)
    obtain ⟨y, hy, hk⟩ := hval i v hP
    have hS' : SetG w s'.heap S cur := hS.at fun o e => mv.heap S o hSw e
    show wpAny _ A.in1 (holding [v] (setAdd S v) >>= _) _ _ s'
    refine wpAny_bind (wpAny_holding ?_)
    unfold setAdd
    refine wpAny_holding ?_
    refine wpAny_bind ((mixKind P w).pyHash (k := y) hk ?_)
    refine setG_addHashed (s := { s' with toks := s'.toks + 1 }) hk hS' (by omega) fun _ h' hsb hS2 => ?_
    have hle := addK_len cur y
    refine wpAny_pure ⟨plainId_quiet F.plain_set_update_loop _, ih (i + 1) _ _ (by omega) lt (by omega) (W.frame _ s' _ _ hst' (Nat.le_succ _) fun b hb o e => ?_) hS2 fun s'' mv'' hS'' => ?_⟩
    · rw [hsb.2 b (fun q : b = S => hSf (by rw [← q]; exact hb))]; exact e
    · refine hR s'' (Moved.trans W.gtrans ((mv.mono subw).then_heap (Nat.le_succ _) fun b o hb e => ?_) mv'') ?_
      · rw [hsb.2 b (fun q : b = S => hb (by rw [q]; exact List.mem_cons_self))]; exact e
      · have ed : zs.drop i = y :: zs.drop (i + 1) := by
          have hlt : i < zs.length := by omega
          rw [List.drop_eq_getElem_cons hlt]
          rw [List.getElem?_eq_getElem hlt] at hy
          rw [Option.some.inj hy]
        rw [ed]
        exact hS''
end
end Det
/-! Det, part K: set(xs). -/
namespace Det
open PySem PySem.Spec PyProof.Rows L2
@[reducible] def newS (w : World) : Obj := { cls := .type "set", dict := none, data := .set #[] 0 (.fresh 0 0 (!w.params.followText "set-order")) }
section
variable {P : Program} {w : World} {A : Around} {E : Value → Shared → Prop} {s : Shared}

set_option maxRecDepth 100000 in
theorem set_of_list {l : Addr} {its : Array Value} {zs : List Key} {Q : Value → Shared → Prop} (hh : A.handled = none) (hl : s.heap.IsList l its) (hz : zs.length = its.size) (hk : ∀ (i : Nat) (v : Value), its[i]? = some v → ∃ y, zs[i]? = some y ∧ (mixKind P w).is y v = true) (room : zs.length + 2 < scanBound)
    (fin : ∀ (hp : Heap) (tk : Nat), SetG w hp s.heap.objs.size (addKs [] zs) → (∀ b o, s.heap.get? b = some o → hp.get? b = some o) → Q (.ref s.heap.objs.size) { s with heap := hp, toks := tk }) :
    wpAny (model P w) A (call (.type "set") [.ref l]) Q E s := by
  obtain ⟨c0, tl0, hmro⟩ := PySem.F.called_set.mro
  have hmd := PySem.F.called_set.made
  have hsb := PySem.F.called_set.sub
  refine wpAny_call (codeAny_of_tree ?_)
  show wpAny _ _ (callAny (.type "set") _) _ _ _
  refine wpAny_pure ⟨Code.quiet_builtin _ (by decide +kernel), codeAny_builtin PySem.F.entry_type_call ?_⟩
  rw [Around.under_plain (weight_type_call_type "set" [.ref l] []) rfl]
  have f1 := PySem.F.called_set.notType
  have f2 := PySem.F.called_set.canCreate
  have f3 := PySem.F.typeCall_set_1 (.ref l)
  repeat (any_goals (first | assumption | wp_step))
  refine codeAny_mono (code_set_led1 (.ref l) (E := E) (Q₁ := fun obj sx => obj = .ref s.heap.objs.size ∧ sx = { s with heap := s.heap.push (newS w) }) ⟨rfl, rfl⟩) fun r sx hr => ?_
  cases r with
  | error e => exact hr
  | ok fl =>
    cases fl with
    | ret obj =>
      obtain ⟨rfl, rfl⟩ := hr
      have atS : (s.heap.push (newS w)).get? s.heap.objs.size = some (newS w) := Heap.get?_push_size _ rfl
      have hT : Shared.TypeIs { s with heap := s.heap.push (newS w) } (.ref s.heap.objs.size) "set" := ⟨_, atS, rfl⟩
      have hli := PySem.F.called_set.init.lookup
      have hbi := PySem.F.called_set.init.bind (.ref s.heap.objs.size)
      repeat (any_goals (first | assumption | wp_step))
      refine codeAny_mono (codeAny_call_builtin (R := wants (fun r sy => r = .none ∧ ∃ hp tk, sy = { s with heap := hp, toks := tk } ∧ SetG w hp s.heap.objs.size (addKs [] zs) ∧
          (∀ b o, s.heap.get? b = some o → hp.get? b = some o)) E) PySem.F.called_set.init.plain PySem.F.entry_set_init (check_set_init_1 hT ?_)) fun r₂ sy hr₂ => ?_
      · obtain ⟨⟨ocls, odict, odata, oslots⟩, hol, hcl, nl, hdl⟩ := hl
        simp only at hcl hdl
        subst hcl; subst hdl
        have hol' : (s.heap.push (newS w)).get? l = some { cls := .type "list", dict := odict, data := .seq its nl, slots := oslots } := Heap.get?_push_of_some _ hol
        have hs1 := PySem.F.sub_list_set
        have hs2 := PySem.F.sub_list_frozenset
        have hne : (Value.type "list" == Value.type "dict") = false := by decide
        have hl1 : (s.heap.push (newS w)).IsList l its := ⟨_, hol', rfl, nl, rfl⟩
        unfold Builtin.«set.__init__» noKeywords Builtin.Frozenset.updateFrom
        generalize hIter : pyIter = walkIter
        wp_walk
        subst hIter
        refine wpAny_pyIter_list hl1 ?_
        refine wpAny_bind (wpAny_runValue ?_)
        have hlS : l < s.heap.objs.size := Heap.lt_size hol
        have hd3 : A.in1.in1.in1.handled = none := by simp [hh]
        have hneI : l ≠ (s.heap.push (newS w)).objs.size := by
          rw [Heap.size_push]; exact Nat.ne_of_lt (Nat.lt_succ_of_lt hlS)
        have hSf : s.heap.objs.size ∉ [(s.heap.push (newS w)).objs.size, l] := by
          rw [Heap.size_push]; simp only [List.mem_cons, List.mem_singleton, List.not_mem_nil, or_false, not_or]
          exact ⟨Nat.ne_of_lt (Nat.lt_succ_self _), Nat.ne_of_gt hlS⟩
        refine setG_update ((Walks.list hd3 _ l hneI its).toS) s.heap.objs.size hSf zs hz.symm hk (its.size - 0) 0 [] _ (by omega) (Nat.zero_le _) (by rw [List.length_nil]; omega)
          ⟨⟨_, Heap.get?_push_size _ rfl, rfl, rfl⟩, (hl1.push _)⟩ ?first ?last
        case first => exact SetG.fresh (Heap.get?_push_of_some _ atS)
        case last =>
          intro s' mv hS'
          obtain ⟨hp, gg, dd, tk, oo⟩ := s'
          have e1 : gg = s.gens := mv.gens
          have e2 : dd = s.drawn := mv.drawn
          have e3 : oo = s.os := mv.os
          subst e1; subst e2; subst e3
          show wpAny _ _ _ _ _ _
          refine wpAny_pure ?_
          show wpAny _ _ (PySem.ret Value.none) _ _ _
          refine wpAny_pure ⟨rfl, hp, tk, rfl, hS', fun b o e => ?_⟩
          have hb0 : b < s.heap.objs.size := Heap.lt_size e
          have hb2 : b ≠ (s.heap.push (newS w)).objs.size := by
            rw [Heap.size_push]; exact Nat.ne_of_lt (Nat.lt_succ_of_lt hb0)
          exact mv.heap b o (by simp only [List.mem_cons, List.mem_singleton, List.not_mem_nil, or_false, not_or]; exact ⟨Nat.ne_of_lt hb0, hb2⟩) (Heap.get?_push_of_some _ (Heap.get?_push_of_some _ e))
      · cases r₂ with
        | error e => exact hr₂
        | ok fl₂ =>
          cases fl₂ with
          | ret r =>
            obtain ⟨rfl, hp, tk, rfl, hS', hk'⟩ := hr₂
            repeat (any_goals (first | assumption | wp_step))
            exact fin _ _ hS' hk'
          | _ => exact hr₂.elim
    | _ => exact hr.elim


set_option maxRecDepth 100000 in
theorem set_of_tuple {l : Addr} {its : Array Value} {zs : List Key} {Q : Value → Shared → Prop} (hh : A.handled = none) (hl : s.heap.IsTuple l its) (hz : zs.length = its.size) (hk : ∀ (i : Nat) (v : Value), its[i]? = some v → ∃ y, zs[i]? = some y ∧ (mixKind P w).is y v = true) (room : zs.length + 2 < scanBound)
    (fin : ∀ (hp : Heap) (tk : Nat), SetG w hp s.heap.objs.size (addKs [] zs) → (∀ b o, s.heap.get? b = some o → hp.get? b = some o) → Q (.ref s.heap.objs.size) { s with heap := hp, toks := tk }) :
    wpAny (model P w) A (call (.type "set") [.ref l]) Q E s := by
  obtain ⟨c0, tl0, hmro⟩ := PySem.F.called_set.mro
  have hmd := PySem.F.called_set.made
  have hsb := PySem.F.called_set.sub
  refine wpAny_call (codeAny_of_tree ?_)
  show wpAny _ _ (callAny (.type "set") _) _ _ _
  refine wpAny_pure ⟨Code.quiet_builtin _ (by decide +kernel), codeAny_builtin PySem.F.entry_type_call ?_⟩
  rw [Around.under_plain (weight_type_call_type "set" [.ref l] []) rfl]
  have f1 := PySem.F.called_set.notType
  have f2 := PySem.F.called_set.canCreate
  have f3 := PySem.F.typeCall_set_1 (.ref l)
  repeat (any_goals (first | assumption | wp_step))
  refine codeAny_mono (code_set_led1 (.ref l) (E := E) (Q₁ := fun obj sx => obj = .ref s.heap.objs.size ∧ sx = { s with heap := s.heap.push (newS w) }) ⟨rfl, rfl⟩) fun r sx hr => ?_
  cases r with
  | error e => exact hr
  | ok fl =>
    cases fl with
    | ret obj =>
      obtain ⟨rfl, rfl⟩ := hr
      have atS : (s.heap.push (newS w)).get? s.heap.objs.size = some (newS w) := Heap.get?_push_size _ rfl
      have hT : Shared.TypeIs { s with heap := s.heap.push (newS w) } (.ref s.heap.objs.size) "set" := ⟨_, atS, rfl⟩
      have hli := PySem.F.called_set.init.lookup
      have hbi := PySem.F.called_set.init.bind (.ref s.heap.objs.size)
      repeat (any_goals (first | assumption | wp_step))
      refine codeAny_mono (codeAny_call_builtin (R := wants (fun r sy => r = .none ∧ ∃ hp tk, sy = { s with heap := hp, toks := tk } ∧ SetG w hp s.heap.objs.size (addKs [] zs) ∧
          (∀ b o, s.heap.get? b = some o → hp.get? b = some o)) E) PySem.F.called_set.init.plain PySem.F.entry_set_init (check_set_init_1 hT ?_)) fun r₂ sy hr₂ => ?_
      · obtain ⟨⟨ocls, odict, odata, oslots⟩, hol, hcl, nl, hdl⟩ := hl
        simp only at hcl hdl
        subst hcl; subst hdl
        have hol' : (s.heap.push (newS w)).get? l = some { cls := .type "tuple", dict := odict, data := .seq its nl, slots := oslots } := Heap.get?_push_of_some _ hol
        have hs1 := PySem.F.sub_tuple_set
        have hs2 := PySem.F.sub_tuple_frozenset
        have hne : (Value.type "tuple" == Value.type "dict") = false := by decide
        have hl1 : (s.heap.push (newS w)).IsTuple l its := ⟨_, hol', rfl, nl, rfl⟩
        unfold Builtin.«set.__init__» noKeywords Builtin.Frozenset.updateFrom
        generalize hIter : pyIter = walkIter
        wp_walk
        subst hIter
        refine wpAny_pyIter_tuple hl1 ?_
        refine wpAny_bind (wpAny_runValue ?_)
        have hlS : l < s.heap.objs.size := Heap.lt_size hol
        have hd3 : A.in1.in1.in1.handled = none := by simp [hh]
        have hneI : l ≠ (s.heap.push (newS w)).objs.size := by
          rw [Heap.size_push]; exact Nat.ne_of_lt (Nat.lt_succ_of_lt hlS)
        have hSf : s.heap.objs.size ∉ [(s.heap.push (newS w)).objs.size, l] := by
          rw [Heap.size_push]; simp only [List.mem_cons, List.mem_singleton, List.not_mem_nil, or_false, not_or]
          exact ⟨Nat.ne_of_lt (Nat.lt_succ_self _), Nat.ne_of_gt hlS⟩
        refine setG_update ((Walks.tuple hd3 _ l hneI its).toS) s.heap.objs.size hSf zs hz.symm hk (its.size - 0) 0 [] _ (by omega) (Nat.zero_le _) (by rw [List.length_nil]; omega)
          ⟨⟨_, Heap.get?_push_size _ rfl, rfl, rfl⟩, (hl1.push _)⟩ ?first ?last
        case first => exact SetG.fresh (Heap.get?_push_of_some _ atS)
        case last =>
          intro s' mv hS'
          obtain ⟨hp, gg, dd, tk, oo⟩ := s'
          have e1 : gg = s.gens := mv.gens
          have e2 : dd = s.drawn := mv.drawn
          have e3 : oo = s.os := mv.os
          subst e1; subst e2; subst e3
          show wpAny _ _ _ _ _ _
          refine wpAny_pure ?_
          show wpAny _ _ (PySem.ret Value.none) _ _ _
          refine wpAny_pure ⟨rfl, hp, tk, rfl, hS', fun b o e => ?_⟩
          have hb0 : b < s.heap.objs.size := Heap.lt_size e
          have hb2 : b ≠ (s.heap.push (newS w)).objs.size := by
            rw [Heap.size_push]; exact Nat.ne_of_lt (Nat.lt_succ_of_lt hb0)
          exact mv.heap b o (by simp only [List.mem_cons, List.mem_singleton, List.not_mem_nil, or_false, not_or]; exact ⟨Nat.ne_of_lt hb0, hb2⟩) (Heap.get?_push_of_some _ (Heap.get?_push_of_some _ e))
      · cases r₂ with
        | error e => exact hr₂
        | ok fl₂ =>
          cases fl₂ with
          | ret r =>
            obtain ⟨rfl, hp, tk, rfl, hS', hk'⟩ := hr₂
            repeat (any_goals (first | assumption | wp_step))
            exact fin _ _ hS' hk'
          | _ => exact hr₂.elim
    | _ => exact hr.elim

end
end Det
/-! Det, part L: sorted(set(xs)), len(set(xs)). -/
namespace Det
open PySem PySem.Spec PyProof.Rows L2

/-! ### sorting what is ordered strictly -/
section
variable {α : Type} {le : α → α → Bool}
theorem ins_comm (tr : ∀ a b c, le a b = true → le b c = true → le a c = true) (to : ∀ a b, (le a b || le b a) = true) {a b : α} (anti : le a b = true → le b a = true → a = b) : ∀ l : List α, ins le a (ins le b l) = ins le b (ins le a l) := by
  have go : ∀ (a b : α), le a b = true → ¬ le b a = true → ∀ l : List α, ins le a (ins le b l) = ins le b (ins le a l) := by
    intro a b hab hba l
    induction l with
    | nil => simp [ins, hab, hba]
    | cons c l ih =>
      by_cases hbc : le b c = true
      · have hac := tr _ _ _ hab hbc
        simp [ins, hbc, hac, hab, hba]
      · by_cases hac : le a c = true
        · simp [ins, hbc, hac, hba]
        · simp [ins, hbc, hac, ih]
  intro l
  by_cases h1 : le a b = true
  · by_cases h2 : le b a = true
    · rw [anti h1 h2]
    · exact go a b h1 h2 l
  · have h2 : le b a = true := by
      have := to a b
      rw [Bool.or_eq_true] at this
      exact this.resolve_left h1
    exact (go b a h2 h1 l).symm
theorem isort_perm (tr : ∀ a b c, le a b = true → le b c = true → le a c = true) (to : ∀ a b, (le a b || le b a) = true) {l₁ l₂ : List α} (p : l₁.Perm l₂) (anti : ∀ a ∈ l₁, ∀ b ∈ l₁, le a b = true → le b a = true → a = b) : isort le l₁ = isort le l₂ := by
  induction p with
  | nil => rfl
  | cons x p ih =>
    show ins le x _ = ins le x _
    rw [ih fun a ha b hb => anti a (List.mem_cons_of_mem _ ha) b (List.mem_cons_of_mem _ hb)]
  | swap x y l => exact ins_comm tr to (anti y List.mem_cons_self x (List.mem_cons_of_mem _ List.mem_cons_self)) _
  | trans p q ih1 ih2 => exact (ih1 anti).trans (ih2 fun a ha b hb => anti a (p.mem_iff.mpr ha) b (p.mem_iff.mpr hb))
theorem ins_perm (a : α) : ∀ l : List α, (ins le a l).Perm (a :: l)
  | [] => .refl _
  | b :: l => by
    unfold ins
    split
    · exact .refl _
    · exact ((ins_perm a l).cons b).trans (.swap a b l)
theorem isort_perm_self : ∀ l : List α, (isort le l).Perm l
  | [] => .refl _
  | a :: l => (ins_perm a _).trans ((isort_perm_self l).cons a)
end

/-! ### keys as data -/
def kP : Key → PyData
  | .inl i => .int i
  | .inr x => .str x
def leK (a b : Key) : Bool := PySem.W.dataLe false kP a b
theorem leK_total : PySem.W.TotalLe leK := PySem.W.sortLe_total (listOrd itemOrd) false fun b => PySem.W.keyToks (kP b)
theorem leK_int (a b : Int) : leK (.inl a) (.inl b) = decide (a ≤ b) := congrFun (congrFun (PySem.W.dataLe_int (fun x : Int => x)) a) b
theorem leK_str (a b : Str) : leK (.inr a) (.inr b) = decide (a.cps.toList ≤ b.cps.toList) := congrFun (congrFun (PySem.W.dataLe_str (fun x : Str => x)) a) b
/-- all ints, or all texts -/
def evenK (ys : List Key) : Bool := ys.all (fun y => y.isLeft) || ys.all (fun y => y.isRight)
theorem leK_anti {a b : Key} (h : (a.isLeft && b.isLeft || a.isRight && b.isRight) = true) (h1 : leK a b = true) (h2 : leK b a = true) : a = b := by
  cases a with
  | inl i => cases b with
    | inl j =>
      rw [leK_int] at h1 h2
      have h1 := of_decide_eq_true h1
      have h2 := of_decide_eq_true h2
      rw [Int.le_antisymm h1 h2]
    | inr y => simp at h
  | inr x => cases b with
    | inl j => simp at h
    | inr y =>
      rw [leK_str] at h1 h2
      have h1 := of_decide_eq_true h1
      have h2 := of_decide_eq_true h2
      have e := List.le_antisymm h1 h2
      cases x; cases y
      simp only [Sum.inr.injEq, Str.mk.injEq]
      exact Array.toList_inj.mp e
theorem evenK_two {ys : List Key} (h : evenK ys = true) : ∀ a ∈ ys, ∀ b ∈ ys, (a.isLeft && b.isLeft || a.isRight && b.isRight) = true := fun a ha b hb => by
  unfold evenK at h
  rw [Bool.or_eq_true, List.all_eq_true, List.all_eq_true] at h
  rcases h with h | h
  · rw [h a ha, h b hb]; rfl
  · rw [h a ha, h b hb]; cases a.isLeft <;> cases b.isLeft <;> rfl
section
variable {P : Program} {w : World} {A : Around} {E : Value → Shared → Prop} {s : Shared} {a : Addr} {ys : List Key}
theorem relK_of {y : Key} {u : Value} (h : keyIs y u = true) : RelV (kV y) u := by
  rcases keyIs_shape h with ⟨i, t, rfl, rfl⟩ | ⟨x, t, rfl, rfl⟩
  · exact ⟨t, rfl⟩
  · exact ⟨t, rfl⟩
theorem each_keys' : ∀ {l : List (Int × Value)}, (∀ z ∈ l, KeyE w z) → PySem.W.EachIs (fun u y => RelV (kV y) u) (l.map (·.2)) (l.map keyAt)
  | [], _ => .nil
  | z :: l, h => by
    refine .cons ?_ (each_keys' fun e he => h e (List.mem_cons_of_mem _ he))
    obtain ⟨y, h1, h2⟩ := h z List.mem_cons_self
    have e : keyAt z = y := (KeyE.is (P := default) (w := w) ⟨y, h1, h2⟩ y).mp h1
    rw [e]
    exact relK_of h1
theorem each_key_of : ∀ {l : List Value}, (∀ u ∈ l, ∃ y, keyIs y u = true) → PySem.W.EachIs (fun u y => RelV (kV y) u) l (l.map fun u => keyAt (0, u))
  | [], _ => .nil
  | u :: l, h => by
    refine .cons ?_ (each_key_of fun e he => h e (List.mem_cons_of_mem _ he))
    obtain ⟨y, h1⟩ := h u List.mem_cons_self
    have e : keyAt (0, u) = y := by
      rcases keyIs_shape h1 with ⟨i, t, rfl, rfl⟩ | ⟨x, t, rfl, rfl⟩ <;> rfl
    show RelV (kV (keyAt (0, u))) u
    rw [e]
    exact relK_of h1
theorem keyReads {h : Heap} {y : Key} {u : Value} (r : RelV (kV y) u) : ∃ as, Reads h u (kP y) as := by
  cases y with
  | inl i => obtain ⟨t, rfl⟩ := r; exact ⟨_, .int i t⟩
  | inr x => obtain ⟨t, rfl⟩ := r; exact ⟨_, .str x t⟩
theorem even_alike (h : evenK ys = true) : PySem.W.AllAlike (ys.map kP) ∧ PySem.W.Sortable (ys.map kP) := by
  refine ⟨fun p hp q hq => ?_, .inr fun p hp => ?_⟩
  · obtain ⟨x, hx, rfl⟩ := List.mem_map.mp hp
    obtain ⟨y, hy, rfl⟩ := List.mem_map.mp hq
    have := evenK_two h x hx y hy
    cases x <;> cases y <;> first | rfl | (simp at this)
  · obtain ⟨x, hx, rfl⟩ := List.mem_map.mp hp
    cases x <;> exact ⟨(fun z => nomatch z), (fun _ z => nomatch z)⟩
/-- sorted(s), s a set -/
theorem sorted_setG {Q : Value → Shared → Prop} (R : SetG w s.heap a ys) (hh : A.handled = none) (ev : evenK ys = true) (hu : A.units + 8 < cLine)
    (fin : ∀ (s' : Shared) p (out : List Value) (c : Nat), (∀ b o, s.heap.get? b = some o → s'.heap.get? b = some o) → s'.gens = s.gens → s'.os = s.os → s.heap.objs.size ≤ p →
      s'.heap.get? p = some (seqObj "list" out.toArray c) → PySem.W.EachIs (fun u y => RelV (kV y) u) out (isort leK ys) → Q (.ref p) s') :
    wpAny (model P w) A (call (.builtin "sorted") [.ref a]) Q E s := by
  obtain ⟨ob, rows, stamp, tab, ho, hex, hd, g, pm0, nd, hb, hf, hr, hl⟩ := R
  have hn : rows.size = ys.length := by rw [← pm0.length_eq, List.length_map, Array.length_toList]
  refine PyProof.Rows.call_function_entry_kw kind_sorted plain_sorted entry_sorted (args_sorted1 _) ?_
  unfold Builtin.«sorted»
  refine wpAny_bind (m := checkCount "sorted" 1 1 _) (wpAny_pure ?_)
  refine wpAny_bind (collect_set (A := A.in1) hh ⟨ob, ho, hex.1, hd⟩ hf hb hr hl fun s1 vs keep hsz g1 o1 pm => ?_)
  have hlv : vs.length = ys.length := by rw [pm.length_eq, List.length_map, Array.length_toList]; exact hn
  have hvs : ∀ u ∈ vs, ∃ y, keyIs y u = true := fun u hu => by
    obtain ⟨z, hz, rfl⟩ := List.mem_map.mp (pm.mem_iff.mp hu)
    obtain ⟨y, h1, _⟩ := g z hz
    exact ⟨y, h1⟩
  have eK := each_key_of hvs
  have pk : (vs.map fun u => keyAt (0, u)).Perm ys := by
    have q := pm.map fun u => keyAt (0, u)
    rw [List.map_map] at q
    refine q.trans ?_
    have : ((fun u => keyAt (0, u)) ∘ fun (x : Int × Value) => x.2) = keyAt := by
      funext z; obtain ⟨i, u⟩ := z; cases u <;> rfl
    rw [this]
    exact pm0
  have ev' : evenK (vs.map fun u => keyAt (0, u)) = true := by
    unfold evenK at ev ⊢
    rw [Bool.or_eq_true, List.all_eq_true, List.all_eq_true] at ev ⊢
    exact ev.imp (fun h x hx => h x (pk.mem_iff.mp hx)) (fun h x hx => h x (pk.mem_iff.mp hx))
  obtain ⟨al, so⟩ := even_alike ev'
  have hL : vs.length ≤ sizeLine := by
    rw [hlv, ← hn]; exact fits_of_scanBound hb
  refine wpAny_bind (wpAny_newList ?_ hL)
  have hoL : (s1.heap.push (seqObj "list" vs.toArray 0)).get? s1.heap.objs.size = some (seqObj "list" vs.toArray 0) := Heap.get?_push_size _ rfl
  have er : ∀ hp : Heap, PySem.W.EachIs (fun v b => ∃ as, Reads hp v (kP b) as) vs (vs.map fun u => keyAt (0, u)) := fun hp => each_imp (fun u y r => keyReads r) eK
  have S := PySem.W.SortsAt.data (prog := P) (w := w) (A := A.in1.in1) (s := { s1 with heap := PySem.W.sortingHeap (s1.heap.push (seqObj "list" vs.toArray 0)) s1.heap.objs.size vs }) (PySem.W.each_map (R := fun v d => ∃ as, Reads (PySem.W.sortingHeap (s1.heap.push (seqObj "list" vs.toArray 0)) s1.heap.objs.size vs) v d as) kP (er _)) al so
    (fun d hd => by
      obtain ⟨b, hb, rfl⟩ := List.mem_map.mp hd
      have e0 : (kP b).depth ≤ 1 := by cases b <;> simp [kP, PyData.depth]
      have e1 : A.in1.in1.units ≤ A.units + 2 := by first | exact Nat.le_refl _ | rfl | (show A.units + 1 + 1 ≤ A.units + 2; omega)
      omega)
  refine wpAny_bind (wpAny_holding (wpAny_call_entry_kw slot_list_sort ⟨_, hoL, rfl⟩ entry_list_sort ?body (args_list_sort _)))
  case body =>
    obtain ⟨ep, hat⟩ := sortedHeap_at (out := List.toArray (PySem.W.sortVals (PySem.W.dataKind (PySem.W.sortingHeap (s1.heap.push (seqObj "list" vs.toArray 0)) s1.heap.objs.size vs) ((vs.map fun u => keyAt (0, u)).map kP)) false vs vs)) hoL
    refine wpAny_mono (PySem.W.list_sort_vals (prog := P) (w := w) (A := A.in1.in1) (E := fun _ _ => False) (P := fun f s' => f = .done (.ret .none) ∧ Q (.ref s1.heap.objs.size) s') (s := { s1 with heap := s1.heap.push (seqObj "list" vs.toArray 0) }) hoL S hL
      ⟨rfl, fin _ s1.heap.objs.size _ ep (fun b o e => ?_) g1 o1 hsz hat ?_⟩) (fun f s' hf => ?_) fun _ _ x => x.elim
    · have q := keep b o e
      have hlt := Heap.lt_size q
      show (sortedHeap _ _ _ _).get? b = some o
      rw [sortedHeap_old (Nat.ne_of_lt hlt) (by rw [size_push']; exact Nat.lt_succ_of_lt hlt)]
      exact Heap.get?_push_of_some _ q
    · have q := PySem.W.sortVals_data (h' := PySem.W.sortingHeap (s1.heap.push (seqObj "list" vs.toArray 0)) s1.heap.objs.size vs) false eK (er _) al
      rw [show PySem.W.dataLe false kP = leK from rfl, isort_eq (fun a b c => leK_total.trans a b c) (fun a b => by have := leK_total.total a b; simpa using this)] at q
      rw [isort_perm (fun a b c => leK_total.trans a b c) (fun a b => by have := leK_total.total a b; simpa using this) pk (fun a ha b hb h1 h2 => leK_anti (evenK_two ev' a ha b hb) h1 h2)] at q
      exact q
    · obtain ⟨rfl, hq⟩ := hf
      exact ⟨_, rfl, wpAny_pure ⟨_, rfl, hq⟩⟩
end
end Det
/-! Det, part M: the rules of sorted(set(xs)), len(set(xs)). -/
namespace Det
open PySem PySem.Spec PyProof.Rows L2

def keyD : Key → D
  | .inl i => .int i
  | .inr x => .str x
def dKey : D → Option Key
  | .int i => some (.inl i)
  | .str x => some (.inr x)
  | _ => none
def keysOf : List D → Option (List Key)
  | [] => some []
  | d :: ds => match dKey d, keysOf ds with
    | some y, some ys => some (y :: ys)
    | _, _ => none
theorem keys_rel {K : PySem.W.Frag} {φ : List Addr} {H : Hp} : ∀ {ds : List D} {ys : List Key} {vs : List V}, keysOf ds = some ys → RelDs K φ H ds vs → vs = ys.map kV
  | [], ys, vs, e, r => by
    cases r
    cases e
    rfl
  | d :: ds, ys, vs, e, r => by
    cases r with
    | cons h t =>
      unfold keysOf at e
      split at e
      · rename_i y ys' h1 h2
        cases e
        rw [keys_rel h2 t]
        cases h with
        | int i => cases h1; rfl
        | str x => cases h1; rfl
        | _ => cases h1
      · cases e
theorem keyDs_rel {K : PySem.W.Frag} {φ : List Addr} {H : Hp} : ∀ ys : List Key, RelDs K φ H (ys.map keyD) (ys.map kV)
  | [] => .nil
  | .inl i :: ys => .cons (.int i) (keyDs_rel ys)
  | .inr x :: ys => .cons (.str x) (keyDs_rel ys)
theorem each_kvals : ∀ {us : List Value} {ys : List Key}, PySem.W.EachIs (fun u y => RelV (kV y) u) us ys → Vals (ys.map kV) us
  | _, _, .nil => .nil
  | _, _, .cons r t => .cons r (each_kvals t)
def setHO (w : World) (a : Addr) (ys : List Key) : HO := .ext fun h => SetG w h a ys
section
variable {X : Cx}
def rSetK (K : PySem.W.Frag) (w : World) : List V → Hp → VK → Prop := fun xs H Q => ∃ (p : Addr) (zs : List Key), xs = [.ref p] ∧ (SqL K H p (zs.map kV) ∨ SqT K H p (zs.map kV)) ∧ zs.length + 2 < scanBound ∧
  ∀ q, H q = none → Q (.ref q) (upd H q (setHO w q (addKs [] zs)))
theorem at_key {zs : List Key} {its : List Value} (r : Vals (zs.map kV) its) : ∀ (i : Nat) (v : Value), its.toArray[i]? = some v → ∃ y, zs[i]? = some y ∧ (mixKind X.prog X.w).is y v = true := fun i v hv => by
  have hv' : its[i]? = some v := by simpa using hv
  have hl := r.length
  rw [List.length_map] at hl
  have hi : i < zs.length := by rw [hl]; exact (List.getElem?_eq_some_iff.mp hv').1
  obtain ⟨u, h1, h2⟩ := r.get (i := i) (x := kV zs[i]) (by simp [hi])
  rw [hv'] at h1
  cases h1
  exact ⟨zs[i], by simp [hi], kV_is h2⟩
theorem c_setK (hc : X.calm = true) : CallR X (.type "set") (rSetK X.K X.w) := by
  rintro pins s σ H xs us Q I r ⟨p, zs, rfl, hs, room, q⟩
  obtain ⟨u, rfl, ru⟩ := Vals.one r
  cases ru
  have fin : ∀ (hp : Heap) (tk : Nat), SetG X.w hp s.heap.objs.size (addKs [] zs) → (∀ b o, s.heap.get? b = some o → hp.get? b = some o) → EP X pins σ Q (.ref s.heap.objs.size) { s with heap := hp, toks := tk } := fun hp tk R keep => by
    have R2 := R
    obtain ⟨ob, _, _, _, ho, _⟩ := R2
    have hfree : H s.heap.objs.size = none := I.hok.fresh (Nat.le_refl _)
    exact ⟨.ref _, _, I.laid (o := setHO X.w s.heap.objs.size (addKs [] zs)) keep (Nat.le_refl _) ⟨R, ⟨ob, ho⟩, fun h1 h2 p k => SetG.at p k⟩, rfl, q _ hfree⟩
  rcases hs with hs | hs
  · obtain ⟨its, rv, hl, _⟩ := I.list hs
    have hn := rv.length
    rw [List.length_map] at hn
    exact set_of_list (I.ok.hd hc) hl.isList (by rw [List.size_toArray]; exact hn) (at_key rv) room fin
  · obtain ⟨its, rv, ht, _⟩ := I.tuple hs
    have hn := rv.length
    rw [List.length_map] at hn
    exact set_of_tuple (I.ok.hd hc) ht (by rw [List.size_toArray]; exact hn) (at_key rv) room fin
def rSortG (w : World) : List V → Hp → VK → Prop := fun xs H Q => ∃ (p : Addr) (ys : List Key), xs = [.ref p] ∧ H p = some (setHO w p ys) ∧ evenK ys = true ∧ ∀ q, H q = none → Q (.ref q) (upd H q (.lst ((isort leK ys).map kV)))
theorem c_sortG (hc : X.calm = true) (hu : X.A.units + 64 < cLine) : CallR X (.builtin "sorted") (rSortG X.w) := by
  rintro pins s σ H xs us Q I r ⟨p, ys, rfl, hp, ev, q⟩
  obtain ⟨u, rfl, ru⟩ := Vals.one r
  cases ru
  have R : SetG X.w s.heap p ys := (I.hok p _ hp).1
  have R2 := R
  obtain ⟨ob, rows, stamp, tab, ho, hex, hd, g, pm0, nd, hb, hf, hr, hl⟩ := R2
  have hn : rows.size = ys.length := by rw [← pm0.length_eq, List.length_map, Array.length_toList]
  refine sorted_setG R (I.ok.hd hc) ev (by omega) fun s' pp out c keep g1 o1 le at1 eo => ?_
  have hfree : H pp = none := I.hok.fresh le
  have rv := each_kvals eo
  have lo := rv.length
  refine ⟨.ref pp, upd H pp (.lst ((isort leK ys).map kV)), I.call' (ch := []) o1 (Un.laid keep le hfree) (I.hok.laid keep le ⟨?_, out, c, rv, at1⟩) (by rw [g1]; exact I.bare) (fun _ z => nomatch z), rfl, q _ hfree⟩
  rw [List.length_map, (isort_perm_self ys).length_eq, ← hn]
  exact fits_of_scanBound hb
def rLenG (w : World) : List V → Hp → VK → Prop := fun xs H Q => ∃ (p : Addr) (ys : List Key), xs = [.ref p] ∧ H p = some (setHO w p ys) ∧ Q (.int (ys.length : Nat)) H
theorem c_lenG : CallR X (.builtin "len") (rLenG X.w) := by
  rintro pins s σ H xs us Q I r ⟨p, ys, rfl, hp, q⟩
  obtain ⟨u, rfl, ru⟩ := Vals.one r
  cases ru
  obtain ⟨ob, rows, stamp, tab, ho, hex, hd, g, pm0, nd, hb, hf, hr, hl⟩ : SetG X.w s.heap p ys := (I.hok p _ hp).1
  have hn : rows.size = ys.length := by rw [← pm0.length_eq, List.length_map, Array.length_toList]
  have hb2 : rows.size < 4096 := hb
  exact call_len_set ho hex hd hf (by omega) ⟨.int (ys.length : Nat), H, I.tok _, ⟨_, by rw [hn]⟩, q⟩
end
/-! ### as functions -/
def oSSet : Op1 := fun a mh => match itemsD mh a with
  | some ds => match keysOf ds with
    | some zs => if zs.length + 2 < 4096 ∧ evenK (addKs [] zs) = true then some (.ref mh.length, mh ++ [.lst ((isort leK (addKs [] zs)).map keyD)]) else none
    | none => none
  | none => none
def oLSet : Op1 := fun a mh => match itemsD mh a with
  | some ds => match keysOf ds with
    | some zs => if zs.length + 2 < 4096 then some (.int ((addKs [] zs).length : Nat), mh) else none
    | none => none
  | none => none
section
variable {X : Cx} {W : WX} {e : Expr} {f : ME} {p p2 q pos : Pos}
theorem se_sset (hc : X.calm = true) (hu : X.A.units + 64 < cLine) (hm : X.mg "sorted" = none) (hm2 : X.mg "set" = none) (he : SE X W e f) (hg : Gl X "sorted" := by rfl) (hg2 : Gl X "set" := by rfl)
    (h0 : starEach (e :: []) X.env = (false, eval e X.env) :: starEach [] X.env := by rfl) (h1 : starEach (.Call (.Name "set" p2) [e] [] q :: []) X.env = (false, eval (.Call (.Name "set" p2) [e] [] q) X.env) :: starEach [] X.env := by rfl) :
    SE X W (.Call (.Name "sorted" p) [.Call (.Name "set" p2) [e] [] q] [] pos) (un oSSet f) := by
  refine (pe_callB (c_sortG hc hu) hg hm boot_sorted (pa_cons (pe_callTy (c_setK hc) hg2 hm2 boot_set (pa_cons he pa_nil h0) (he := h0)) pa_nil h1) (he := h1)).imp ?_
  rintro σ H Q ⟨φ, env, mh, re, hh, pp⟩
  refine ⟨φ, env, mh, re, hh, post_mono (Px.refl φ) (Kp.refl H) (post_bind (R1 := RelD X.K) pp) ?_⟩
  rintro x H1 ⟨φ1, d, mh1, p1, k1, hh1, r1, qq⟩
  have q2 := post_ofO qq
  unfold oSSet at q2
  cases hi : itemsD mh1 d with
  | none => rw [hi] at q2; exact q2.elim
  | some ds =>
    rw [hi] at q2
    simp only at q2
    cases hk : keysOf ds with
    | none => rw [hk] at q2; exact q2.elim
    | some zs =>
      rw [hk] at q2
      simp only at q2
      by_cases hz : zs.length + 2 < 4096 ∧ evenK (addKs [] zs) = true
      · rw [if_pos hz] at q2
        obtain ⟨pa, vs, rfl, hs, rs⟩ := seq_of hh1 r1 hi
        have ev := keys_rel hk rs
        subst ev
        refine ⟨pa, zs, rfl, hs, hz.1, fun a ha => ?_⟩
        refine ⟨a, addKs [] zs, rfl, upd_same, hz.2, fun b hb => ?_⟩
        have hh2 : HR X.K φ1 mh1 (upd H1 a (setHO X.w a (addKs [] zs))) := hh1.grow ha
        exact postO_new hh2 (fun φ' v H' p' k' => q2 φ' v H' p' ((Kp.new ha).trans k')) (keyDs_rel _) hb
      · rw [if_neg hz] at q2; exact q2.elim
theorem se_lset (hc : X.calm = true) (hm : X.mg "len" = none) (hm2 : X.mg "set" = none) (he : SE X W e f) (hg : Gl X "len" := by rfl) (hg2 : Gl X "set" := by rfl)
    (h0 : starEach (e :: []) X.env = (false, eval e X.env) :: starEach [] X.env := by rfl) (h1 : starEach (.Call (.Name "set" p2) [e] [] q :: []) X.env = (false, eval (.Call (.Name "set" p2) [e] [] q) X.env) :: starEach [] X.env := by rfl) :
    SE X W (.Call (.Name "len" p) [.Call (.Name "set" p2) [e] [] q] [] pos) (un oLSet f) := by
  refine (pe_callB c_lenG hg hm boot_len (pa_cons (pe_callTy (c_setK hc) hg2 hm2 boot_set (pa_cons he pa_nil h0) (he := h0)) pa_nil h1) (he := h1)).imp ?_
  rintro σ H Q ⟨φ, env, mh, re, hh, pp⟩
  refine ⟨φ, env, mh, re, hh, post_mono (Px.refl φ) (Kp.refl H) (post_bind (R1 := RelD X.K) pp) ?_⟩
  rintro x H1 ⟨φ1, d, mh1, p1, k1, hh1, r1, qq⟩
  have q2 := post_ofO qq
  unfold oLSet at q2
  cases hi : itemsD mh1 d with
  | none => rw [hi] at q2; exact q2.elim
  | some ds =>
    rw [hi] at q2
    simp only at q2
    cases hk : keysOf ds with
    | none => rw [hk] at q2; exact q2.elim
    | some zs =>
      rw [hk] at q2
      simp only at q2
      by_cases hz : zs.length + 2 < 4096
      · rw [if_pos hz] at q2
        obtain ⟨pa, vs, rfl, hs, rs⟩ := seq_of hh1 r1 hi
        have ev := keys_rel hk rs
        subst ev
        refine ⟨pa, zs, rfl, hs, hz, fun a ha => ?_⟩
        refine ⟨a, addKs [] zs, rfl, upd_same, ?_⟩
        have hh2 : HR X.K φ1 mh1 (upd H1 a (setHO X.w a (addKs [] zs))) := hh1.grow ha
        exact q2 φ1 _ _ (Px.refl φ1) (Kp.new ha) hh2 (.int _)
      · rw [if_neg hz] at q2; exact q2.elim
end
end Det
/-! Det, part N: enumerate(list or tuple). -/
namespace Det
open PySem PySem.Spec PyProof.Rows L2

theorem new_enum_tup (t : Addr) (its : Array Value) (n : Nat) (dc : Option Addr) (sl : Array (Option Value)) :
    Meets (Builtin.«enumerate.__new__» ⟨[.type "enumerate", .ref t], []⟩) (fun _ R s => s.heap.get? t = some { cls := .type "tuple", dict := dc, data := .seq its n, slots := sl } ∧
      R (.ok (.ret (.ref (s.heap.push { cls := .type "tuple_iterator", data := .fields #[.ref t, .int 0 0] }).objs.size)))
        { s with heap := (s.heap.push { cls := .type "tuple_iterator", data := .fields #[.ref t, .int 0 0] }).push { cls := .type "enumerate", data := .fields #[.none, .bool false, .ref s.heap.objs.size, rawInt 0, .none, .none] } }) :=
  .of_wp fun prog w A R s h => by
    obtain ⟨hp, gn, dr, tk, os⟩ := s; obtain ⟨ht, h⟩ := h
    have hsb := PySem.sub_enumerate
    have hT : Heap.IsTuple (Shared.heap ⟨hp, gn, dr, tk, os⟩) t its := ⟨_, ht, rfl, n, rfl⟩
    wp_walk using PySem.AutoSeq1.wpAny_loadPart' ht
    refine wpAny_stack_any fun st => wpAny_pure ?_
    split
    · rename_i c _ _ _ _ _
      cases (c == Value.type "enumerate")
      · wp_walk using PySem.AutoSeq1.wpAny_loadPart' ht, wpAny_pyIter_tuple hT
        exact ⟨_, rfl, h⟩
      · wp_walk using PySem.AutoSeq1.wpAny_loadPart' ht, wpAny_pyIter_tuple hT
        exact ⟨_, rfl, h⟩
    · wp_walk using PySem.AutoSeq1.wpAny_loadPart' ht, wpAny_pyIter_tuple hT
      exact ⟨_, rfl, h⟩
section
variable {prog : Program} {w : World} {A : Around} {E : Value → Shared → Prop} {s : Shared}
theorem make_enum_tup {t : Addr} {its : Array Value} {Q : Value → Shared → Prop} (hT : s.heap.IsTuple t its)
    (fin : ∀ h', IsEnum h' (s.heap.objs.size + 1) s.heap.objs.size 0 .none → h'.IsTupleIter s.heap.objs.size t 0 → h'.objs.size = s.heap.objs.size + 2 →
      (∀ b o, s.heap.get? b = some o → h'.get? b = some o) → Q (.ref (s.heap.objs.size + 1)) { s with heap := h' }) :
    wpAny (model prog w) A (call (.type "enumerate") [.ref t]) Q E s := by
  obtain ⟨⟨c, dc, dt, sl⟩, ht, hc, n, hd⟩ := hT
  replace hc : c = .type "tuple" := hc
  replace hd : dt = .seq its n := hd
  subst hc; subst hd
  refine callType_new PySem.F.called_enumerate (by decide) (PySem.F.typeCall_enumerate_1 _) (PySem.F.newCall_enumerate_1 _) (fun obj => PySem.F.args_object_init_2 obj _) PySem.F.entry_enumerate_new
    (new_enum_tup t its n dc sl) ⟨ht, ?_⟩
  have z1 : (s.heap.push { cls := .type "tuple_iterator", data := .fields #[.ref t, .int 0 0] }).objs.size = s.heap.objs.size + 1 := Heap.size_push ..
  show _ ∧ _
  rw [z1]
  have he : IsEnum ((s.heap.push { cls := .type "tuple_iterator", data := .fields #[.ref t, .int 0 0] }).push
      { cls := .type "enumerate", data := .fields #[.none, .bool false, .ref s.heap.objs.size, rawInt 0, .none, .none] }) (s.heap.objs.size + 1) s.heap.objs.size 0 .none := by
    have q := Heap.get?_push_size (s.heap.push { cls := .type "tuple_iterator", data := .fields #[.ref t, .int 0 0] })
      (o := { cls := .type "enumerate", data := .fields #[.none, .bool false, .ref s.heap.objs.size, rawInt 0, .none, .none] }) rfl
    rw [z1] at q; exact q
  refine ⟨⟨_, he, rfl⟩, fin _ he ⟨_, Heap.get?_push_of_some _ (Heap.get?_push_size _ rfl), rfl, rfl⟩ (by rw [Heap.size_push, z1]) fun b o x => Heap.get?_push_of_some _ (Heap.get?_push_of_some _ x)⟩
end
/-- the tuple at a, each item in a new pair -/
def ItEt (K : PySem.W.Frag) (a : Addr) : It :=
  ⟨fun i H => ∃ (xs : List V) (x : V), SqT K H a xs ∧ xs[i]? = some x, fun i H v H' => ∃ T x, v = .ref T ∧ H T = none ∧ H' = upd H T (.tup [.int (i : Nat), x]) ∧ ∀ xs, SqT K H a xs → xs[i]? = some x, fun i H => ∃ xs : List V, SqT K H a xs ∧ xs.length ≤ i⟩
theorem turn_enumT {P : Program} {w : World} {K : PySem.W.Frag} {elts : List Expr} {kk : Nat} {tpos : Pos} (a e it : Addr) :
    Turn P w K (.Tuple elts kk tpos) (ItEt K a) [e, it] e (fun i h => (∃ old, IsEnum h e it ((i : Nat) : Int) old) ∧ h.IsTupleIter it a i ∧ e ≠ it ∧ a ≠ it ∧ a ≠ e) where
  mem := by simp
  obj := fun i h st b hb => by
    obtain ⟨⟨old, he⟩, ⟨o, ho, hc, hd⟩, _⟩ := st
    have hbe : b = e ∨ b = it := by simpa using hb
    rcases hbe with z | z
    · rw [z]; exact ⟨_, he, fun v q => nomatch q⟩
    · rw [z]; exact ⟨o, ho, fun v q => by rw [hd] at q; cases q⟩
  keep := fun i h h' st k => let ⟨⟨old, he⟩, ⟨o, ho, r⟩, hne⟩ := st; ⟨⟨old, k e (by simp) _ he⟩, ⟨o, k it (by simp) o ho, r⟩, hne⟩
  item := by
    intro X hP hw hK hc i pins s σ H E I hf st hg
    subst hP; subst hw; subst hK
    obtain ⟨⟨old, he⟩, hit, hne, na1, na2⟩ := st
    obtain ⟨xs, x, hq, hx⟩ := hg
    obtain ⟨its, rv, p, hz⟩ := I.tuple hq
    obtain ⟨u, hu, ru⟩ := rv.get hx
    have pT : s.heap.IsTuple a its.toArray := p
    have hel : e < s.heap.objs.size := Heap.lt_size he
    have hil : it < s.heap.objs.size := by obtain ⟨_, q, _⟩ := hit; exact Heap.lt_size q
    have hlt : i < its.toArray.size := by
      have := (List.getElem?_eq_some_iff.mp hu).1
      simpa using this
    have hnd : X.A.in1.handled = none := by have := I.ok.hd hc; simpa using this
    refine wpAny_pyNext_enum_itemD (Draws.tuple hnd it a na1 its.toArray) he ⟨hit, pT⟩ hlt hne (by simp only [List.mem_cons, List.not_mem_nil, or_false, not_or]; exact ⟨hne, na2.symm⟩) fun u' h' tk hu' ho hst' hT hsz hk => ?_
    have eu : u' = u := by
      rw [show its.toArray[i]? = its[i]? by simp, hu] at hu'
      exact (Option.some.inj hu').symm
    subst eu
    refine ⟨_, rfl, wpAny_letOwnedTupleGo_enum (s := { s with heap := h', toks := tk + 1 }) ho fun h'' he' sb => ?_⟩
    have hT2 : h''.get? s.heap.objs.size = some { cls := .type "tuple", data := .seq #[.int i tk, u'] } := (sb.2 _ (Nat.ne_of_gt hel)).trans hT
    have new : ObjOk X.prog X.w (upd H s.heap.objs.size (.tup [.int (i : Nat), x])) h'' s.heap.objs.size (.tup [.int (i : Nat), x]) :=
      ⟨by show 2 ≤ sizeLine; decide, [.int i tk, u'], .cons ⟨_, rfl⟩ (.cons ru .nil), ⟨_, hT2, rfl, _, rfl⟩⟩
    have I1 : Inv X pins σ (upd H s.heap.objs.size (.tup [.int (i : Nat), x])) { s with heap := h'', toks := tk + 1 } :=
      I.turnedNew (ch := [e, it]) (fun b ob hb q => (sb.2 b (fun z => hb (by simp [z]))).trans (hk b ob (fun z => hb (by simp [z])) (fun z => hb (by simp [z])) q)) hf (Nat.le_refl _) new
    refine ⟨.ref s.heap.objs.size, _, I1, rfl, ⟨_, x, rfl, I.hok.fresh (Nat.le_refl _), rfl, fun ys hy => by rw [I.tuple_inj hy hq]; exact hx⟩, ⟨⟨u', ?_⟩, ?_, hne, na1, na2⟩, fun b hb => ?_⟩
    · have e1 : ((i + 1 : Nat) : Int) = (i : Int) + 1 := by omega
      rw [e1]; exact he'
    · obtain ⟨o, h1, r⟩ := hst'.1
      exact ⟨o, (sb.2 it (Ne.symm hne)).trans h1, r⟩
    · have hb' : b < s.heap.objs.size := by
        have hbe : b = e ∨ b = it := by simpa using hb
        rcases hbe with z | z
        · rw [z]; exact hel
        · rw [z]; exact hil
      rw [upd_ne (Nat.ne_of_lt hb')]
      exact (hf b hb).1
  done := by
    intro X hP hw hK hc i pins s σ H E I hf st hg
    subst hP; subst hw; subst hK
    obtain ⟨⟨old, he⟩, hit, hne, na1, na2⟩ := st
    obtain ⟨xs, hq, hx⟩ := hg
    obtain ⟨its, rv, p, hz⟩ := I.tuple hq
    have pT : s.heap.IsTuple a its.toArray := p
    obtain ⟨f0, f1, f2, f3, f4, f5⟩ := hf it (by simp)
    have hl := rv.length
    have hnd : X.A.in1.handled = none := by have := I.ok.hd hc; simpa using this
    unfold pyNext
    have hTy : s.TypeIs (.ref e) "enumerate" := ⟨_, he, rfl⟩
    refine wpAny_bind (wpAny_attempt (wpAny_callSpecial?_slot (name := Str.ofString "__next__") hTy PySem.F.slot_enumerate_next
      (wpAny_call_entry PySem.F.slot_enumerate_next hTy PySem.F.entry_enumerate_next ?_ (PySem.F.args_enumerate_next_1 _))))
    show wpAny _ _ (field (.ref e) 2 >>= _) _ _ _
    refine wpAny_bind (wpAny_field he rfl (x := .ref it) rfl ?_)
    refine wpAny_bind (wpAny_nextOf_tuple_end hnd hit pT (by simp; omega) fun h' x eb hx' => ?_)
    obtain ⟨o, ho, hc'⟩ := hx'
    refine wpAny_bind (wpAny_isInstance (T := "StopIteration") (b := true) ⟨o, ho, hc'⟩ PySem.isSubtype_stop ?_)
    exact wpAny_pure ⟨rfl, I.turned (t' := s.toks) (fun b o hb q => eb b o hb q) f0 f1 f3 f4 f5⟩
  self := fun A i s Q E st h => let ⟨⟨_, he⟩, _⟩ := st; wpAny_pyIter_enum he h
def iEnumA (K : PySem.W.Frag) (ta : TA) : TI := fun σ H R => ta σ H fun vs H1 => ∃ a xs, vs = [.ref a] ∧ (SqL K H1 a xs ∧ R (Ite K a) H1 ∨ SqT K H1 a xs ∧ R (ItEt K a) H1)
theorem pi_enumA {X : Cx} {e : Expr} {ta : TA} {p pos tpos : Pos} {elts : List Expr} {kk : Nat} (hg : Gl X "enumerate") (hm : X.mg "enumerate" = none) (ha : PA X [e] ta) (hs : starEach [e] X.env = [(false, eval e X.env)] := by rfl) :
    PI X (.Tuple elts kk tpos) (.Call (.Name "enumerate" p) [e] [] pos) (iEnumA X.K ta) := by
  refine ⟨fun pins s σ H R I h => ?_⟩
  refine Call_ (ld_blt I hg hm boot_enumerate (PyProof.Rows.callWith_type1 (thn (ha.run pos pins s σ H _ I h) fun us s1 ⟨vs, H1, I1, r1, q1⟩ => ?_) hs rfl))
  obtain ⟨a, xs, ex, q1⟩ := q1
  subst ex
  obtain ⟨u, rfl, ru⟩ := Vals.one r1
  cases ru
  have fpk : ∀ b ∈ [s1.heap.objs.size + 1, s1.heap.objs.size], FpOk X pins H1 b := fun b hb => by
    have hbe : b = s1.heap.objs.size + 1 ∨ b = s1.heap.objs.size := by simpa using hb
    have hle : s1.heap.objs.size ≤ b := by
      rcases hbe with z | z
      · rw [z]; exact Nat.le_add_right _ _
      · rw [z]; exact Nat.le_refl _
    exact I1.fpOk hle (I1.hok.fresh hle)
  rcases q1 with ⟨hq, q⟩ | ⟨hq, q⟩
  · obtain ⟨its, rv, p', hz⟩ := I1.list hq
    exact call_enumerate_list p'.isList fun h' he hit hsz hk => wpAny_pyIter_enum he
      ⟨s1.heap.objs.size + 1, _, _, _, H1, rfl, I1.kept (t' := s1.toks) hk, turn_enum a (s1.heap.objs.size + 1) s1.heap.objs.size, ⟨⟨.none, he⟩, hit, Nat.succ_ne_self _⟩, fpk, q⟩
  · obtain ⟨its, rv, p', hz⟩ := I1.tuple hq
    have pT : s1.heap.IsTuple a its.toArray := p'
    have hal : a < s1.heap.objs.size := by obtain ⟨_, q, _⟩ := pT; exact Heap.lt_size q
    exact make_enum_tup pT fun h' he hit hsz hk => wpAny_pyIter_enum he
      ⟨s1.heap.objs.size + 1, _, _, _, H1, rfl, I1.kept (t' := s1.toks) hk, turn_enumT a (s1.heap.objs.size + 1) s1.heap.objs.size, ⟨⟨.none, he⟩, hit, Nat.succ_ne_self _, Nat.ne_of_lt hal, Nat.ne_of_lt (Nat.lt_succ_of_lt hal)⟩, fpk, q⟩
end Det
/-! Det, part O: enumerate as a function. -/
namespace Det
open PySem PySem.Spec PyProof.Rows L2

def enF : Nat → List D → List D
  | _, [] => []
  | i, d :: ds => .tup [.int (i : Nat), d] :: enF (i + 1) ds
theorem enF_get : ∀ (ds : List D) (k i : Nat), (enF k ds)[i]? = ds[i]?.map fun d => .tup [.int ((k + i : Nat) : Nat), d]
  | [], k, i => by simp [enF]
  | d :: ds, k, 0 => by simp [enF]
  | d :: ds, k, i + 1 => by
    have := enF_get ds (k + 1) i
    simp only [enF, List.getElem?_cons_succ, this]
    congr 1
    funext d
    rw [show k + 1 + i = k + (i + 1) by omega]
theorem enF_len : ∀ (ds : List D) (k : Nat), (enF k ds).length = ds.length
  | [], k => rfl
  | d :: ds, k => by simp [enF, enF_len ds]
def enm (f : ME) : MI := fun env mh => (f env mh).bind fun d mh1 => match d with
  | .tup xs => .ok ⟨enF 0 xs, fun _ => true⟩ mh1
  | .rol xs => .ok ⟨enF 0 xs, fun _ => true⟩ mh1
  | .ref n => match mh1[n]? with
    | some (.lst xs) => .ok ⟨enF 0 xs, lstIs n xs⟩ mh1
    | _ => .no
  | _ => .no
section
variable {X : Cx} {W : WX}
theorem yl_tup {φ : List Addr} {mh : MH} {H : Hp} {T : Addr} {ds : List D} {vs : List V} (hh : HR X.K φ mh H) (hT : H T = none) (r : RelDs X.K φ H ds vs) : Kp H (upd H T (.tup vs)) ∧ HR X.K φ mh (upd H T (.tup vs)) ∧ RelD X.K φ (upd H T (.tup vs)) (.tup ds) (.ref T) :=
  ⟨Kp.new hT, hh.grow hT, .tup (SqT.of upd_same) (r.mono (Px.refl φ) (Kp.new hT))⟩
theorem itOk_enL {φ : List Addr} {H : Hp} {a : Addr} {xs : List D} {ck : MH → Bool}
    (h : ∀ φ' mh' H', Px φ φ' → Kp H H' → HR X.K φ' mh' H' → ck mh' = true → ∃ vs : List V, RelDs X.K φ' H' xs vs ∧ SqL X.K H' a vs) : ItOk X.K φ H ⟨enF 0 xs, ck⟩ (Ite X.K a) := by
  intro i φ' mh' H' p k hh hc
  obtain ⟨vs, rs, hs⟩ := h φ' mh' H' p k hh hc
  refine ⟨fun d hd => ?_, fun hl => ⟨vs, hs, ?_⟩⟩
  · rw [enF_get] at hd
    cases hx : xs[i]? with
    | none => rw [hx] at hd; cases hd
    | some d0 =>
      rw [hx] at hd
      cases hd
      obtain ⟨v, hv, rv⟩ := rs.get hx
      refine ⟨⟨vs, v, hs, hv⟩, ?_⟩
      rintro x H2 ⟨T, y, rfl, hT, rfl, hy⟩
      have := hy vs hs
      rw [hv] at this
      cases this
      exact yl_tup hh hT (.cons (by rw [Nat.zero_add]; exact .int _) (.cons rv .nil))
  · have : (enF 0 xs).length ≤ i := hl
    rw [enF_len] at this
    rw [← rs.length]; exact this
theorem itOk_enT {φ : List Addr} {H : Hp} {a : Addr} {xs : List D} {ck : MH → Bool}
    (h : ∀ φ' mh' H', Px φ φ' → Kp H H' → HR X.K φ' mh' H' → ck mh' = true → ∃ vs : List V, RelDs X.K φ' H' xs vs ∧ SqT X.K H' a vs) : ItOk X.K φ H ⟨enF 0 xs, ck⟩ (ItEt X.K a) := by
  intro i φ' mh' H' p k hh hc
  obtain ⟨vs, rs, hs⟩ := h φ' mh' H' p k hh hc
  refine ⟨fun d hd => ?_, fun hl => ⟨vs, hs, ?_⟩⟩
  · rw [enF_get] at hd
    cases hx : xs[i]? with
    | none => rw [hx] at hd; cases hd
    | some d0 =>
      rw [hx] at hd
      cases hd
      obtain ⟨v, hv, rv⟩ := rs.get hx
      refine ⟨⟨vs, v, hs, hv⟩, ?_⟩
      rintro x H2 ⟨T, y, rfl, hT, rfl, hy⟩
      have := hy vs hs
      rw [hv] at this
      cases this
      exact yl_tup hh hT (.cons (by rw [Nat.zero_add]; exact .int _) (.cons rv .nil))
  · have : (enF 0 xs).length ≤ i := hl
    rw [enF_len] at this
    rw [← rs.length]; exact this
theorem si_enum {e : Expr} {f : ME} {p pos tpos : Pos} {elts : List Expr} {kk : Nat} (hm : X.mg "enumerate" = none) (he : SE X W e f) (hg : Gl X "enumerate" := by rfl) (hs : starEach [e] X.env = [(false, eval e X.env)] := by rfl) (hst : starEach (e :: []) X.env = (false, eval e X.env) :: starEach [] X.env := by rfl) :
    SI X W (.Tuple elts kk tpos) (.Call (.Name "enumerate" p) [e] [] pos) (enm f) := (pi_enumA hg hm (pa_cons he pa_nil hst) hs).imp (by
  rintro σ H R ⟨φ, env, mh, re, hh, p⟩
  refine ⟨φ, env, mh, re, hh, post_mono (Px.refl φ) (Kp.refl H) (post_bind (R1 := RelD X.K) p) ?_⟩
  rintro x H1 ⟨φ1, d, mh1, p1, k1, h1, r1, q⟩
  cases r1 with
  | tup hs rs =>
    rename_i a xs vs
    exact ⟨a, vs, rfl, .inr ⟨hs, q φ1 _ H1 (Px.refl φ1) (Kp.refl H1) h1 (itOk_enT fun φ' mh' H' p' k' _ _ => ⟨vs, rs.mono p' k', k'.seqT hs⟩)⟩⟩
  | rol hs rs =>
    rename_i a xs vs
    exact ⟨a, vs, rfl, .inl ⟨hs.seq, q φ1 _ H1 (Px.refl φ1) (Kp.refl H1) h1 (itOk_enL fun φ' mh' H' p' k' _ _ => ⟨vs, rs.mono p' k', (k'.roL hs).seq⟩)⟩⟩
  | ref hn =>
    rename_i n a
    try simp only at q
    split at q
    · rename_i xs hx
      obtain ⟨vs, e1, rs⟩ := h1.lst hn hx
      refine ⟨a, vs, rfl, .inl ⟨SqL.of e1, q φ1 _ H1 (Px.refl φ1) (Kp.refl H1) h1 (itOk_enL fun φ' mh' H' p' k' hh' hc => ?_)⟩⟩
      have hc' : lstIs n xs mh' = true := hc
      unfold lstIs at hc'
      split at hc'
      · rename_i ys hy
        have ey : ys = xs := of_decide_eq_true hc'
        subst ey
        obtain ⟨ws, e2, rs2⟩ := hh'.lst (p'.get hn) hy
        exact ⟨ws, rs2, SqL.of e2⟩
      · cases hc'
    · exact q.elim
  | _ => exact q.elim)
end
end Det
/-! Det, part P: tuple * int, any count. -/
namespace Det
open PySem PySem.Spec PyProof.Rows L2
theorem tup_mul_same (l : Addr) (its : Array Value) (n : Nat) (dd : Option Addr) (sl : Array (Option Value)) (x : Int) (u : Tok) (c0 : (decide (x < -(2 ^ 63)) || decide (x ≥ 2 ^ 63)) = false) (c1 : (its.isEmpty || x == 1) = true) :
    Meets (Builtin.«tuple.__mul__» ⟨[.ref l, .int x u], []⟩) (fun _ R s => s.heap.get? l = some { cls := .type "tuple", dict := dd, data := .seq its n, slots := sl } ∧ R (.ok (.ret (Value.ref l))) s) :=
  .of_wp fun prog w A R s h => by
    obtain ⟨hp, gn, dr, tk, os⟩ := s
    obtain ⟨hl, h⟩ := h
    have f1 := AutoSeq1.idx_int
    wp_walk using wpAny_loadPart' hl
    repeat (first
      | (refine wpAny_ite_false (decide_eq_false (by rw [c0]; exact Bool.false_ne_true)) ?_; wp_walk using wpAny_loadPart' hl)
      | (refine wpAny_ite_true (decide_eq_true c1) ?_; wp_walk using wpAny_loadPart' hl))
    exact ⟨_, rfl, h⟩
theorem tup_mul_none (l : Addr) (its : Array Value) (n : Nat) (dd : Option Addr) (sl : Array (Option Value)) (x : Int) (u : Tok) (c0 : (decide (x < -(2 ^ 63)) || decide (x ≥ 2 ^ 63)) = false) (c1 : (its.isEmpty || x == 1) = false) (c2 : (decide (x ≤ 0) || its.isEmpty) = true) :
    Meets (Builtin.«tuple.__mul__» ⟨[.ref l, .int x u], []⟩) (fun _ R s => s.heap.get? l = some { cls := .type "tuple", dict := dd, data := .seq its n, slots := sl } ∧
      R (.ok (.ret (Value.ref s.heap.objs.size))) { s with heap := s.heap.push { cls := Value.type "tuple", data := Data.seq #[] }, toks := s.toks }) :=
  .of_wp fun prog w A R s h => by
    obtain ⟨hp, gn, dr, tk, os⟩ := s
    obtain ⟨hl, h⟩ := h
    have f1 := AutoSeq1.idx_int
    wp_walk using wpAny_loadPart' hl
    repeat (first
      | (refine wpAny_ite_false (decide_eq_false (by rw [c0]; exact Bool.false_ne_true)) ?_; wp_walk using wpAny_loadPart' hl)
      | (refine wpAny_ite_false (decide_eq_false (by rw [c1]; exact Bool.false_ne_true)) ?_; wp_walk using wpAny_loadPart' hl)
      | (refine wpAny_ite_true (decide_eq_true c2) ?_; wp_walk using wpAny_loadPart' hl))
    exact ⟨_, rfl, h⟩

def rRepTA (K : PySem.W.Frag) : R2 := fun x y H Q => ∃ l k xs, x = .ref l ∧ y = .int k ∧ SqT K H l xs ∧ -1000000 ≤ k ∧ k ≤ 1000 ∧ xs.length ≤ 1000 ∧
  (((List.replicate k.toNat xs).flatten = xs → Q (.ref l) H) ∧ ∀ p, H p = none → Q (.ref p) (upd H p (.tup (List.replicate k.toNat xs).flatten)))
section
variable {X : Cx}
theorem op_repTA : OpR X (binaryOp .Mult) (rRepTA X.K) := by
  intro pins s σ H x y v u Q I rx ry h
  obtain ⟨l, k, xs, rfl, rfl, hT, lo, hi, hz, q0, q1⟩ := h
  by_cases c : xs ≠ [] ∧ 2 ≤ k
  · exact op_repT pins s σ H _ _ v u Q I rx ry ⟨l, k, xs, rfl, rfl, hT, c.1, c.2, hi, hz, q1⟩
  · cases rx
    obtain ⟨t, rfl⟩ := ry
    obtain ⟨its, r, ⟨⟨cls, dd, data, sl⟩, ho, hc, n, hd⟩, hs⟩ := I.tuple hT
    simp only at hc hd
    subst hc; subst hd
    have hle : its.length = xs.length := r.length.symm
    have c0 : (decide (k < -(2 ^ 63)) || decide (k ≥ 2 ^ 63)) = false := by
      rw [decide_eq_false (by omega), decide_eq_false (by omega)] <;> rfl
    have em : its.toArray.isEmpty = xs.isEmpty := by cases its <;> cases xs <;> simp_all
    by_cases c1 : xs = [] ∨ k = 1
    · have c1' : (its.toArray.isEmpty || k == 1) = true := by
        rw [em]
        rcases c1 with h | h
        · rw [h]; rfl
        · rw [h]; simp
      have same : (List.replicate k.toNat xs).flatten = xs := by
        rcases c1 with h | h
        · rw [h]; induction k.toNat with
          | zero => rfl
          | succ m ih => rw [List.replicate_succ, List.flatten_cons, ih]; rfl
        · rw [h]; simp
      refine wpAny_binaryOp_repeat_ref (T := "tuple") (U := "int") (by decide) ⟨_, ho, rfl⟩ (fun s' => typeIs_int s' k t) noFill_tuple_mul PySem.F.fills_int_mul PySem.F.slot_int_rmul repeat_tuple PySem.F.slot_int_index.lookup
        (call_meets PySem.F.slot_int_rmul (typeIs_int s k t) PySem.F.entry_int_rmul (PySem.F.args_int_rmul_2 _ _) (int_rmul_tuple k t l its.toArray n dd sl)
          ⟨ho, rfl, ⟨_, ho, rfl⟩, call_meets PySem.F.slot_tuple_mul ⟨_, ho, rfl⟩ PySem.F.entry_tuple_mul (PySem.F.args_tuple_mul_2 _ _) (tup_mul_same l its.toArray n dd sl k t c0 c1') ⟨ho, ?_⟩⟩)
      exact ⟨.ref l, H, I, rfl, q0 same⟩
    · have hk : k ≤ 0 := by
        have h1 : xs ≠ [] := fun z => c1 (.inl z)
        have h2 : k ≠ 1 := fun z => c1 (.inr z)
        have h3 : ¬ 2 ≤ k := fun z => c ⟨h1, z⟩
        omega
      have c1' : (its.toArray.isEmpty || k == 1) = false := by
        rw [em]
        have : xs.isEmpty = false := by
          cases xs with
          | nil => exact absurd (Or.inl rfl) c1
          | cons _ _ => rfl
        rw [this, Bool.false_or]
        exact beq_eq_false_iff_ne.mpr fun z => c1 (.inr z)
      have c2 : (decide (k ≤ 0) || its.toArray.isEmpty) = true := by rw [decide_eq_true hk]; rfl
      have e0 : (List.replicate k.toNat xs).flatten = [] := by
        rw [show k.toNat = 0 by omega]; rfl
      rw [e0] at q1
      refine wpAny_binaryOp_repeat_ref (T := "tuple") (U := "int") (by decide) ⟨_, ho, rfl⟩ (fun s' => typeIs_int s' k t) noFill_tuple_mul PySem.F.fills_int_mul PySem.F.slot_int_rmul repeat_tuple PySem.F.slot_int_index.lookup
        (call_meets PySem.F.slot_int_rmul (typeIs_int s k t) PySem.F.entry_int_rmul (PySem.F.args_int_rmul_2 _ _) (int_rmul_tuple k t l its.toArray n dd sl)
          ⟨ho, rfl, ⟨_, ho, rfl⟩, call_meets PySem.F.slot_tuple_mul ⟨_, ho, rfl⟩ PySem.F.entry_tuple_mul (PySem.F.args_tuple_mul_2 _ _) (tup_mul_none l its.toArray n dd sl k t c0 c1' c2) ⟨ho, ?_⟩⟩)
      refine ⟨.ref s.heap.objs.size, _, I.laid (t' := s.toks) (o := .tup []) (fun b ob q => Heap.get?_push_of_some _ q) (Nat.le_refl _) ?_, rfl, q1 _ (I.hok.fresh (Nat.le_refl _))⟩
      exact ⟨Nat.zero_le _, [], .nil, IsTup.new _ _⟩
end
/-- x * k for a text -/
def repS (k : Nat) (x : Str) : Str := ⟨(List.replicate k x.cps.toList).flatten.toArray⟩
def oMulX : Op2 := fun a b mh => match a, b with
  | .int i, .int j => if ((-(2 ^ 64) < i ∧ i < 2 ^ 64) ∨ (-(2 ^ 64) < j ∧ j < 2 ^ 64)) ∨ i.natAbs.log2 + j.natAbs.log2 < 1000000 then some (.int (i * j), mh) else none
  | .tup xs, .int k => if -1000000 ≤ k ∧ k ≤ 1000 ∧ xs.length ≤ 1000 then some (.tup (List.replicate k.toNat xs).flatten, mh) else none
  | .str x, .int k => if -1000000 ≤ k ∧ k ≤ 1000000 ∧ x.length * k.toNat ≤ 1000000 then some (.str (repS k.toNat x), mh) else none
  | .ref m, .int k => match mh[m]? with
    | some (.lst xs) => if -(2 ^ 63) ≤ k ∧ k < 2 ^ 63 ∧ xs.length * k.toNat ≤ sizeLine then some (.ref mh.length, mh ++ [.lst (List.replicate k.toNat xs).flatten]) else none
    | _ => none
  | _, _ => none
theorem foldl_repS (x : Array Nat) (k : Nat) : List.foldl (fun a b => a ++ b) #[] (List.replicate k x) = (List.replicate k x.toList).flatten.toArray := by
  have go : ∀ (k : Nat) (acc : Array Nat), List.foldl (fun a b => a ++ b) acc (List.replicate k x) = acc ++ (List.replicate k x.toList).flatten.toArray := by
    intro k
    induction k with
    | zero => intro acc; simp
    | succ k ih => intro acc; rw [List.replicate_succ, List.foldl_cons, ih, List.replicate_succ, List.flatten_cons]; apply Array.ext'; simp
  rw [go]; simp
section
variable {X : Cx}
theorem r_mulX : OpR X (binaryOp .Mult) (iR2 X.K oMulX) := by
  rintro pins s σ H x y v u Q I rx ry ⟨φ, mh, a, b, ra, rb, hh, p⟩
  cases ra with
  | int i =>
    cases rb with
    | int j =>
      simp only [oMulX] at p
      split at p
      · rename_i hl
        rcases hl with hl | hl
        · exact op_mul pins s σ H _ _ v u Q I rx ry ⟨i, j, rfl, rfl, hl, postO_val hh p (.int _)⟩
        · exact op_mulW pins s σ H _ _ v u Q I rx ry ⟨i, j, rfl, rfl, hl, postO_val hh p (.int _)⟩
      · exact p.elim
    | _ => exact p.elim
  | str z =>
    cases rb with
    | int k =>
      simp only [oMulX] at p
      split at p
      · rename_i hl
        obtain ⟨n1, n2, n3⟩ := hl
        obtain ⟨t, rfl⟩ := rx
        obtain ⟨t2, rfl⟩ := ry
        have q := postO_val hh p (.str (repS k.toNat z))
        have sl : (1000000 : Nat) ≤ sizeLine := by rw [sizeLine_eq]; decide
        have z0 : (z.length == 0) = true → z.cps = #[] := fun e => by
          have : z.cps.size = 0 := by simpa [Str.length] using e
          exact Array.eq_empty_of_size_eq_zero this
        refine PySem.P.mul_str (by rw [decide_eq_false (by omega), decide_eq_false (by omega)]; rfl) (fun h1 h2 => ?_) (fun h1 h2 => ?_) ?_
        · have k1 : 1 ≤ k := by omega
          have : (z.length : Int) ≤ 1000000 := by
            have h3 : z.length * 1 ≤ z.length * k.toNat := Nat.mul_le_mul_left _ (by omega)
            omega
          have h4 : (2 ^ 63 - 1 : Int) / k ≥ 9000000000000 := by
            have : (9000000000000 : Int) ≤ (2 ^ 63 - 1) / k := (Int.le_ediv_iff_mul_le (by omega)).mpr (by omega)
            exact this
          omega
        · unfold Builtin.Str.tooLong
          exact decide_eq_false (by omega)
        · by_cases h1 : k < 1
          · rw [if_pos h1]
            refine ⟨by decide, ?_⟩
            have e : repS k.toNat z = Str.empty := by
              unfold repS; rw [show k.toNat = 0 by omega]; rfl
            rw [e] at q
            exact ⟨.str Str.empty, H, I.tok _, ⟨_, rfl⟩, q⟩
          · rw [if_neg h1]
            by_cases h2 : (k == 1 || z.length == 0) = true
            · rw [if_pos h2]
              have e : repS k.toNat z = z := by
                rw [Bool.or_eq_true] at h2
                unfold repS
                rcases h2 with h2 | h2
                · have : k = 1 := by simpa using h2
                  rw [this]; simp
                · have := z0 h2
                  obtain ⟨c⟩ := z
                  simp only at this
                  subst this
                  congr 1
                  induction k.toNat with
                  | zero => rfl
                  | succ m ih => rw [List.replicate_succ, List.flatten_cons]; simpa using ih
              rw [e] at q
              exact ⟨.str z, H, I, ⟨_, rfl⟩, q⟩
            · rw [if_neg h2]
              have e : (⟨List.foldl (fun a b => a ++ b) #[] (List.replicate k.toNat z.cps)⟩ : Str) = repS k.toNat z := by
                unfold repS; rw [foldl_repS]
              refine ⟨?_, ?_⟩
              · show Str.length _ ≤ _
                rw [e]
                unfold repS Str.length
                rw [List.size_toArray, List.length_flatten]
                simp only [List.map_replicate, List.sum_replicate_nat, Array.length_toList]
                have : z.cps.size = z.length := rfl
                rw [this, Nat.mul_comm]
                omega
              · have q' : Q (.str (⟨List.foldl (fun a b => a ++ b) #[] (List.replicate k.toNat z.cps)⟩ : Str)) H := by rw [e]; exact q
                exact ⟨.str _, H, I.tok _, ⟨_, rfl⟩, q'⟩
      · exact p.elim
    | _ => exact p.elim
  | tup h1 r1 =>
    rename_i a1 xs vs
    cases rb with
    | int k =>
      simp only [oMulX] at p
      split at p
      · rename_i hl
        obtain ⟨n1, n2, n3⟩ := hl
        refine op_repTA pins s σ H _ _ v u Q I rx ry ⟨a1, k, vs, rfl, rfl, h1, n1, n2, by rw [← r1.length]; exact n3, fun e => ?_, fun q hq => postO_tup hh p (r1.rep _) hq⟩
        have rr := r1.rep k.toNat
        rw [e] at rr
        exact postO_val hh p (.tup h1 rr)
      · exact p.elim
    | _ => exact p.elim
  | ref h1 =>
    rename_i n a1
    cases rb with
    | int k =>
      simp only [oMulX] at p
      split at p
      · rename_i xs e1
        split at p
        · rename_i hl
          obtain ⟨n1, n2, n3⟩ := hl
          obtain ⟨vs, q1, r1⟩ := hh.lst h1 e1
          exact op_rep pins s σ H _ _ v u Q I rx ry ⟨a1, k, vs, rfl, rfl, q1, n1, n2, by rw [← r1.length]; exact n3, fun q hq => postO_new hh p (r1.rep _) hq⟩
        · exact p.elim
      · exact p.elim
    | _ => exact p.elim
  | _ => cases rb <;> exact p.elim
end
end Det
/-! Det, part Q: calls by parameter names, defs that call themselves, the law's own promise. -/
namespace Det
open PySem PySem.Spec PyProof.Rows L2
abbrev SK (X : Cx) (W : WX) (kws : List Keyword) (f : MA) : Prop := PK X kws (iA X.K X.mg W f)
theorem pk_imp {X : Cx} {kws : List Keyword} {t t' : TA} (h : PK X kws t) (w : ∀ σ H Q, t' σ H Q → t σ H Q) : PK X kws t' := ⟨fun po pins s σ H Q I q => h.run po pins s σ H Q I (w σ H Q q)⟩
def pickD (pm : List Nat) (ds : List D) : List D := pm.map fun i => ds.getD i .non
def calK (n : Nat) (pm : List Nat) (F : Fn) (f : MA) : ME := fun env mh => (f env mh).bind fun ds mh1 => if ds.length = n then F (pickD pm ds) mh1 else .no
section
variable {X : Cx} {W : WX} {e : Expr} {f : ME} {fa : MA} {kws : List Keyword} {pos kpos p : Pos} {nm : Option Str}
theorem sk_nil : SK X W [] anil := pk_imp pk_nil (by
  rintro σ H Q ⟨φ, env, mh, re, hh, p⟩
  exact p φ [] H (Px.refl φ) (Kp.refl H) hh .nil)
theorem sk_cons (ha : SE X W e f) (hr : SK X W kws fa) : SK X W (⟨nm, e, kpos⟩ :: kws) (acons f fa) := pk_imp (pk_cons ha hr) (by
  rintro σ H Q ⟨φ, env, mh, re, hh, p⟩
  refine ⟨φ, env, mh, re, hh, post_mono (Px.refl φ) (Kp.refl H) (post_bind (R1 := RelD X.K) p) ?_⟩
  rintro x H1 ⟨φ1, d, mh1, p1, k1, h1, r1, q⟩
  refine ⟨φ1, env, mh1, re.mono p1 k1, h1, post_mono (Px.refl φ1) (Kp.refl H1) (post_bind (R1 := RelDs X.K) q) ?_⟩
  rintro xs H2 ⟨φ2, ds, mh2, p2, k2, h2, r2, q2⟩
  exact q2 φ2 (x :: xs) H2 (Px.refl φ2) (Kp.refl H2) h2 (.cons (r1.mono p2 k2) r2))
theorem getD_vals {vs : List V} {us : List Value} (r : Vals vs us) (i : Nat) : RelV (vs.getD i .non) (us.getD i .none) := by
  rw [List.getD_eq_getElem?_getD, List.getD_eq_getElem?_getD]
  cases h : vs[i]? with
  | none => rw [r.none_of h]; rfl
  | some v =>
    obtain ⟨u, h1, h2⟩ := r.get h
    rw [h1]; exact h2
theorem pick_vals {vs : List V} {us : List Value} (r : Vals vs us) : ∀ pm : List Nat, Vals (pm.map fun i => vs.getD i .non) (pm.map fun i => us.getD i .none)
  | [] => .nil
  | i :: pm => .cons (getD_vals r i) (pick_vals r pm)
theorem pick_rel {K : PySem.W.Frag} {φ : List Addr} {H : Hp} {ds : List D} {vs : List V} (r : RelDs K φ H ds vs) : ∀ pm : List Nat, RelDs K φ H (pickD pm ds) (pm.map fun i => vs.getD i .non)
  | [] => .nil
  | i :: pm => by
    refine .cons ?_ (pick_rel r pm)
    show RelD K φ H (ds.getD i .non) (vs.getD i .non)
    rw [List.getD_eq_getElem?_getD, List.getD_eq_getElem?_getD]
    cases h : ds[i]? with
    | none =>
      have h1 := List.getElem?_eq_none_iff.mp h
      have h2 : vs[i]? = none := List.getElem?_eq_none_iff.mpr (by rw [← r.length]; exact h1)
      rw [h2]; exact .non
    | some d =>
      obtain ⟨v, h1, h2⟩ := r.get h
      rw [h1]; exact h2
/-- f(k = v, ..) -/
theorem se_callK0 {F : Fn} {k : Nat} {g : Addr} {fd : FuncData} {ps ks : List Str} {pm : List Nat} {x : Str} (tk : Takes X W) (G : DOk X.prog X.w X.K X.mg X.base k g fd ps F) (hr : Room k X.A) (hm : X.mg x = some (.ref g)) (hk : PySem.W.keepIn X.K (.ref g) = true)
    (hb : ∀ (s : Shared) (ws : List Value), ws.length = ks.length → BindsTo s fd ⟨[], ks.zip ws⟩ (ps.zip (pm.map fun i => ws.getD i .none))) (hp : pm.length = ps.length) (ha : SK X W kws fa) (hg : Gl X x := by rfl)
    (hall : (backToKw pos (keywordEach kws X.env)).all (·.1.isSome) = true := by rfl) (hks : (backToKw pos (keywordEach kws X.env)).filterMap (·.1) = ks := by rfl) (hdb : (x == ("__debug__" : Str)) = false := by decide)
    (hpl : ((backTo pos (starEach [] X.env)).any (·.1) || (backToKw pos (keywordEach kws X.env)).any (·.1.isNone)) = false := by rfl) : SE X W (.Call (.Name x p) [] kws pos) (calK ks.length pm F fa) := by
  refine ⟨fun pins s σ H Q I h => ?_⟩
  refine wpAny_Call_Name_kw (ld_glob I hg hm ?_ hdb)
  refine PySem.W.callWith_KW0 (h₀ := X.base) I.ok.mod.kin hk hall ?_ hpl
  obtain ⟨φ, env, mh, re, hh, pq⟩ := h
  refine thn (ha.run pos pins s σ H (fun vs H1 => vs.length = ks.length ∧ spF X.K X.mg ps.length F (pm.map fun i => vs.getD i .non) H1 Q (WE W σ)) I ⟨φ, env, mh, re, hh, post_mono (Px.refl φ) (Kp.refl H) (post_bind (R1 := RelDs X.K) pq) ?_⟩) fun ws s2 ⟨zs, H2, I2, rz, hl, q2⟩ => ⟨I2.kIn, ?_⟩
  · rintro vs H1 ⟨φ1, ds, mh1, p1, k1, h1, r1, q⟩
    by_cases hl : ds.length = ks.length
    · rw [if_pos hl] at q
      refine ⟨by rw [← r1.length]; exact hl, φ1, mh1, pickD pm ds, pick_rel r1 pm, h1, by unfold pickD; rw [List.length_map]; exact hp, ?_⟩
      cases hF : F (pickD pm ds) mh1 with
      | ok d mh2 => rw [hF] at q; exact q
      | ex x mh2 => rw [hF] at q; exact q
      | no => rw [hF] at q; exact q
    · rw [if_neg hl] at q; exact q.elim
  · rw [hks]
    have hw : ws.length = ks.length := by rw [← rz.length]; exact hl
    refine wpAny_call (codeAny_mono (G.run X.A X.stack s2 H2 ⟨[], ks.zip ws⟩ _ _ Q (WE W σ) hr I2.env0 (hb s2 ws hw) (pick_vals rz pm) q2) fun r s' hq => ?_)
    cases r with
    | error e => exact passAt tk σ pins H2 s2 e s' I2 hq
    | ok fl =>
      cases fl with
      | ret u => exact I2.after hq
      | next => exact False.elim hq
      | brk => exact False.elim hq
      | cont => exact False.elim hq
end
section
variable {P : Program} {w : World} {K : PySem.W.Frag} {mg : MGl} {base : Heap} {k : Nat} {fa : Addr} {fd : FuncData} {ps : List Str} {F : Fn}
/-- nothing is promised -/
theorem ok_no : DOk P w K mg base k fa fd ps fun _ _ => .no :=
  ⟨fun vs H Q E h => by obtain ⟨_, _, _, _, _, _, q⟩ := h; exact q.elim, fun A outer s H args us vs Q E _ _ _ _ h => by obtain ⟨_, _, _, _, _, _, q⟩ := h; exact q.elim⟩
/-- a def that calls itself, n calls deep -/
def recF (B : Fn → Fn) : Nat → Fn
  | 0 => fun _ _ => .no
  | n + 1 => B (recF B n)
theorem okRec {B : Fn → Fn} (h : ∀ (k : Nat) (F : Fn), DOk P w K mg base k fa fd ps F → DOk P w K mg base (k + 1) fa fd ps (B F)) (k0 : Nat) : ∀ n : Nat, DOk P w K mg base (k0 + n) fa fd ps (recF B n)
  | 0 => ok_no
  | n + 1 => h (k0 + n) _ (okRec h k0 n)
/-- the law's promise -/
def spLawD (K : PySem.W.Frag) : Sp := fun vs H Q _ => ∃ (a : Addr) (ns : List Int), vs = [.ref a] ∧ Only H ∧ SqL K H a (ns.map V.int) ∧ ns.length ≤ 63 ∧ ∀ H', Q (.bl true) H'
theorem relInts {K : PySem.W.Frag} {φ : List Addr} {H : Hp} : ∀ ns : List Int, RelDs K φ H (ns.map D.int) (ns.map V.int)
  | [] => .nil
  | i :: ns => .cons (.int i) (relInts ns)
theorem law_of {x : Str} (G : DOk P w K mg base k fa fd [x] F) (hF : ∀ ns : List Int, ns.length ≤ 63 → ∃ mh, F [.rol (ns.map .int)] [] = .ok (.bl true) mh) : FnOk P w K mg base (L2.CX P w) k fa fd [x] (spLawD K) := by
  refine FnOk.imp G ?_
  rintro vs H Q E ⟨a, ns, rfl, ho, hs, hl, q⟩
  have hro : RoL K H a (ns.map V.int) := by
    rcases hs with (h | ⟨o, h⟩) | h
    · rcases ho a with z | ⟨o, xs, z⟩
      · rw [z] at h; cases h
      · rw [z] at h; cases h
    · exact .inl ⟨o, h⟩
    · exact .inr h
  obtain ⟨mh', e⟩ := hF ns hl
  refine ⟨[], [], [.rol (ns.map .int)], .cons (.rol hro (relInts ns)) .nil, ⟨rfl, List.nodup_nil, fun n a o h => by simp at h⟩, rfl, ?_⟩
  rw [e]
  intro φ' b H' _ _ _ r
  cases r
  exact q H'
theorem law_end (w : World) (H : Hp) (a : Addr) (ns : List Int) (hl : ns.length ≤ 63) (ho : Only H) (hS : SqL K H a (ns.map V.int)) : spLawD K [.ref a] H (fun v _ => v = .bl true) fun _ _ _ => False := ⟨a, ns, rfl, ho, hS, hl, fun _ => rfl⟩
end
end Det
/-! Det, part R: what the generated walks use. -/
namespace Det
open PySem PySem.Spec PyProof.Rows L2
theorem okRec2 {P : Program} {w : World} {K : PySem.W.Frag} {mg : MGl} {base : Heap} {fa : Addr} {fd : FuncData} {ps : List Str} {B : Fn → Fn} {k0 : Nat}
    (h : ∀ (k : Nat) (F : Fn), DOk P w K mg base k fa fd ps F → k0 ≤ k → DOk P w K mg base (k + 1) fa fd ps (B F)) : ∀ n : Nat, DOk P w K mg base (k0 + n) fa fd ps (recF B n)
  | 0 => ok_no
  | n + 1 => h (k0 + n) _ (okRec2 h n) (Nat.le_add_right _ _)
/-- a def that the top has made -/
structure DefAt (K : PySem.W.Frag) (mg : MGl) (x q : Str) (st : Stmt) (ps : List Str) where
  a : Addr
  fd : FuncData
  hm : mg x = some (.ref a)
  hk : PySem.W.keepIn K (.ref a) = true
  fn : Fun K x q st a fd
  bi : Binds K fd ps []
theorem takesN {X : Cx} : Takes X W0 := fun _ _ x => by
  obtain ⟨_, _, _, _, _, _, _, _, _, _, _, _, _, _, _, _, no⟩ := x
  exact no.elim
def blkB (N : List Str) (sc scope : Scope) (own : List (Str × Nat)) : Bool :=
  scope.kind == .function && scope.names.all (fun y => scope.names.lookup y.1 == some y.2) && own.all (fun p => N[p.2]? == some p.1) &&
  scope.names.all (fun y => y.2 != .free || sc.names.lookup y.1 == some .cell || sc.names.lookup y.1 == some .free) &&
  scope.names.all (fun y => !(y.2 == .local || y.2 == .cell) || (own.map (·.1)).contains y.1 || !N.contains y.1)
theorem blkOk_of {N : List Str} {sc scope : Scope} {own : List (Str × Nat)} (h : blkB N sc scope own = true) : BlkOk N sc scope own := by
  unfold blkB at h
  simp only [Bool.and_eq_true, List.all_eq_true, Bool.or_eq_true, beq_iff_eq, bne_iff_ne, ne_eq, Bool.not_eq_true', List.contains_iff_mem] at h
  obtain ⟨⟨⟨⟨h1, h2⟩, h3⟩, h4⟩, h5⟩ := h
  refine ⟨h1, h2, h3, fun y hy e => ?_, fun y hy e => ?_⟩
  · rcases h4 y hy with (z | z) | z
    · exact absurd e z
    · exact .inl z
    · exact .inr z
  · rcases h5 y hy with (z | z) | z
    · rcases e with e | e
      · simp [e] at z
      · simp [e] at z
    · exact .inl z
    · exact .inr (by simpa using z)
end Det
/-! Det, part W: dicts by ints and texts: display, d[k], in, d[k] = v, get, setdefault. -/
namespace Det
open PySem PySem.Spec PyProof.Rows L2

/-! ### tables -/
def valD (kds : List (Key × D)) (k : Key) : Option D := (kds.find? fun kv => decide (kv.1 = k)).map (·.2)
def putD (kds : List (Key × D)) (k : Key) (d : D) : List (Key × D) :=
  if (kds.any fun kv => decide (kv.1 = k)) = true then kds.map (fun kv => if kv.1 = k then (kv.1, d) else kv) else kds ++ [(k, d)]
section
variable {K : PySem.W.Frag} {φ : List Addr} {H : Hp}
theorem RelK.nil' {kvs : List (Key × V)} (r : RelK K φ H ([] : List (Key × D)) kvs) : kvs = [] := by
  have := r.1
  cases kvs with
  | nil => rfl
  | cons _ _ => simp at this
theorem RelK.cons' {p : Key × D} {kds : List (Key × D)} {kvs : List (Key × V)} (r : RelK K φ H (p :: kds) kvs) : ∃ v kvs', kvs = (p.1, v) :: kvs' ∧ RelD K φ H p.2 v ∧ RelK K φ H kds kvs' := by
  obtain ⟨h1, h2⟩ := r
  cases kvs with
  | nil => simp at h1
  | cons q kvs =>
    simp only [List.map_cons, List.cons.injEq] at h1 h2
    cases h2 with
    | cons a b => exact ⟨q.2, kvs, by rw [h1.1], a, h1.2, b⟩
theorem RelK.mk {p : Key × D} {v : V} {kds : List (Key × D)} {kvs : List (Key × V)} (a : RelD K φ H p.2 v) (r : RelK K φ H kds kvs) : RelK K φ H (p :: kds) ((p.1, v) :: kvs) := ⟨by simp [r.1], .cons a r.2⟩
theorem RelK.len {kds : List (Key × D)} {kvs : List (Key × V)} (r : RelK K φ H kds kvs) : kds.length = kvs.length := by
  have := congrArg List.length r.1
  simpa using this
theorem RelK.val (k : Key) : ∀ {kds : List (Key × D)} {kvs : List (Key × V)}, RelK K φ H kds kvs → (valD kds k = none ∧ valV kvs k = none) ∨ ∃ d v, valD kds k = some d ∧ valV kvs k = some v ∧ RelD K φ H d v
  | [], _, r => by rw [r.nil']; exact .inl ⟨rfl, rfl⟩
  | p :: kds, _, r => by
    obtain ⟨v, kvs, rfl, a, r⟩ := r.cons'
    by_cases e : p.1 = k
    · refine .inr ⟨p.2, v, by simp [valD, List.find?_cons, e], valV_pos e, a⟩
    · have e2 : valD (p :: kds) k = valD kds k := by simp [valD, List.find?_cons, e]
      rw [e2, valV_neg (p := (p.1, v)) e]
      exact RelK.val k r
theorem RelK.snoc {k : Key} {d : D} {v : V} (a : RelD K φ H d v) : ∀ {kds : List (Key × D)} {kvs : List (Key × V)}, RelK K φ H kds kvs → RelK K φ H (kds ++ [(k, d)]) (kvs ++ [(k, v)])
  | [], _, r => by rw [r.nil']; exact RelK.mk (p := (k, d)) a ⟨rfl, .nil⟩
  | p :: kds, _, r => by
    obtain ⟨u, kvs, rfl, b, r⟩ := r.cons'
    exact RelK.mk b (RelK.snoc a r)
theorem RelK.repl {k : Key} {d : D} {v : V} (a : RelD K φ H d v) : ∀ {kds : List (Key × D)} {kvs : List (Key × V)}, RelK K φ H kds kvs → RelK K φ H (kds.map fun kv => if kv.1 = k then (kv.1, d) else kv) (kvs.map fun kv => if kv.1 = k then (kv.1, v) else kv)
  | [], _, r => by rw [r.nil']; exact ⟨rfl, .nil⟩
  | p :: kds, _, r => by
    obtain ⟨u, kvs, rfl, b, r⟩ := r.cons'
    rw [List.map_cons, List.map_cons]
    by_cases e : p.1 = k
    · rw [if_pos e, if_pos e]; exact RelK.mk (p := (p.1, d)) a (RelK.repl a r)
    · rw [if_neg e, if_neg e]; exact RelK.mk b (RelK.repl a r)
theorem RelK.any (k : Key) : ∀ {kds : List (Key × D)} {kvs : List (Key × V)}, RelK K φ H kds kvs → (kds.any fun kv => decide (kv.1 = k)) = kvs.any fun kv => decide (kv.1 = k)
  | [], _, r => by rw [r.nil']; rfl
  | p :: kds, _, r => by
    obtain ⟨u, kvs, rfl, b, r⟩ := r.cons'
    rw [List.any_cons, List.any_cons, RelK.any k r]
theorem RelK.put {k : Key} {d : D} {v : V} {kds : List (Key × D)} {kvs : List (Key × V)} (r : RelK K φ H kds kvs) (a : RelD K φ H d v) : RelK K φ H (putD kds k d) (putK kvs k v) := by
  unfold putD putK
  rw [r.any k]
  split
  · exact r.repl a
  · exact r.snoc a
end
/-- the table of a dict that is read -/
def dctD (mh : MH) : D → Option (List (Key × D))
  | .ref n => match mh[n]? with
    | some (.dk kds) => some kds
    | some (.lk kds) => some kds
    | _ => none
  | _ => none
theorem key_rel {K : PySem.W.Frag} {φ : List Addr} {H : Hp} {d : D} {v : V} {k : Key} (r : RelD K φ H d v) (h : dKey d = some k) : v = kV k := by
  cases r with
  | int i => cases h; rfl
  | str x => cases h; rfl
  | _ => cases h
section
variable {X : Cx} {W : WX} {φ : List Addr} {H : Hp} {mh : MH}
theorem dct_of {c : D} {y : V} {kds : List (Key × D)} (hh : HR X.K φ mh H) (r : RelD X.K φ H c y) (h : dctD mh c = some kds) : ∃ a kvs, y = .ref a ∧ Rd H a (.dK kvs) ∧ RelK X.K φ H kds kvs := by
  cases r with
  | ref hn =>
    simp only [dctD] at h
    split at h
    · rename_i hx; cases h
      obtain ⟨kvs, e, rk⟩ := hh.ob _ _ _ hn hx
      exact ⟨_, kvs, rfl, .inl e, rk⟩
    · rename_i hx; cases h
      obtain ⟨kvs, od, e, rk⟩ := hh.ob _ _ _ hn hx
      exact ⟨_, kvs, rfl, .inr ⟨od, e⟩, rk⟩
    · cases h
  | _ => cases h
/-! ### d[k] -/
def oIxX : Op2 := fun a b mh => match dctD mh a with
  | some kds => match dKey b with
    | some k => (valD kds k).map fun d => (d, mh)
    | none => none
  | none => oIx a b mh
theorem r_ixX (hu : X.A.units + 64 < cLine) : IxR X (iR2 X.K oIxX) := by
  rintro value slice pins s σ H x y v u Q I rx ry ⟨φ, mh, a, b, ra, rb, hh, p⟩ hs
  unfold oIxX at p
  cases hd : dctD mh a with
  | none => rw [hd] at p; exact r_ix value slice pins s σ H x y v u Q I rx ry ⟨φ, mh, a, b, ra, rb, hh, p⟩ hs
  | some kds =>
    rw [hd] at p
    simp only at p
    cases hk : dKey b with
    | none => rw [hk] at p; exact p.elim
    | some k =>
      rw [hk] at p
      simp only at p
      obtain ⟨ad, kvs, rfl, rd, rk⟩ := dct_of hh ra hd
      have ey := key_rel rb hk
      subst ey
      rcases rk.val k with ⟨e1, e2⟩ | ⟨d, w, e1, e2, rw'⟩
      · rw [e1] at p; exact p.elim
      · rw [e1] at p
        have g : DGet H ad (kV k) (some w) := .inl ⟨kvs, k, rd, rfl, e2.symm⟩
        cases rx
        exact tail_any (dict_typeIs I g) PySem.F.slot_dict_getitem.lookup (d_getItem (by omega) I g ry fun w' s' I' rw2 => ⟨w, H, I', rw2, postO_val hh p rw'⟩) hs
theorem se_ixX {a b : Expr} {f g : ME} {pos : Pos} (hu : X.A.units + 64 < cLine) (ha : SE X W a f) (hb : SE X W b g) (hs : PlainIx b := by exact fun _ _ => rfl) : SE X W (.Subscript a b pos) (bi oIxX f g) := (pe_ix (r_ixX hu) ha hb hs).imp (imp2 fun _ _ _ _ h => h)
/-! ### in -/
def oInX : Op2 := fun a b mh => match dctD mh b with
  | some kds => match dKey a with
    | some k => some (.bl (valD kds k).isSome, mh)
    | none => none
  | none => oIn a b mh
def oNotInX : Op2 := fun a b mh => match dctD mh b with
  | some kds => match dKey a with
    | some k => some (.bl (!(valD kds k).isSome), mh)
    | none => none
  | none => oNotIn a b mh
theorem RelK.isSome {K : PySem.W.Frag} {kds : List (Key × D)} {kvs : List (Key × V)} (r : RelK K φ H kds kvs) (k : Key) : (valV kvs k).isSome = (valD kds k).isSome := by
  rcases r.val k with ⟨e1, e2⟩ | ⟨d, w, e1, e2, _⟩ <;> rw [e1, e2] <;> rfl
theorem r_inX (hu : X.A.units + 65 < cLine) : OpR X (compareOp .In) (iR2 X.K oInX) := by
  rintro pins s σ H x y v u Q I rx ry ⟨φ, mh, a, b, ra, rb, hh, p⟩
  unfold oInX at p
  cases hd : dctD mh b with
  | none => rw [hd] at p; exact r_in hu pins s σ H x y v u Q I rx ry ⟨φ, mh, a, b, ra, rb, hh, p⟩
  | some kds =>
    rw [hd] at p
    simp only at p
    cases hk : dKey a with
    | none => rw [hk] at p; exact p.elim
    | some k =>
      rw [hk] at p
      obtain ⟨ad, kvs, rfl, rd, rk⟩ := dct_of hh rb hd
      have ey := key_rel ra hk
      subst ey
      cases ry
      have g : DGet H ad (kV k) (valV kvs k) := .inl ⟨kvs, k, rd, rfl, rfl⟩
      exact d_in (by omega) I g rx fun s' I' => ⟨.bl (valV kvs k).isSome, H, I', rfl, by rw [rk.isSome k]; exact postO_val hh p (.bl _)⟩
theorem r_notInX (hu : X.A.units + 65 < cLine) : OpR X (compareOp .NotIn) (iR2 X.K oNotInX) := by
  rintro pins s σ H x y v u Q I rx ry ⟨φ, mh, a, b, ra, rb, hh, p⟩
  unfold oNotInX at p
  cases hd : dctD mh b with
  | none => rw [hd] at p; exact r_notIn hu pins s σ H x y v u Q I rx ry ⟨φ, mh, a, b, ra, rb, hh, p⟩
  | some kds =>
    rw [hd] at p
    simp only at p
    cases hk : dKey a with
    | none => rw [hk] at p; exact p.elim
    | some k =>
      rw [hk] at p
      obtain ⟨ad, kvs, rfl, rd, rk⟩ := dct_of hh rb hd
      have ey := key_rel ra hk
      subst ey
      cases ry
      have g : DGet H ad (kV k) (valV kvs k) := .inl ⟨kvs, k, rd, rfl, rfl⟩
      exact d_notIn (by omega) I g rx fun s' I' => ⟨.bl (!(valV kvs k).isSome), H, I', rfl, by rw [rk.isSome k]; exact postO_val hh p (.bl _)⟩
/-! ### {} -/
def dct0 : ME := fun _ mh => .ok (.ref mh.length) (mh ++ [.dk []])
theorem se_dct0 {pos : Pos} : SE X W (.Dict [] [] pos) dct0 := pe_dnewK.imp (by
  rintro σ H Q ⟨φ, env, mh, re, hh, p⟩ a ha
  exact p (φ ++ [a]) (.ref a) _ px1 (Kp.new ha) (hh.push ha (hh.fresh ha) ⟨[], upd_same, rfl, .nil⟩) (.ref hh.last))
/-! ### o[i] = e, o a list or a dict -/
def stX (mh : MH) (o i v : D) : Option MH := match o with
  | .ref n => match mh[n]? with
    | some (.lst xs) => (match i with
      | .int k => (ixN xs.length k).map fun j => mh.set n (.lst (xs.set j v))
      | _ => none)
    | some (.dk kds) => (match dKey i with
      | some k => if kds.length < sizeLine then some (mh.set n (.dk (putD kds k v))) else none
      | none => none)
    | _ => none
  | _ => none
def setX (fo fi f : ME) : MS := fun env mh => lift (f env mh) env fun v mh1 => lift (fo env mh1) env fun o mh2 => lift (fi env mh2) env fun i mh3 => match stX mh3 o i v with
  | some mh4 => .nx env mh4
  | none => .no
def tSetX (K : PySem.W.Frag) : TSet := fun o i v H Q => ∃ φ mh od id vd mh', RelD K φ H od o ∧ RelD K φ H id i ∧ RelD K φ H vd v ∧ HR K φ mh H ∧ stX mh od id vd = some mh' ∧ ∀ H', Kp H H' → HR K φ mh' H' → Q H'
theorem set_X (hu : X.A.units + 64 < cLine) : PSet X (tSetX X.K) := by
  rintro pins s σ H o i v ov iv u Q I ro ri rv ⟨φ, mh, od, id, vd, mh', r1, r2, r3, hh, e, q⟩
  unfold stX at e
  cases r1 with
  | ref hn =>
    rename_i n a
    simp only at e
    split at e
    · rename_i xs hx
      split at e
      · rename_i k
        cases hj : ixN xs.length k with
        | none => rw [hj] at e; cases e
        | some j =>
          rw [hj] at e
          cases e
          cases r2
          obtain ⟨vs, e1, rs⟩ := hh.lst hn hx
          exact set_list pins s σ H _ _ v ov iv u Q I ro ri rv ⟨a, vs, k, j, rfl, rfl, e1, by rw [← rs.length]; exact hj, q _ (Kp.mut e1 fun z => z) (hh.setL hn e1 (rs.set r3 j))⟩
      · cases e
    · rename_i kds hx
      split at e
      · rename_i k hk
        split at e
        · rename_i hl
          cases e
          have ey := key_rel r2 hk
          subst ey
          cases ro
          obtain ⟨kvs, e1, rk⟩ := hh.ob _ _ _ hn hx
          have hH : Kp H (upd H a (.dK (putK kvs k v))) := Kp.mut e1 fun z => z
          exact d_setItem (by omega) I (.inl ⟨kvs, k, e1, rfl, by rw [← rk.len]; exact hl, rfl⟩) ri rv fun s' I' => ⟨_, I', q _ hH (hh.put hn e1 (fun z => z) ⟨_, upd_same, (rk.put r3).mono (Px.refl φ) hH⟩)⟩
        · cases e
      · cases e
    · cases e
  | _ => cases e
theorem ss_setX {o i e : Expr} {fo fi f : ME} {pos pos' : Pos} (hu : X.A.units + 64 < cLine) (he : SE X W e f) (ho : SE X W o fo) (hi : SE X W i fi) (hs : swapsWithSole [.Subscript o i pos'] e pos.line X.env = pure false := by rfl) (hw : swappedStores [.Subscript o i pos'] e X.env = pure none := by rfl)
    (h1 : (assignEach [.Subscript o i pos'] X.env).map (·.2) = [assign (.Subscript o i pos') X.env] := by rfl)
    (ha : ∀ v, assign (.Subscript o i pos') X.env v = (do
      let dv ← holding [v] (eval o X.env)
      let jv ← holding [v, dv] (eval i X.env)
      standAt pos'
      holding [v, dv, jv] (setItem dv jv v)
      release [v, dv, jv] []) := by intro _; rfl) : SS X W (.Assign [.Subscript o i pos'] e pos) (setX fo fi f) := (ps_asg he (pg_sub ho hi (set_X hu) ha) hs hw h1).imp (by
  rintro D σ H ⟨φ, env, mh, re, hh, p⟩
  refine ⟨φ, env, mh, re, hh, post_mono (Px.refl φ) (Kp.refl H) (post_lift (R := RelD X.K) re p) ?_⟩
  rintro x H1 ⟨φ1, v, mh1, p1, k1, h1, r1, q⟩
  have re1 := re.mono p1 k1
  refine ⟨φ1, env, mh1, re1, h1, post_mono (Px.refl φ1) (Kp.refl H1) (post_lift (R := RelD X.K) re1 q) ?_⟩
  rintro y H2 ⟨φ2, od, mh2, p2, k2, h2, r2, q2⟩
  have re2 := re1.mono p2 k2
  refine ⟨φ2, env, mh2, re2, h2, post_mono (Px.refl φ2) (Kp.refl H2) (post_lift (R := RelD X.K) re2 q2) ?_⟩
  rintro z H3 ⟨φ3, id, mh3, p3, k3, h3, r3, q3⟩
  have re3 := re2.mono p3 k3
  cases hst : stX mh3 od id v with
  | none => rw [hst] at q3; exact q3.elim
  | some mh4 =>
    rw [hst] at q3
    exact ⟨φ3, mh3, od, id, v, mh4, r2.mono p3 k3, r3, (r1.mono p2 k2).mono p3 k3, h3, hst, fun H' kk hh' => q3 φ3 σ H' (Px.refl φ3) kk hh' (re3.mono (Px.refl φ3) kk)⟩)
/-! ### d.get(k), d.get(k, x), d.setdefault(k, x) -/
def isDk (mh : MH) (o : D) : Bool := (dctD mh o).isSome
def dget1 (fo f : ME) : ME := fun env mh => (fo env mh).bind fun o mh1 => if isDk mh1 o = true then (f env mh1).bind fun kd mh2 => (match dctD mh2 o, dKey kd with
  | some kds, some k => .ok ((valD kds k).getD .non) mh2
  | _, _ => .no) else .no
def dget2 (fo f g : ME) : ME := fun env mh => (fo env mh).bind fun o mh1 => if isDk mh1 o = true then (f env mh1).bind fun kd mh2 => (g env mh2).bind fun x mh3 => (match dctD mh3 o, dKey kd with
  | some kds, some k => .ok ((valD kds k).getD x) mh3
  | _, _ => .no) else .no
def dsetd (fo f g : ME) : ME := fun env mh => (fo env mh).bind fun o mh1 => if isDk mh1 o = true then (f env mh1).bind fun kd mh2 => (g env mh2).bind fun x mh3 => (match o with
  | .ref n => (match mh3[n]?, dKey kd with
    | some (.dk kds), some k => if kds.length < sizeLine then (match valD kds k with
      | some d => .ok d mh3
      | none => .ok x (mh3.set n (.dk (putD kds k x)))) else .no
    | _, _ => .no)
  | _ => .no) else .no
theorem isD_of {c : D} {y : V} (hh : HR X.K φ mh H) (r : RelD X.K φ H c y) (h : isDk mh c = true) : ∃ a, y = .ref a ∧ IsD H a := by
  unfold isDk at h
  obtain ⟨kds, e⟩ := Option.isSome_iff_exists.mp h
  obtain ⟨a, kvs, e2, rd, _⟩ := dct_of hh r e
  exact ⟨a, e2, .inl ⟨kvs, rd⟩⟩
theorem se_dget1 {o e : Expr} {fo f : ME} {apos cpos : Pos} (hu : X.A.units + 64 < cLine) (ho : SE X W o fo) (he : SE X W e f) (m : M1 X o "get" apos e cpos := by exact ⟨rfl, rfl, rfl, rfl⟩) : SE X W (.Call (.Attribute o "get" apos) [e] [] cpos) (dget1 fo f) := (pe_dget1 (by omega) ho he m).imp (by
  rintro σ H Q ⟨φ, env, mh, re, hh, p⟩
  refine ⟨φ, env, mh, re, hh, post_mono (Px.refl φ) (Kp.refl H) (post_bind (R1 := RelD X.K) p) ?_⟩
  rintro x H1 ⟨φ1, od, mh1, p1, k1, h1, r1, q⟩
  by_cases hd : isDk mh1 od = true
  · rw [if_pos hd] at q
    obtain ⟨a, rfl, isd⟩ := isD_of h1 r1 hd
    refine ⟨a, rfl, isd, φ1, env, mh1, re.mono p1 k1, h1, post_mono (Px.refl φ1) (Kp.refl H1) (post_bind (R1 := RelD X.K) q) ?_⟩
    rintro y H2 ⟨φ2, kd, mh2, p2, k2, h2, r2, q2⟩
    cases hc : dctD mh2 od with
    | none => rw [hc] at q2; exact q2.elim
    | some kds =>
      cases hk : dKey kd with
      | none => rw [hc, hk] at q2; exact q2.elim
      | some k =>
        rw [hc, hk] at q2
        obtain ⟨a', kvs, e, rd, rk⟩ := dct_of h2 (r1.mono p2 k2) hc
        cases e
        have ey := key_rel r2 hk
        subst ey
        refine ⟨valV kvs k, .inl ⟨kvs, k, rd, rfl, rfl⟩, q2 φ2 _ H2 (Px.refl φ2) (Kp.refl H2) h2 ?_⟩
        rcases rk.val k with ⟨e1, e2⟩ | ⟨d, w, e1, e2, rw'⟩
        · rw [e1, e2]; exact .non
        · rw [e1, e2]; exact rw'
  · rw [if_neg hd] at q; exact q.elim)
theorem se_dget2 {o e e2 : Expr} {fo f g : ME} {apos cpos : Pos} (hu : X.A.units + 64 < cLine) (ho : SE X W o fo) (he : SE X W e f) (he2 : SE X W e2 g) (m : M2 X o "get" apos e e2 cpos := by exact ⟨rfl, rfl, rfl, rfl⟩) : SE X W (.Call (.Attribute o "get" apos) [e, e2] [] cpos) (dget2 fo f g) := (pe_dget2 (by omega) ho he he2 m).imp (by
  rintro σ H Q ⟨φ, env, mh, re, hh, p⟩
  refine ⟨φ, env, mh, re, hh, post_mono (Px.refl φ) (Kp.refl H) (post_bind (R1 := RelD X.K) p) ?_⟩
  rintro x H1 ⟨φ1, od, mh1, p1, k1, h1, r1, q⟩
  by_cases hd : isDk mh1 od = true
  · rw [if_pos hd] at q
    obtain ⟨a, rfl, isd⟩ := isD_of h1 r1 hd
    refine ⟨a, rfl, isd, φ1, env, mh1, re.mono p1 k1, h1, post_mono (Px.refl φ1) (Kp.refl H1) (post_bind (R1 := RelD X.K) q) ?_⟩
    rintro y H2 ⟨φ2, kd, mh2, p2, k2, h2, r2, q2⟩
    refine ⟨φ2, env, mh2, (re.mono p1 k1).mono p2 k2, h2, post_mono (Px.refl φ2) (Kp.refl H2) (post_bind (R1 := RelD X.K) q2) ?_⟩
    rintro z H3 ⟨φ3, zd, mh3, p3, k3, h3, r3, q3⟩
    cases hc : dctD mh3 od with
    | none => rw [hc] at q3; exact q3.elim
    | some kds =>
      cases hk : dKey kd with
      | none => rw [hc, hk] at q3; exact q3.elim
      | some k =>
        rw [hc, hk] at q3
        obtain ⟨a', kvs, e, rd, rk⟩ := dct_of h3 ((r1.mono p2 k2).mono p3 k3) hc
        cases e
        have ey := key_rel r2 hk
        subst ey
        refine ⟨valV kvs k, .inl ⟨kvs, k, rd, rfl, rfl⟩, q3 φ3 _ H3 (Px.refl φ3) (Kp.refl H3) h3 ?_⟩
        rcases rk.val k with ⟨e1, e2⟩ | ⟨d, w, e1, e2, rw'⟩
        · rw [e1, e2]; exact r3
        · rw [e1, e2]; exact rw'
  · rw [if_neg hd] at q; exact q.elim)
theorem se_dsetd {o e e2 : Expr} {fo f g : ME} {apos cpos : Pos} (ho : SE X W o fo) (he : SE X W e f) (he2 : SE X W e2 g) (m : M2 X o "setdefault" apos e e2 cpos := by exact ⟨rfl, rfl, rfl, rfl⟩) : SE X W (.Call (.Attribute o "setdefault" apos) [e, e2] [] cpos) (dsetd fo f g) := (pe_dsetd ho he he2 m).imp (by
  rintro σ H Q ⟨φ, env, mh, re, hh, p⟩
  refine ⟨φ, env, mh, re, hh, post_mono (Px.refl φ) (Kp.refl H) (post_bind (R1 := RelD X.K) p) ?_⟩
  rintro x H1 ⟨φ1, od, mh1, p1, k1, h1, r1, q⟩
  by_cases hd : isDk mh1 od = true
  · rw [if_pos hd] at q
    obtain ⟨a, rfl, isd⟩ := isD_of h1 r1 hd
    refine ⟨a, rfl, isd, φ1, env, mh1, re.mono p1 k1, h1, post_mono (Px.refl φ1) (Kp.refl H1) (post_bind (R1 := RelD X.K) q) ?_⟩
    rintro y H2 ⟨φ2, kd, mh2, p2, k2, h2, r2, q2⟩
    refine ⟨φ2, env, mh2, (re.mono p1 k1).mono p2 k2, h2, post_mono (Px.refl φ2) (Kp.refl H2) (post_bind (R1 := RelD X.K) q2) ?_⟩
    rintro z H3 ⟨φ3, zd, mh3, p3, k3, h3, r3, q3⟩
    cases r1 with
    | ref hn =>
      rename_i n
      simp only at q3
      split at q3
      · rename_i kds k hx hk
        split at q3
        · rename_i hl
          have hn3 := p3.get (p2.get hn)
          obtain ⟨kvs, e1, rk⟩ := h3.ob _ _ _ hn3 hx
          have ey := key_rel r2 hk
          subst ey
          refine ⟨kvs, k, e1, rfl, by rw [← rk.len]; exact hl, fun v hv => ?_, fun hv => ?_⟩
          · rcases rk.val k with ⟨f1, f2⟩ | ⟨d, w, f1, f2, rw'⟩
            · rw [f2] at hv; cases hv
            · rw [f1] at q3
              rw [f2] at hv
              cases hv
              exact q3 φ3 _ H3 (Px.refl φ3) (Kp.refl H3) h3 rw'
          · rcases rk.val k with ⟨f1, f2⟩ | ⟨d, w, f1, f2, rw'⟩
            · rw [f1] at q3
              have hH : Kp H3 (upd H3 a (.dK (putK kvs k z))) := Kp.mut e1 fun z => z
              exact q3 φ3 z _ (Px.refl φ3) hH (h3.put hn3 e1 (fun z => z) ⟨_, upd_same, (rk.put r3).mono (Px.refl φ3) hH⟩) (r3.mono (Px.refl φ3) hH)
            · rw [f2] at hv; cases hv
        · exact q3.elim
      · exact q3.elim
    | _ => exact q3.elim
  · rw [if_neg hd] at q; exact q.elim)
end
end Det
/-! Det, part X: dict comprehensions, a comprehension over a dict. -/
namespace Det
open PySem PySem.Spec PyProof.Rows L2
def loopX (n : Nat) (chk : MH → Bool) (p : Pat) (test : MT) (ek ev : ME) (env : Nv) : List D → MH → Res D
  | [], mh => if chk mh = true then .ok (.ref n) mh else .no
  | d :: ds, mh => if chk mh = true then (match setP p d env with
    | some e => ((test e mh).nox).bind fun b mh2 => if b = true then ((ek e mh2).nox).bind fun y mh3 => ((ev e mh3).nox).bind fun z mh4 => (match mh4[n]?, dKey y with
        | some (.dk kds), some k => if kds.length < sizeLine then loopX n chk p test ek ev env ds (mh4.set n (.dk (putD kds k z))) else .no
        | _, _ => .no) else loopX n chk p test ek ev env ds mh2
    | none => .no) else .no
def dcp (fi : MI) (p : Pat) (test : MT) (ek ev : ME) (vs : List Nat) : ME := fun env mh => (fi env mh).bind fun it mh1 =>
  loopX mh1.length it.chk p test ek ev (wipeD env vs) it.items (mh1 ++ [.dk []])
section
variable {X : Cx} {W : WX} {ft : MT} {pos : Pos}
theorem wipe_twice (σ : L2.St) (vs : List Nat) : ∀ us : List Nat, (∀ u ∈ us, u ∈ vs) → wipe (wipe σ vs) us = wipe σ vs := by
  intro us
  induction us with
  | nil => intro _; rfl
  | cons u us ih =>
    intro hu
    show (wipe (wipe σ vs) us).set u none = wipe σ vs
    rw [ih fun z hz => hu z (List.mem_cons_of_mem _ hz)]
    apply List.ext_getElem?
    intro j
    by_cases hj : j = u
    · subst hj
      by_cases hl : j < (wipe σ vs).length
      · rw [List.getElem?_set_self hl]
        cases hx : (wipe σ vs)[j]? with
        | none => rw [List.getElem?_eq_none_iff] at hx; omega
        | some o =>
          cases o with
          | none => rfl
          | some z => exact absurd (hu j List.mem_cons_self) (wipe_some hx).2
      · rw [List.getElem?_eq_none (by simpa using hl), List.getElem?_eq_none (by simpa using hl)]
    · rw [List.getElem?_set_ne (Ne.symm hj)]
theorem imp_dcp {fi : MI} {p : Pat} {ek ev : ME} {vs : List Nat} (hv : ∀ j ∈ p.ix, j ∈ vs) : ∀ σ H Q, iE X.K X.mg W (dcp fi p ft ek ev vs) σ H Q →
    tDc (iI X.K X.mg W fi) (iG X.K p) (iT X.K X.mg W0 ft) (iE X.K X.mg W0 ek) (iE X.K X.mg W0 ev) vs σ H Q := by
  rintro σ H Q ⟨φ, env, mh, re, hh, pq⟩
  refine ⟨φ, env, mh, re, hh, post_mono (Px.refl φ) (Kp.refl H) (post_bind (R1 := ItOk X.K) pq) ?_⟩
  rintro J H1 ⟨φ1, it, mh1, p1, k1, h1, J1, q⟩ Dl hD
  have hnew : HR X.K (φ1 ++ [Dl]) (mh1 ++ [.dk []]) (upd H1 Dl (.dK [])) := h1.push hD (h1.fresh hD) ⟨[], upd_same, rfl, .nil⟩
  refine ⟨fun i m H => m = it.items.length - i ∧ i ≤ it.items.length ∧ ∃ φ mh, Px (φ1 ++ [Dl]) φ ∧ Kp H1 H ∧ HR X.K φ mh H ∧ post X.K X.mg W (RelD X.K) σ φ H (loopX mh1.length it.chk p ft ek ev (wipeD env vs) (it.items.drop i) mh) Q,
    ⟨_, rfl, Nat.zero_le _, φ1 ++ [Dl], _, Px.refl _, Kp.new hD, hnew, post_mono px1 (Kp.new hD) q fun _ _ q => q⟩, ?_⟩
  rintro i m H ⟨rfl, hi, φ, mh, p2, k2, hh, q⟩
  have hat : φ[mh1.length]? = some Dl := p2.get h1.last
  by_cases hlt : i < it.items.length
  · have ed : it.items.drop i = it.items[i] :: it.items.drop (i + 1) := List.drop_eq_getElem_cons hlt
    rw [ed] at q
    unfold loopX at q
    by_cases hck : it.chk mh = true
    · rw [if_pos hck] at q
      obtain ⟨hgo, _⟩ := J1 i φ mh H (px1.trans p2) k2 hh hck
      obtain ⟨g1, g2⟩ := hgo it.items[i] (by simp [hlt])
      refine .inr ⟨g1, fun H' => ∃ φ mh, Px (φ1 ++ [Dl]) φ ∧ Kp H1 H' ∧ HR X.K φ mh H' ∧ post X.K X.mg W (RelD X.K) σ φ H' (loopX mh1.length it.chk p ft ek ev (wipeD env vs) (it.items.drop (i + 1)) mh) Q,
        fun H' h => ⟨it.items.length - (i + 1), by omega, rfl, hlt, h⟩, fun x H' y => ?_⟩
      obtain ⟨k3, h3, r3⟩ := g2 x H' y
      have re2 : RelE X.K φ H' (wipeD env vs) (wipe σ vs) := ((re.mono (p1.trans (px1.trans p2)) ((k1.trans k2).trans k3))).wipe vs
      cases hse : setP p it.items[i] (wipeD env vs) with
      | none => rw [hse] at q; exact q.elim
      | some e =>
        rw [hse] at q
        refine ⟨φ, wipeD env vs, mh, it.items[i], e, re2, h3, r3, hse, fun σ' he hw => ⟨by rw [hw vs hv]; exact wipe_twice σ vs vs fun _ h => h, φ, e, mh, he, h3, ?_⟩⟩
        refine post_mono (Px.refl φ) (Kp.refl H') (post_nox (R1 := RB) (post_mono (Px.refl φ) k3 q fun _ _ q => q)) ?_
        rintro b H4 ⟨φ4, b', mh4, p4, k4, h4, rb, q4⟩
        have e1 : b' = b := rb
        subst e1
        cases b' with
        | false => exact ⟨φ4, mh4, p2.trans p4, (k2.trans k3).trans k4, h4, q4⟩
        | true =>
          refine ⟨φ4, e, mh4, he.mono p4 k4, h4, post_mono (Px.refl φ4) (Kp.refl H4) (post_nox (R1 := RelD X.K) q4) ?_⟩
          rintro y H5 ⟨φ5, d5, mh5, p5, k5, h5, r5, q5⟩
          refine ⟨φ5, e, mh5, (he.mono p4 k4).mono p5 k5, h5, post_mono (Px.refl φ5) (Kp.refl H5) (post_nox (R1 := RelD X.K) q5) ?_⟩
          rintro z H6 ⟨φ6, d6, mh6, p6, k6, h6, r6, q6⟩
          have hat6 : φ6[mh1.length]? = some Dl := p6.get (p5.get (p4.get hat))
          split at q6
          · rename_i kds k hl hk
            split at q6
            · rename_i hz
              obtain ⟨kvs, hv6, rk⟩ := h6.ob _ _ _ hat6 hl
              have ey := key_rel r5 hk
              subst ey
              have hH : Kp H6 (upd H6 Dl (.dK (putK kvs k z))) := Kp.mut hv6 fun z => z
              refine ⟨kvs, k, rfl, hv6, by rw [← rk.len]; exact hz, φ6, _, ((p2.trans p4).trans p5).trans p6, ((((k2.trans k3).trans k4).trans k5).trans k6).trans hH, h6.put (o' := .dk (putD kds k d6)) hat6 hv6 (fun z => z) ⟨_, upd_same, (rk.put r6).mono (Px.refl φ6) hH⟩, post_mono (Px.refl φ6) hH q6 fun _ _ q => q⟩
            · exact q6.elim
          · exact q6.elim
    · rw [if_neg hck] at q; exact q.elim
  · have e : i = it.items.length := by omega
    subst e
    rw [List.drop_length] at q
    unfold loopX at q
    by_cases hck : it.chk mh = true
    · rw [if_pos hck] at q
      exact .inl ⟨(J1 _ φ mh H (px1.trans p2) k2 hh hck).2 (Nat.le_refl _), q φ _ H (Px.refl φ) (Kp.refl H) hh (.ref hat)⟩
    · rw [if_neg hck] at q; exact q.elim
theorem se_dcp {kx vx tg iter : Expr} {ifs : List Expr} {scope : Scope} {own : List (Str × Nat)} {fi : MI} {p : Pat} {ek ev : ME} (hc : X.calm = true) (hN : X.N.Nodup) (hi : SI X W tg iter fi) (ok : BlkOk X.N X.env.scope scope own)
    (hv : ∀ j ∈ p.ix, j ∈ own.map (·.2)) (hg : ∀ (s : Shared) (H : Hp) (C : Addr) (cl : List (Str × Addr)) (fp : List Addr), SG (X.blk s H scope (compEnvC scope cl C X.env) fp) tg p)
    (ht : ∀ (s : Shared) (H : Hp) (C : Addr) (cl : List (Str × Addr)) (fp : List Addr), STs (X.blk s H scope (compEnvC scope cl C X.env) fp) W0 ifs ft)
    (hk : ∀ (s : Shared) (H : Hp) (C : Addr) (cl : List (Str × Addr)) (fp : List Addr), SE (X.blk s H scope (compEnvC scope cl C X.env) fp) W0 kx ek)
    (he : ∀ (s : Shared) (H : Hp) (C : Addr) (cl : List (Str × Addr)) (fp : List Addr), SE (X.blk s H scope (compEnvC scope cl C X.env) fp) W0 vx ev) (hs : ∀ x, foldedSetIterable iter X.env x = pure x := by intro _; rfl) :
    SE X W (.DictComp kx vx [⟨tg, iter, ifs, 0⟩] scope pos) (dcp fi p ft ek ev (own.map (·.2))) := (pe_dc hc hN hi ok hg ht hk he hs).imp (imp_dcp hv)
/-! ### what runs while a dict is walked: the dict is read, not written -/
/-- where the i-th name is a dict, it is locked while f runs -/
def lkE (i : Nat) (f : ME) : ME := fun env mh => match env[i]? with
  | some (some (.ref n)) => (match mh[n]? with
    | some (.dk kds) => (f env (mh.set n (.lk kds))).bind fun d mh' => (match mh'[n]? with
      | some (.lk kds') => .ok d (mh'.set n (.dk kds'))
      | _ => .no)
    | _ => f env mh)
  | _ => f env mh
theorem HR.lock {φ : List Addr} {H : Hp} {mh : MH} {n : Nat} {a : Addr} {kds : List (Key × D)} {kvs : List (Key × V)} (hh : HR X.K φ mh H) (hn : φ[n]? = some a) (e : H a = some (.dK kvs)) (rk : RelK X.K φ H kds kvs) (od : Obj) :
    Kp H (upd H a (.frz od (.dK kvs))) ∧ HR X.K φ (mh.set n (.lk kds)) (upd H a (.frz od (.dK kvs))) := by
  have k : Kp H (upd H a (.frz od (.dK kvs))) := Kp.mut e fun z => z
  exact ⟨k, hh.put hn e (fun z => z) ⟨kvs, od, upd_same, rk.mono (Px.refl φ) k⟩⟩
/-- behind the lock: what stood ahead of it stands -/
theorem Kp.unlock {H H1 : Hp} {a : Addr} {kvs : List (Key × V)} {od : Obj} (e : H a = some (.dK kvs)) (k : Kp (upd H a (.frz od (.dK kvs))) H1) : Kp H (upd H1 a (.dK kvs)) := fun b o hb sb => by
  have hne : b ≠ a := fun z => by subst z; rw [e] at hb; cases hb; exact sb
  rw [upd_ne hne]
  exact k b o (by rw [upd_ne hne]; exact hb) sb
theorem RelD.relock {φ : List Addr} {H1 : Hp} {a : Addr} {kvs : List (Key × V)} {od : Obj} (e : H1 a = some (.frz od (.dK kvs))) : (∀ {d : D} {v : V}, RelD X.K φ H1 d v → RelD X.K φ (upd H1 a (.dK kvs)) d v) := by
  have sq : ∀ {p : Addr} {vs : List V}, SqT X.K H1 p vs → SqT X.K (upd H1 a (.dK kvs)) p vs := fun {p vs} h => by
    rcases h with (h | ⟨o, h⟩) | h
    · exact .inl (.inl (by rw [upd_ne (fun z => by subst z; rw [e] at h; cases h)]; exact h))
    · exact .inl (.inr ⟨o, by rw [upd_ne (fun z => by subst z; rw [e] at h; cases h)]; exact h⟩)
    · exact .inr h
  have rl : ∀ {p : Addr} {vs : List V}, RoL X.K H1 p vs → RoL X.K (upd H1 a (.dK kvs)) p vs := fun {p vs} h => by
    rcases h with ⟨o, h⟩ | h
    · exact .inl ⟨o, by rw [upd_ne (fun z => by subst z; rw [e] at h; cases h)]; exact h⟩
    · exact .inr h
  have go : ∀ (n : Nat), (∀ {d : D} {v : V}, sizeOf d ≤ n → RelD X.K φ H1 d v → RelD X.K φ (upd H1 a (.dK kvs)) d v) := by
    intro n
    induction n with
    | zero => intro d v h; cases d <;> simp at h
    | succ n ih =>
      have all : ∀ (ds : List D) (vs : List V), sizeOf ds ≤ n → RelDs X.K φ H1 ds vs → RelDs X.K φ (upd H1 a (.dK kvs)) ds vs := by
        intro ds
        induction ds with
        | nil => intro vs _ r; cases r; exact .nil
        | cons d ds ih2 =>
          intro vs h r
          cases r with
          | cons h1 t =>
            simp at h
            exact .cons (ih (by omega) h1) (ih2 _ (by omega) t)
      intro d v h r
      cases r with
      | non => exact .non
      | bl b => exact .bl b
      | int i => exact .int i
      | str x => exact .str x
      | ty n => exact .ty n
      | ref h2 => exact .ref h2
      | tup hs t => simp at h; exact .tup (sq hs) (all _ _ (by omega) t)
      | rol hs t => simp at h; exact .rol (rl hs) (all _ _ (by omega) t)
      | exc h1 x hd l t =>
        simp at h
        exact .exc (by rw [upd_ne (fun z => by subst z; rw [e] at h1; cases h1)]; exact h1) x (by rw [upd_ne (fun z => by subst z; rw [e] at hd; cases hd)]; exact hd) l (all _ _ (by omega) t)
  intro d v r
  exact go _ (Nat.le_refl _) r
theorem RelDs.relock {φ : List Addr} {H1 : Hp} {a : Addr} {kvs : List (Key × V)} {od : Obj} (e : H1 a = some (.frz od (.dK kvs))) : ∀ {ds : List D} {vs : List V}, RelDs X.K φ H1 ds vs → RelDs X.K φ (upd H1 a (.dK kvs)) ds vs
  | _, _, .nil => .nil
  | _, _, .cons h t => .cons (RelD.relock e h) (RelDs.relock e t)
theorem HR.unlock {φ : List Addr} {H1 : Hp} {mh : MH} {n : Nat} {a : Addr} {kds : List (Key × D)} {kvs : List (Key × V)} {od : Obj} (hh : HR X.K φ mh H1) (hn : φ[n]? = some a) (e : H1 a = some (.frz od (.dK kvs))) (rk : RelK X.K φ H1 kds kvs) :
    HR X.K φ (mh.set n (.dk kds)) (upd H1 a (.dK kvs)) := by
  refine ⟨by simp [hh.len], hh.nd, fun m b ob h1 h2 => ?_⟩
  by_cases hm : m = n
  · subst hm
    rw [hn] at h1; cases h1
    rw [List.getElem?_set_self (hh.lt hn)] at h2
    cases h2
    exact ⟨kvs, upd_same, rk.1, RelDs.relock e rk.2⟩
  · rw [List.getElem?_set_ne (Ne.symm hm)] at h2
    have hne : b ≠ a := fun z => hm (hh.inj h1 (z ▸ hn))
    have r := hh.ob m b ob h1 h2
    cases ob with
    | lst ds => obtain ⟨vs, h, r⟩ := r; exact ⟨vs, by rw [upd_ne hne]; exact h, RelDs.relock e r⟩
    | dk ds => obtain ⟨vs, h, r⟩ := r; exact ⟨vs, by rw [upd_ne hne]; exact h, r.1, RelDs.relock e r.2⟩
    | dt ds => obtain ⟨vs, h, r⟩ := r; exact ⟨vs, by rw [upd_ne hne]; exact h, r.1, RelDs.relock e r.2⟩
    | lk ds => obtain ⟨vs, o2, h, r⟩ := r; exact ⟨vs, o2, by rw [upd_ne hne]; exact h, r.1, RelDs.relock e r.2⟩
theorem pe_lk {e : Expr} {t : TE} (h : PE X e t) : PE X e fun σ H Q => t σ H Q ∨ tLockE t σ H Q := ⟨fun pins s σ H Q I q => by
  rcases q with q | q
  · exact h.run pins s σ H Q I q
  · exact (pe_lock h).run pins s σ H Q I q⟩
theorem se_lk (i : Nat) {e : Expr} {f : ME} (h : SE X W e f) : SE X W e (lkE i f) := (pe_lk h).imp (by
  rintro σ H Q ⟨φ, env, mh, re, hh, p⟩
  unfold lkE at p
  split at p
  · rename_i n he
    split at p
    · rename_i kds hx
      obtain ⟨v, hv, rv⟩ := re.at' i _ he
      cases rv with
      | ref hn =>
        rename_i a
        obtain ⟨kvs, e1, rk⟩ := hh.ob _ _ _ hn hx
        refine .inr ⟨a, .dK kvs, e1, trivial, fun od => ?_⟩
        obtain ⟨k, hl⟩ := hh.lock hn e1 rk od
        refine ⟨φ, env, mh.set n (.lk kds), re.mono (Px.refl φ) k, hl, ?_⟩
        cases hf : f env (mh.set n (.lk kds)) with
        | no => rw [hf] at p; exact p.elim
        | ex x mh' => rw [hf] at p; exact fun φ2 c d H2 p2 k2 h2 hx => p φ2 c d H2 p2 (k.trans k2) h2 hx
        | ok d mh' =>
          rw [hf] at p
          intro φ1 x H1 p1 k1 h1 r1
          have e3 := k1 a _ upd_same trivial
          refine ⟨e3, ?_⟩
          have p' : post X.K X.mg W (RelD X.K) σ φ H (match mh'[n]? with
            | some (.lk kds') => .ok d (mh'.set n (.dk kds'))
            | _ => .no) Q := p
          split at p'
          · rename_i kds' hx'
            obtain ⟨kvs', od', e2, rk'⟩ := h1.ob _ _ _ (p1.get hn) hx'
            rw [e3] at e2
            cases e2
            exact p' φ1 x _ p1 (Kp.unlock e1 k1) (h1.unlock (p1.get hn) e3 rk') (RelD.relock e3 r1)
          · exact p'.elim
    · exact .inl ⟨φ, env, mh, re, hh, p⟩
  · exact .inl ⟨φ, env, mh, re, hh, p⟩)
/-- a for over a dict that the i-th name holds -/
def lkS (i : Nat) (s : MS) : MS := fun env mh => match env[i]? with
  | some (some (.ref n)) => (match mh[n]? with
    | some (.dk kds) => (match s env (mh.set n (.lk kds)) with
      | .nx e h => (match h[n]? with | some (.lk kds') => .nx e (h.set n (.dk kds')) | _ => .no)
      | .bk e h => (match h[n]? with | some (.lk kds') => .bk e (h.set n (.dk kds')) | _ => .no)
      | .ct e h => (match h[n]? with | some (.lk kds') => .ct e (h.set n (.dk kds')) | _ => .no)
      | .rt d h => (match h[n]? with | some (.lk kds') => .rt d (h.set n (.dk kds')) | _ => .no)
      | .ex x e h => .ex x e h
      | .no => .no)
    | _ => s env mh)
  | _ => s env mh
theorem ps_lk {st : Stmt} {t : TS} (h : PS X st t) : PS X st fun D σ H => t D σ H ∨ tLock t D σ H := ⟨fun pins s σ H D I q => by
  rcases q with q | q
  · exact h.run pins s σ H D I q
  · exact (ps_lock h).run pins s σ H D I q⟩
theorem RelE.relock {φ : List Addr} {H1 : Hp} {a : Addr} {kvs : List (Key × V)} {od : Obj} {env : Nv} {σ : L2.St} (e : H1 a = some (.frz od (.dK kvs))) (r : RelE X.K φ H1 env σ) : RelE X.K φ (upd H1 a (.dK kvs)) env σ := ⟨r.len, fun i d h => by
  obtain ⟨v, h1, h2⟩ := r.at' i d h
  exact ⟨v, h1, RelD.relock e h2⟩⟩
theorem ss_lk (i : Nat) {st : Stmt} {s : MS} (h : SS X W st s) : SS X W st (lkS i s) := (ps_lk h).imp (by
  rintro D σ H ⟨φ, env, mh, re, hh, p⟩
  unfold lkS at p
  split at p
  · rename_i n he
    split at p
    · rename_i kds hx
      obtain ⟨v, hv, rv⟩ := re.at' i _ he
      cases rv with
      | ref hn =>
        rename_i a
        obtain ⟨kvs, e1, rk⟩ := hh.ob _ _ _ hn hx
        refine .inr ⟨a, .dK kvs, e1, trivial, fun od => ?_⟩
        obtain ⟨k, hl⟩ := hh.lock hn e1 rk od
        refine ⟨φ, env, mh.set n (.lk kds), re.mono (Px.refl φ) k, hl, ?_⟩
        cases hf : s env (mh.set n (.lk kds)) with
        | no => rw [hf] at p; exact p.elim
        | ex x e mh' => rw [hf] at p; exact fun φ2 c d σ2 H2 p2 k2 h2 re2 hx => p φ2 c d σ2 H2 p2 (k.trans k2) h2 re2 hx
        | rt d mh' =>
          rw [hf] at p
          intro φ1 x H1 p1 k1 h1 r1
          have e3 := k1 a _ upd_same trivial
          refine ⟨e3, ?_⟩
          simp only at p
          split at p
          · rename_i kds' hx'
            obtain ⟨kvs', od', e2, rk'⟩ := h1.ob _ _ _ (p1.get hn) hx'
            rw [e3] at e2
            cases e2
            exact p φ1 x _ p1 (Kp.unlock e1 k1) (h1.unlock (p1.get hn) e3 rk') (RelD.relock e3 r1)
          · exact p.elim
        | nx e mh' =>
          rw [hf] at p
          intro φ1 σ1 H1 p1 k1 h1 r1
          have e3 := k1 a _ upd_same trivial
          refine ⟨e3, ?_⟩
          simp only at p
          split at p
          · rename_i kds' hx'
            obtain ⟨kvs', od', e2, rk'⟩ := h1.ob _ _ _ (p1.get hn) hx'
            rw [e3] at e2
            cases e2
            exact p φ1 σ1 _ p1 (Kp.unlock e1 k1) (h1.unlock (p1.get hn) e3 rk') (RelE.relock e3 r1)
          · exact p.elim
        | bk e mh' =>
          rw [hf] at p
          intro φ1 σ1 H1 p1 k1 h1 r1
          have e3 := k1 a _ upd_same trivial
          refine ⟨e3, ?_⟩
          simp only at p
          split at p
          · rename_i kds' hx'
            obtain ⟨kvs', od', e2, rk'⟩ := h1.ob _ _ _ (p1.get hn) hx'
            rw [e3] at e2
            cases e2
            exact p φ1 σ1 _ p1 (Kp.unlock e1 k1) (h1.unlock (p1.get hn) e3 rk') (RelE.relock e3 r1)
          · exact p.elim
        | ct e mh' =>
          rw [hf] at p
          intro φ1 σ1 H1 p1 k1 h1 r1
          have e3 := k1 a _ upd_same trivial
          refine ⟨e3, ?_⟩
          simp only at p
          split at p
          · rename_i kds' hx'
            obtain ⟨kvs', od', e2, rk'⟩ := h1.ob _ _ _ (p1.get hn) hx'
            rw [e3] at e2
            cases e2
            exact p φ1 σ1 _ p1 (Kp.unlock e1 k1) (h1.unlock (p1.get hn) e3 rk') (RelE.relock e3 r1)
          · exact p.elim
    · exact .inl ⟨φ, env, mh, re, hh, p⟩
  · exact .inl ⟨φ, env, mh, re, hh, p⟩)
end
end Det
/-! Det, part Y: a locked dict walked by keys; pairs stored at once. -/
namespace Det
open PySem PySem.Spec PyProof.Rows L2
def keyD' : Key → D
  | .inl i => .int i
  | .inr x => .str x
def lkIs (n : Nat) (ks : List Key) (mh : MH) : Bool := match mh[n]? with
  | some (.lk kds) => decide (kds.map (·.1) = ks)
  | _ => false
/-- what is walked: a list, a tuple, a text, a locked dict -/
def itX (d : D) (mh : MH) : Option ItD := match d with
  | .ref n => match mh[n]? with
    | some (.lst xs) => some ⟨xs, lstIs n xs⟩
    | some (.lk kds) => some ⟨(kds.map (·.1)).map keyD', lkIs n (kds.map (·.1))⟩
    | _ => none
  | d => itD d mh
def iterX (f : ME) : MI := fun env mh => (f env mh).bind fun d mh1 => match itX d mh1 with | some it => .ok it mh1 | none => .no
section
variable {X : Cx} {W : WX} {tg : Expr}
theorem rel_key {φ : List Addr} {H : Hp} (k : Key) : RelD X.K φ H (keyD' k) (kV k) := by
  cases k with
  | inl i => exact .int i
  | inr x => exact .str x
theorem pi_two {l : Expr} {t1 t2 : TI} (h1 : PI X tg l t1) (h2 : PI X tg l t2) : PI X tg l fun σ H R => t1 σ H R ∨ t2 σ H R := ⟨fun pins s σ H R I q => by
  rcases q with q | q
  · exact h1.run pins s σ H R I q
  · exact h2.run pins s σ H R I q⟩
theorem itX_of {d : D} {mh : MH} (h : ∀ n kds, d = .ref n → mh[n]? ≠ some (.lk kds)) : itX d mh = itD d mh := by
  cases d with
  | ref n =>
    simp only [itX, itD]
    cases hn : mh[n]? with
    | none => rfl
    | some o =>
      cases o with
      | lk kds => exact absurd hn (h n kds rfl)
      | _ => rfl
  | _ => rfl
theorem si_iterX {e : Expr} {f : ME} (he : SE X W e f) : SI X W tg e (iterX f) := (pi_two (si_any he) (pi_keys he)).imp (by
  rintro σ H R ⟨φ, env, mh, re, hh, p⟩
  cases hf : f env mh with
  | no => unfold iterX at p; rw [hf] at p; exact p.elim
  | ex x m => exact .inl ⟨φ, env, mh, re, hh, by unfold iterX at p; unfold iter; rw [hf] at p ⊢; exact p⟩
  | ok d mh1 =>
    by_cases hk : ∃ n kds, d = .ref n ∧ mh1[n]? = some (.lk kds)
    · obtain ⟨n, kds, rfl, hx⟩ := hk
      unfold iterX at p
      rw [hf] at p
      have p' : post X.K X.mg W (ItOk X.K) σ φ H (.ok ⟨(kds.map (·.1)).map keyD', lkIs n (kds.map (·.1))⟩ mh1) R := by
        have e1 : itX (.ref n) mh1 = some ⟨(kds.map (·.1)).map keyD', lkIs n (kds.map (·.1))⟩ := by simp [itX, hx]
        have p2 : post X.K X.mg W (ItOk X.K) σ φ H (match itX (.ref n) mh1 with | some it => .ok it mh1 | none => .no) R := p
        rw [e1] at p2
        exact p2
      refine .inr ⟨φ, env, mh, re, hh, ?_⟩
      rw [hf]
      intro φ1 v H1 p1 k1 h1 r1
      cases r1 with
      | ref hn =>
        rename_i a
        obtain ⟨kvs, od, e1, rk⟩ := h1.ob _ _ _ hn hx
        refine ⟨a, od, rfl, .inl ⟨kvs, e1, p' φ1 _ H1 p1 k1 h1 ?_⟩⟩
        intro i φ' mh' H' px kp hh' _
        have e2 : H' a = some (.frz od (.dK kvs)) := kp a _ e1 trivial
        have hlen : kds.length = kvs.length := rk.len
        refine ⟨fun d hd => ?_, fun hl => ⟨e2, by simpa [hlen] using hl⟩⟩
        have hi : i < kds.length := by
          have := (List.getElem?_eq_some_iff.mp hd).1
          simpa using this
        refine ⟨⟨e2, by omega⟩, ?_⟩
        rintro x H2 ⟨rfl, k, v, hkv, rfl⟩
        have ek : (kds.map (·.1))[i]? = some k := by rw [rk.1, List.getElem?_map, hkv]; rfl
        rw [List.getElem?_map, ek] at hd
        cases hd
        exact ⟨Kp.refl _, hh', rel_key k⟩
    · refine .inl ⟨φ, env, mh, re, hh, ?_⟩
      have e1 : itX d mh1 = itD d mh1 := itX_of fun n kds e h => hk ⟨n, kds, e, h⟩
      unfold iterX at p
      unfold iter
      rw [hf] at p ⊢
      have p2 : post X.K X.mg W (ItOk X.K) σ φ H (match itX d mh1 with | some it => .ok it mh1 | none => .no) R := p
      rw [e1] at p2
      exact p2)
end
end Det
/-! Det, part Z: names stored at once, [::-1]. -/
namespace Det
open PySem PySem.Spec PyProof.Rows L2
/-- a, b = x, y -/
def par2 (i j : Nat) (f : MA) : MS := fun env mh => lift (f env mh) env fun ds mh1 => match ds with
  | [d, e] => .nx ((env.set i (some d)).set j (some e)) mh1
  | _ => .no
section
variable {X : Cx} {W : WX}
theorem ss_par2 {i j : Nat} {x y : Str} {a b : Expr} {fa : MA} {px py pt pos : Pos} {kt k2 : Nat} {pt2 : Pos} (hc : X.calm = true) (hN : X.N.Nodup) (ha : SA X W [a, b] fa) (hij : i ≠ j) (hi : X.N[i]? = some x := by rfl) (hj : X.N[j]? = some y := by rfl)
    (hx : X.env.scope.names.lookup x = some .local := by rfl) (hy : X.env.scope.names.lookup y = some .local := by rfl)
    (hw : swappedStores [.Tuple [.Name x px, .Name y py] kt pt] (.Tuple [a, b] k2 pt2) X.env = pure (some [x, y]) := by rfl)
    (hs : swapsWithSole [.Tuple [.Name x px, .Name y py] kt pt] (.Tuple [a, b] k2 pt2) pos.line X.env = pure false := by rfl) :
    SS X W (.Assign [.Tuple [.Name x px, .Name y py] kt pt] (.Tuple [a, b] k2 pt2) pos) (par2 i j fa) := (ps_par hc hN hi hj hij hx hy ha hw hs).imp (by
  rintro D σ H ⟨φ, env, mh, re, hh, p⟩
  refine ⟨φ, env, mh, re, hh, post_mono (Px.refl φ) (Kp.refl H) (post_lift (R := RelDs X.K) re p) ?_⟩
  rintro vs H1 ⟨φ1, ds, mh1, p1, k1, h1, r1, q⟩
  split at q
  · rename_i d e
    cases r1 with
    | cons rd t =>
      cases t with
      | cons rd2 t2 =>
        cases t2
        exact ⟨_, _, rfl, q φ1 _ H1 (Px.refl φ1) (Kp.refl H1) h1 (((re.mono p1 k1).set rd i).set rd2 j)⟩
  · exact q.elim)
end
/-! ### xs[::-1], xs a list or a tuple -/
section
variable {prog : Program} {w : World} {A : Around} {E : Value → Shared → Prop} {s : Shared}
theorem adjust_rev (n : Nat) : Builtin.Slice.sliceAdjust none none (-1) (n : Int) = ((n : Int) - 1, -1) := by
  unfold Builtin.Slice.sliceAdjust
  simp
theorem places_rev (n : Nat) : Builtin.Slice.slicePlaces ((n : Int) - 1) (-1) (-1) = n := by
  unfold Builtin.Slice.slicePlaces
  have h1 : ¬ ((-1 : Int) > 0) := by omega
  simp only [h1, if_false]
  split
  · rename_i h
    rw [show (- -1 : Int) = 1 by decide, Int.ediv_one]
    omega
  · omega
theorem applied_rev {sl : Addr} {u : Tok} {n : Nat} {Q : Int × Int × Nat → Shared → Prop} (hs : s.heap.IsSliceOf sl .none .none (.int (-1) u)) (h : Q ((n : Int) - 1, -1, n) s) : wpAny (model prog w) A (Builtin.Slice.sliceApplied (.ref sl) (pure (n : Int))) Q E s := by
  obtain ⟨os, hos, hcs, hds⟩ := id hs
  unfold Builtin.Slice.sliceApplied Builtin.Slice.sliceFields
  refine wpAny_bind (wpAny_bind (wpAny_field hos hds (x := .none) rfl (wpAny_bind (wpAny_field hos hds (x := .none) rfl (wpAny_bind (wpAny_field hos hds (x := .int (-1) u) rfl (wpAny_pure ?_)))))))
  refine wpAny_bind (slicePart_int ?_)
  show wpAny _ _ (if ((-1 : Int) == 0) = true then _ else _) _ _ s
  rw [if_neg (by decide)]
  refine wpAny_bind (slicePart_none (wpAny_bind (slicePart_none (wpAny_bind (wpAny_pure ?_)))))
  show wpAny _ _ (match Builtin.Slice.sliceAdjust none none (-1) (n : Int) with | (lo, hi) => pure (lo, (-1 : Int), Builtin.Slice.slicePlaces lo hi (-1))) _ _ s
  rw [adjust_rev]
  show wpAny _ _ (pure ((n : Int) - 1, (-1 : Int), Builtin.Slice.slicePlaces ((n : Int) - 1) (-1) (-1))) _ _ s
  rw [places_rev]
  exact wpAny_pure h
theorem pick_all {α : Type} : ∀ (l : List α), (List.range l.length).filterMap (fun k => l[k]?) = l
  | [] => rfl
  | a :: l => by
    rw [List.length_cons, List.range_succ_eq_map, List.filterMap_cons_some (b := a) (by rfl), List.filterMap_map]
    have : ((fun k => (a :: l)[k]?) ∘ Nat.succ) = fun k => l[k]? := by funext k; simp
    rw [this, pick_all l]
theorem fm_congr {α β : Type} {f g : α → Option β} : ∀ (l : List α), (∀ a ∈ l, f a = g a) → l.filterMap f = l.filterMap g
  | [], _ => rfl
  | a :: l, h => by
    rw [List.filterMap_cons, List.filterMap_cons, h a List.mem_cons_self, fm_congr l fun b hb => h b (List.mem_cons_of_mem _ hb)]
theorem pick_rev (xs : Array Value) : ((List.range xs.size).filterMap fun (m : Nat) => xs[(((xs.size : Int) - 1) + (m : Int) * (-1)).toNat]?).toArray = xs.toList.reverse.toArray := by
  congr 1
  have h := pick_all xs.toList.reverse
  rw [List.length_reverse, Array.length_toList] at h
  refine Eq.trans (fm_congr _ fun k hk => ?_) h
  have hk := List.mem_range.mp hk
  have e : (((xs.size : Int) - 1) + (k : Int) * (-1)).toNat = xs.size - 1 - k := by omega
  rw [e, List.getElem?_reverse (by simpa using hk), Array.length_toList]
  simp
theorem item_rev {t sl : Addr} {its : Array Value} {u : Tok} {Q : Value → Shared → Prop} (ht : IsTup s.heap t its) (hs : s.heap.IsSliceOf sl .none .none (.int (-1) u))
    (h : Q (.ref s.heap.objs.size) { s with heap := s.heap.push { cls := .type "tuple", data := .seq its.toList.reverse.toArray } }) (hsz : its.size ≤ sizeLine) : wpAny (model prog w) A (getItem (.ref t) (.ref sl)) Q E s := by
  have fit : sizeOk (.seq its.toList.reverse.toArray) := by
    show its.toList.reverse.toArray.size ≤ sizeLine
    simpa using hsz
  obtain ⟨os, hos, hcs, hds⟩ := id hs
  have hTs : s.TypeIs (.ref sl) "slice" := ⟨os, hos, hcs⟩
  unfold getItem
  try with_reducible refine wpAny_holding ?_
  first | refine wpAny_bind (wpAny_pure ?_) | skip
  refine wpAny_bind (wpAny_sequenceKey ht.typeIs (by decide) ?_)
  refine wpAny_bind (wpAny_callSpecial?_slot (name := Str.ofString "__getitem__") ht.typeIs PyProof.Rows.slot_tuple_getitem
    (wpAny_call_entry PyProof.Rows.slot_tuple_getitem ht.typeIs entry_tuple_getitem ?_ (args_tuple_getitem _ _)))
  show wpAny _ _ (Builtin.Tuple.tupleItemsOf (.ref t) >>= _) _ _ s
  refine wpAny_bind (tupleItemsOf_ ht ?_)
  refine wpAny_bind (wpAny_typeOf hTs ?_)
  rw [if_pos (by decide)]
  refine wpAny_bind (applied_rev hs ?_)
  show wpAny _ _ (if (((its.size : Int) - 1 == 0) && ((-1 : Int) == 1) && (its.size == its.size)) = true then _ else _) _ _ s
  rw [if_neg (by simp), pick_rev]
  first
    | exact wpAny_bind (m := Builtin.Tuple.tupleExact _) (wpAny_newObj_type (wpAny_pure ⟨_, rfl, wpAny_pure h⟩) fit)
    | exact wpAny_bind (m := Builtin.Tuple.tupleExact _) (wpAny_newObj_type (wpAny_bind (wpAny_pure (wpAny_pure ⟨_, rfl, wpAny_pure h⟩))) fit)
    | exact wpAny_bind (wpAny_bind (m := Builtin.Tuple.tupleExact _) (wpAny_newObj_type (wpAny_pure (wpAny_pure ⟨_, rfl, wpAny_pure h⟩)) fit))
    | exact wpAny_bind (wpAny_bind (m := Builtin.Tuple.tupleExact _) (wpAny_newObj_type (wpAny_pure ⟨_, rfl, wpAny_pure h⟩) fit))
end
def oRev : Op1 := fun a mh => match a with
  | .tup xs => some (.tup xs.reverse, mh)
  | .rol xs => some (.ref mh.length, mh ++ [.lst xs.reverse])
  | .ref n => match mh[n]? with
    | some (.lst xs) => some (.ref mh.length, mh ++ [.lst xs.reverse])
    | _ => none
  | _ => none
def tRevX (K : PySem.W.Frag) (te : TE) : TE := fun σ H Q => te σ H fun x H1 => ∃ a xs, x = .ref a ∧ ((SqL K H1 a xs ∧ ∀ p, H1 p = none → Q (.ref p) (upd H1 p (.lst xs.reverse))) ∨ (SqT K H1 a xs ∧ ∀ p, H1 p = none → Q (.ref p) (upd H1 p (.tup xs.reverse))))
section
variable {X : Cx} {W : WX}
theorem pe_revX {e : Expr} {te : TE} {k : Nat} {p1 p2 p3 pos : Pos} (he : PE X e te) : PE X (.Subscript e (.Slice none none (some (.UnaryOp .USub (.Constant (.int 1) k p1) p2)) p3) pos) (tRevX X.K te) := by
  refine ⟨fun pins s σ H Q I h => ?_⟩
  refine Subscript_ (thn (he.run pins s σ H _ I h) fun v s1 ⟨x, H1, I1, r1, q1⟩ => ?_)
  obtain ⟨a, xs, ex, q⟩ := q1
  subst ex
  cases r1
  have stp : PO X (some (.UnaryOp .USub (.Constant (.int 1) k p1) p2)) (tPart (tUn (rU fun i => .int (-i)) (tC (.int 1)))) := po_some (pe_un un_neg pe_int)
  refine wpAny_Slice (thn (po_none.run pins s1 σ H1 (fun o H2 => o = none ∧ H2 = H1) I1 ⟨rfl, rfl⟩) fun vl s2 ⟨l, H2, I2, pl, el, e2⟩ => ?_)
  subst el; subst e2
  refine thn (po_none.run pins s2 σ H2 (fun o H3 => o = none ∧ H3 = H2) I2 ⟨rfl, rfl⟩) fun vu s3 ⟨u, H3, I3, pu, eu, e3⟩ => ?_
  subst eu; subst e3
  refine thn (stp.run pins s3 σ H3 (fun o H4 => o = some (-1) ∧ H4 = H3) I3 ⟨1, rfl, -1, rfl, rfl, rfl⟩) fun vs s4 ⟨o, H4, I4, ps, eo, e4⟩ => ?_
  subst eo; subst e4
  have I5 : Inv X pins σ H4 { s4 with heap := s4.heap.push { cls := .type "slice", data := .fields #[vl, vu, vs] } } := I4.kept (t' := s4.toks) fun b ob q => Heap.get?_push_of_some _ q
  rcases q with ⟨hx, q⟩ | ⟨hx, q⟩
  · obtain ⟨its, r, ht, hz⟩ := I5.list hx
    have hlen := r.length
    refine tail_any (ops := [.ref a, .ref s4.heap.objs.size]) ht.isList.typeIs (PySem.slot_list_getitem.lookup) ?_ (by with_unfolding_all rfl)
    refine wpAny_getItem_list_slice ht.isList (Heap.IsSliceOf.new _ vl vu vs) pl pu ps (by decide) ?_ (by rw [List.size_toArray]; omega)
    rw [PySem.W.krv_pick]
    refine ⟨.ref _, _, I5.laid (t' := s4.toks) (o := .lst xs.reverse) (fun b ob q => Heap.get?_push_of_some _ q) (Nat.le_refl _) ?_, rfl, q _ (I5.hok.fresh (Nat.le_refl _))⟩
    exact ⟨by rw [List.length_reverse]; exact hz, _, 0, r.reverse, Heap.get?_push_size _ rfl⟩
  · obtain ⟨its, r, ht, hz⟩ := I5.tuple hx
    have hlen := r.length
    cases pl
    cases pu
    cases ps with
    | int i t =>
      refine tail_any (ops := [.ref a, .ref s4.heap.objs.size]) ht.typeIs (PyProof.Rows.slot_tuple_getitem.lookup) ?_ (by with_unfolding_all rfl)
      refine item_rev ht (Heap.IsSliceOf.new _ _ _ _) ?_ (by rw [List.size_toArray]; omega)
      refine ⟨.ref _, _, I5.laid (t' := s4.toks) (o := .tup xs.reverse) (fun b ob q => Heap.get?_push_of_some _ q) (Nat.le_refl _) ?_, rfl, q _ (I5.hok.fresh (Nat.le_refl _))⟩
      exact ⟨by rw [List.length_reverse]; exact hz, _, r.reverse, ⟨_, Heap.get?_push_size _ rfl, rfl, _, rfl⟩⟩
theorem se_rev {e : Expr} {f : ME} {k : Nat} {p1 p2 p3 pos : Pos} (he : SE X W e f) : SE X W (.Subscript e (.Slice none none (some (.UnaryOp .USub (.Constant (.int 1) k p1) p2)) p3) pos) (un oRev f) := (pe_revX he).imp (by
  rintro σ H Q ⟨φ, env, mh, re, hh, p⟩
  refine ⟨φ, env, mh, re, hh, post_mono (Px.refl φ) (Kp.refl H) (post_bind (R1 := RelD X.K) p) ?_⟩
  rintro x H1 ⟨φ1, d, mh1, p1, k1, h1, r1, q⟩
  have q2 := post_ofO q
  cases r1 with
  | tup hs rs => exact ⟨_, _, rfl, .inr ⟨hs, fun a ha => postO_tup h1 q2 rs.rev ha⟩⟩
  | rol hs rs => exact ⟨_, _, rfl, .inl ⟨hs.seq, fun a ha => postO_new h1 q2 rs.rev ha⟩⟩
  | ref hn =>
    simp only [oRev] at q2
    split at q2
    · rename_i xs hx
      obtain ⟨vs, e1, rs⟩ := h1.lst hn hx
      exact ⟨_, vs, rfl, .inl ⟨SqL.of e1, fun a ha => postO_new h1 q2 rs.rev ha⟩⟩
    · exact q2.elim
  | _ => exact q2.elim)
end
end Det
/-! Det, part Ca: xs.count(k), xs a list of ints. -/
namespace Det
open PySem PySem.Spec PyProof.Rows L2
def intsOf : List D → Option (List Int)
  | [] => some []
  | .int i :: ds => (intsOf ds).map (i :: ·)
  | _ :: _ => none
theorem intsOf_rel {K : PySem.W.Frag} {φ : List Addr} {H : Hp} : ∀ {ds : List D} {vs : List V} {ns : List Int}, RelDs K φ H ds vs → intsOf ds = some ns → vs = ns.map V.int := by
  intro ds
  induction ds with
  | nil => intro vs ns r h; cases r; cases h; rfl
  | cons d ds ih =>
    intro vs ns r h
    cases r with
    | cons rd t =>
      cases d <;> simp only [intsOf, reduceCtorEq] at h
      cases hh : intsOf ds with
      | none => rw [hh] at h; cases h
      | some ms =>
        rw [hh] at h
        cases h
        cases rd
        rw [ih t hh]
        rfl
theorem intsOf_map (ns : List Int) : intsOf (ns.map D.int) = some ns := by
  induction ns with
  | nil => rfl
  | cons n ns ih => simp only [List.map_cons, intsOf, ih, Option.map_some]
def lcnt (fo f : ME) : ME := fun env mh => (fo env mh).bind fun o mh1 => match o with
  | .ref n => (match mh1[n]? with
    | some (.lst _) => (f env mh1).bind fun d mh2 => (match d, mh2[n]? with
      | .int k, some (.lst xs) => (match intsOf xs with
        | some ns => .ok (.int (ns.count k : Nat)) mh2
        | none => .no)
      | _, _ => .no)
    | _ => .no)
  | _ => .no
section
variable {X : Cx} {W : WX}
theorem se_lcnt {o e : Expr} {fo f : ME} {apos cpos : Pos} (ho : SE X W o fo) (he : SE X W e f) (hbase : attributeBase o "count" X.env (eval o X.env) = eval o X.env := by rfl) (hline : (apos.endLine == cpos.line) = true := by rfl)
    (hfew : ((backTo cpos (starEach [e] X.env)).all (fun x => !x.1) && (backToKw cpos (keywordEach [] X.env)).all (fun x => x.1.isSome) && decide (([e] : List Expr).length + ([] : List Keyword).length + (if ([] : List Keyword).isEmpty then 0 else 1) < 30)) = true := by rfl)
    (hst : starEach (e :: []) X.env = (false, eval e X.env) :: starEach [] X.env := by rfl) (hplain : (backTo cpos (starEach [] X.env)).any (·.1) = false := by rfl) : SE X W (.Call (.Attribute o "count" apos) [e] [] cpos) (lcnt fo f) :=
  (pe_bm PySem.F.plainAttrs_list PySem.F.slot_list_count PySem.F.type_list_count mt_lcount ho (pa_cons he pa_nil hst) hbase hfew hline hst hplain).imp (by
  rintro σ H Q ⟨φ, env, mh, re, hh, p⟩
  refine ⟨φ, env, mh, re, hh, post_mono (Px.refl φ) (Kp.refl H) (post_bind (R1 := RelD X.K) p) ?_⟩
  rintro x H1 ⟨φ1, d, mh1, p1, k1, h1, r1, q⟩
  cases r1 with
  | ref hn =>
    rename_i n a
    try simp only at q
    split at q
    · rename_i xs0 hx0
      obtain ⟨vs0, e0, _⟩ := h1.lst hn hx0
      refine ⟨.inl ⟨rfl, vs0, SqL.of e0⟩, φ1, env, mh1, re.mono p1 k1, h1, post_mono (Px.refl φ1) (Kp.refl H1) (post_bind (R1 := RelD X.K) q) ?_⟩
      rintro y H2 ⟨φ2, d2, mh2, p2, k2, h2, r2, q2⟩
      try simp only at q2
      split at q2
      · rename_i k xs hx
        split at q2
        · rename_i ns hns
          cases r2
          obtain ⟨vs, e1, rs⟩ := h2.lst (p2.get hn) hx
          have ev := intsOf_rel rs hns
          subst ev
          exact ⟨a, ns, k, rfl, rfl, SqL.of e1, q2 φ2 _ H2 (Px.refl φ2) (Kp.refl H2) h2 (.int _)⟩
        · exact q2.elim
      · exact q2.elim
    · exact q.elim
  | _ => exact q.elim)
end
end Det
/-! Det, part Cb: calls of a module's built-in function under its own name (from math import gcd). -/
namespace Det
open PySem PySem.Spec PyProof.Rows L2
def oGcd : OpA := fun as mh => match as with
  | [.int a, .int b] => some (.int ((Nat.gcd a.natAbs b.natAbs : Nat) : Int), mh)
  | _ => none
section
variable {X : Cx} {W : WX} {fa : MA}
theorem r_gcd : CallR X (.builtin "math.gcd") (iRA X.K oGcd) := by
  rintro pins s σ H xs us Q I r ⟨φ, mh, as, ra, hh, p⟩
  unfold oGcd at p
  split at p
  · obtain ⟨v, w, rfl, rv, rw'⟩ := ra.two
    cases rv
    cases rw'
    exact cr_gcd pins s σ H _ us Q I r ⟨_, _, rfl, postO_val hh p (.int _)⟩
  · exact p.elim
theorem se_bfun {id : String} {o : OpA} {x : Str} {p pos : Pos} {e : Expr} {es : List Expr} (hc : CallR X (.builtin id) (iRA X.K o)) (hm : X.mg x = some (.builtin id)) (ha : SA X W (e :: es) fa) (hg : Gl X x := by rfl)
    (hdb : (x == ("__debug__" : Str)) = false := by decide)
    (he : starEach (e :: es) X.env = (false, eval e X.env) :: starEach es X.env := by rfl) (hpl : (backTo pos (starEach es X.env)).any (·.1) = false := by rfl) :
    SE X W (.Call (.Name x p) (e :: es) [] pos) (ap o fa) := (pe_callBfun hc hg hm ha hdb he hpl).imp (impA fun _ _ _ h => h)
end
end Det
/-! Det, part Cc: zip of two lists or of two tuples. -/
namespace Det
open PySem PySem.Spec PyProof.Rows L2 RZ
def zipF (xs ys : List D) : List D := List.zipWith (fun a b => .tup [a, b]) xs ys
def lstOf (mh : MH) : D → Option (List D × (MH → Bool))
  | .rol xs => some (xs, fun _ => true)
  | .ref n => match mh[n]? with
    | some (.lst xs) => some (xs, lstIs n xs)
    | _ => none
  | _ => none
def zpp (fa : MA) : MI := fun env mh => (fa env mh).bind fun ds mh1 => match ds with
  | [.tup xs, .tup ys] => .ok ⟨zipF xs ys, fun _ => true⟩ mh1
  | [d, e] => match lstOf mh1 d, lstOf mh1 e with
    | some (xs, c), some (ys, c2) => .ok ⟨zipF xs ys, fun m => c m && c2 m⟩ mh1
    | _, _ => .no
  | _ => .no
section
variable {X : Cx} {W : WX}
theorem lstOf_ok {φ : List Addr} {mh : MH} {H : Hp} {d : D} {v : V} {xs : List D} {c : MH → Bool} (hh : HR X.K φ mh H) (r : RelD X.K φ H d v) (h : lstOf mh d = some (xs, c)) :
    ∃ a vs, v = .ref a ∧ SqL X.K H a vs ∧ ∀ φ' mh' H', Px φ φ' → Kp H H' → HR X.K φ' mh' H' → c mh' = true → ∃ vs : List V, RelDs X.K φ' H' xs vs ∧ SqL X.K H' a vs := by
  cases r with
  | rol hs rs =>
    rename_i a ds vs
    cases h
    exact ⟨a, vs, rfl, hs.seq, fun φ' mh' H' p' k' _ _ => ⟨vs, rs.mono p' k', (k'.roL hs).seq⟩⟩
  | ref hn =>
    rename_i n a
    simp only [lstOf] at h
    split at h
    · rename_i zs hx
      cases h
      obtain ⟨vs, e1, rs⟩ := hh.lst hn hx
      refine ⟨a, vs, rfl, SqL.of e1, fun φ' mh' H' p' k' hh' hc => ?_⟩
      unfold lstIs at hc
      split at hc
      · rename_i ys hy
        have ey := of_decide_eq_true hc
        subst ey
        obtain ⟨ws, e2, rs2⟩ := hh'.lst (p'.get hn) hy
        exact ⟨ws, rs2, SqL.of e2⟩
      · cases hc
    · cases h
  | _ => cases h
theorem zipF_get {xs ys : List D} {i : Nat} {d : D} (h : (zipF xs ys)[i]? = some d) : ∃ a b, xs[i]? = some a ∧ ys[i]? = some b ∧ d = .tup [a, b] := by
  unfold zipF at h
  rw [List.getElem?_zipWith] at h
  split at h
  · rename_i a b e1 e2
    cases h
    exact ⟨a, b, e1, e2, rfl⟩
  · cases h
theorem zipF_end {xs ys : List D} {i : Nat} (h : (zipF xs ys).length ≤ i) : xs.length ≤ i ∨ ys.length ≤ i := by
  unfold zipF at h
  rw [List.length_zipWith] at h
  omega
theorem itOk_zpL {φ : List Addr} {H : Hp} {a b : Addr} {xs ys : List D} {ck : MH → Bool}
    (h : ∀ φ' mh' H', Px φ φ' → Kp H H' → HR X.K φ' mh' H' → ck mh' = true → ∃ vs ws : List V, RelDs X.K φ' H' xs vs ∧ SqL X.K H' a vs ∧ RelDs X.K φ' H' ys ws ∧ SqL X.K H' b ws) : ItOk X.K φ H ⟨zipF xs ys, ck⟩ (Itz X.K a b) := by
  intro i φ' mh' H' p k hh hc
  obtain ⟨vs, ws, rs, hs, rs2, hs2⟩ := h φ' mh' H' p k hh hc
  refine ⟨fun d hd => ?_, fun hl => ⟨vs, ws, hs, hs2, ?_⟩⟩
  · obtain ⟨d1, d2, e1, e2, rfl⟩ := zipF_get hd
    obtain ⟨v, hv, rv⟩ := rs.get e1
    obtain ⟨w, hw, rw'⟩ := rs2.get e2
    refine ⟨⟨vs, ws, v, w, hs, hs2, hv, hw⟩, ?_⟩
    rintro x H2 ⟨T, y, z, rfl, hT, rfl, hy, hz⟩
    have f1 := hy vs hs
    rw [hv] at f1
    cases f1
    have f2 := hz ws hs2
    rw [hw] at f2
    cases f2
    exact yl_tup hh hT (.cons rv (.cons rw' .nil))
  · rw [← rs.length, ← rs2.length]
    exact zipF_end hl
theorem itOk_zpT {φ : List Addr} {H : Hp} {a b : Addr} {xs ys : List D} {ck : MH → Bool}
    (h : ∀ φ' mh' H', Px φ φ' → Kp H H' → HR X.K φ' mh' H' → ck mh' = true → ∃ vs ws : List V, RelDs X.K φ' H' xs vs ∧ SqT X.K H' a vs ∧ RelDs X.K φ' H' ys ws ∧ SqT X.K H' b ws) : ItOk X.K φ H ⟨zipF xs ys, ck⟩ (ItzT X.K a b) := by
  intro i φ' mh' H' p k hh hc
  obtain ⟨vs, ws, rs, hs, rs2, hs2⟩ := h φ' mh' H' p k hh hc
  refine ⟨fun d hd => ?_, fun hl => ⟨vs, ws, hs, hs2, ?_⟩⟩
  · obtain ⟨d1, d2, e1, e2, rfl⟩ := zipF_get hd
    obtain ⟨v, hv, rv⟩ := rs.get e1
    obtain ⟨w, hw, rw'⟩ := rs2.get e2
    refine ⟨⟨vs, ws, v, w, hs, hs2, hv, hw⟩, ?_⟩
    rintro x H2 ⟨T, y, z, rfl, hT, rfl, hy, hz⟩
    have f1 := hy vs hs
    rw [hv] at f1
    cases f1
    have f2 := hz ws hs2
    rw [hw] at f2
    cases f2
    exact yl_tup hh hT (.cons rv (.cons rw' .nil))
  · rw [← rs.length, ← rs2.length]
    exact zipF_end hl
theorem si_zip {e e2 : Expr} {fa : MA} {p pos tpos : Pos} {elts : List Expr} {kk : Nat} (hm : X.mg "zip" = none) (ha : SA X W [e, e2] fa) (hg : Gl X "zip" := by rfl)
    (hs : starEach [e, e2] X.env = (false, eval e X.env) :: starEach [e2] X.env := by rfl) (hpl : (backTo pos (starEach [e2] X.env)).any (·.1) = false := by rfl) :
    SI X W (.Tuple elts kk tpos) (.Call (.Name "zip" p) [e, e2] [] pos) (zpp fa) := (pi_zipA hg hm ha hs hpl).imp (by
  rintro σ H R ⟨φ, env, mh, re, hh, p⟩
  refine ⟨φ, env, mh, re, hh, post_mono (Px.refl φ) (Kp.refl H) (post_bind (R1 := RelDs X.K) p) ?_⟩
  rintro us H1 ⟨φ1, ds, mh1, p1, k1, h1, r1, q⟩
  split at q
  · rename_i xs ys
    obtain ⟨v, w, rfl, rv, rw'⟩ := r1.two
    cases rv with
    | tup hs rs =>
      cases rw' with
      | tup hs2 rs2 =>
        exact ⟨_, _, _, _, rfl, .inr ⟨hs, hs2, q φ1 _ H1 (Px.refl φ1) (Kp.refl H1) h1 (itOk_zpT fun φ' mh' H' p' k' _ _ => ⟨_, _, rs.mono p' k', k'.seqT hs, rs2.mono p' k', k'.seqT hs2⟩)⟩⟩
  · rename_i d e _
    obtain ⟨v, w, rfl, rv, rw'⟩ := r1.two
    split at q
    · rename_i xs c ys c2 e1 e2
      obtain ⟨a, vs, rfl, hs, f⟩ := lstOf_ok h1 rv e1
      obtain ⟨b, ws, rfl, hs2, f2⟩ := lstOf_ok h1 rw' e2
      refine ⟨a, b, vs, ws, rfl, .inl ⟨hs, hs2, q φ1 _ H1 (Px.refl φ1) (Kp.refl H1) h1 (itOk_zpL fun φ' mh' H' p' k' hh' hc => ?_)⟩⟩
      have hc' : (c mh' && c2 mh') = true := hc
      rw [Bool.and_eq_true] at hc'
      obtain ⟨vs', r3, s3⟩ := f φ' mh' H' p' k' hh' hc'.1
      obtain ⟨ws', r4, s4⟩ := f2 φ' mh' H' p' k' hh' hc'.2
      exact ⟨vs', ws', r3, s3, r4, s4⟩
    · exact q.elim
  · exact q.elim)
end
end Det
/-! Det, part Da: what a def lays for itself is dropped at its end; a list that it hands back is known from then on. -/
namespace Det
open PySem PySem.Spec PyProof.Rows L2
mutual
/-- no place of the small heap from n on is named -/
def D.blw (n : Nat) : D → Bool
  | .non => true
  | .bl _ => true
  | .int _ => true
  | .str _ => true
  | .ty _ => true
  | .ref m => decide (m < n)
  | .tup xs => D.blws n xs
  | .rol xs => D.blws n xs
  | .exc _ _ xs => D.blws n xs
def D.blws (n : Nat) : List D → Bool
  | [] => true
  | d :: ds => D.blw n d && D.blws n ds
end
def Ob.blw (n : Nat) : Ob → Bool
  | .lst xs => D.blws n xs
  | .dk kvs => D.blws n (kvs.map (·.2))
  | .dt kvs => D.blws n (kvs.map (·.2))
  | .lk kvs => D.blws n (kvs.map (·.2))
/-- what stood stands, or names nothing new -/
def Kept (mh mh' : MH) : Prop := mh.length ≤ mh'.length ∧ ∀ i o, i < mh.length → mh'[i]? = some o → mh[i]? = some o ∨ o.blw mh.length = true
open Classical in
noncomputable def cutR (mh : MH) (r : Res D) : Res D := match r with
  | .ok d mh' => if d.blw mh.length = true ∧ Kept mh mh' then .ok d (mh'.take mh.length) else .no
  | .ex x mh' => if D.blws mh.length (x.fs.map (·.2)) = true ∧ Kept mh mh' then .ex x (mh'.take mh.length) else .no
  | .no => .no
open Classical in
/-- as cutR; a new list is frozen -/
noncomputable def fzR (mh : MH) (r : Res D) : Res D := match r with
  | .ok (.ref n) mh' => if mh.length ≤ n then (match mh'[n]? with
    | some (.lst xs) => if D.blws mh.length xs = true ∧ Kept mh mh' then .ok (.rol xs) (mh'.take mh.length) else .no
    | _ => .no) else cutR mh r
  | r => cutR mh r
section
variable {K : PySem.W.Frag} {φ φ' : List Addr} {H H' : Hp} {mh mh' : MH} {mg : MGl} {W : WX} {σ : L2.St}
mutual
theorem RelD.cut (p : Px φ φ') : ∀ {d : D} {v : V}, RelD K φ' H d v → d.blw φ.length = true → RelD K φ H d v
  | _, _, .non, _ => .non
  | _, _, .bl b, _ => .bl b
  | _, _, .int i, _ => .int i
  | _, _, .str x, _ => .str x
  | _, _, .ty n, _ => .ty n
  | .ref n, _, .ref h, b => by
    have hl : n < φ.length := by simpa [D.blw] using b
    obtain ⟨t, rfl⟩ := p
    rw [List.getElem?_append_left hl] at h
    exact .ref h
  | _, _, .tup h hs, b => .tup h (RelDs.cut p hs (by simpa [D.blw] using b))
  | _, _, .rol h hs, b => .rol h (RelDs.cut p hs (by simpa [D.blw] using b))
  | _, _, .exc h x hd l hs, b => .exc h x hd l (RelDs.cut p hs (by simpa [D.blw] using b))
theorem RelDs.cut (p : Px φ φ') : ∀ {ds : List D} {vs : List V}, RelDs K φ' H ds vs → D.blws φ.length ds = true → RelDs K φ H ds vs
  | _, _, .nil, _ => .nil
  | d :: ds, _, .cons h t, b => by
    have b' : d.blw φ.length = true ∧ D.blws φ.length ds = true := by simpa [D.blws] using b
    exact .cons (RelD.cut p h b'.1) (RelDs.cut p t b'.2)
end
mutual
theorem RelD.bel : ∀ {d : D} {v : V}, RelD K φ H d v → d.blw φ.length = true
  | _, _, .non => rfl
  | _, _, .bl b => rfl
  | _, _, .int i => rfl
  | _, _, .str x => rfl
  | _, _, .ty n => rfl
  | .ref n, _, .ref h => by
    have := (List.getElem?_eq_some_iff.mp h).1
    simpa [D.blw] using this
  | _, _, .tup h hs => by simpa [D.blw] using RelDs.bel hs
  | _, _, .rol h hs => by simpa [D.blw] using RelDs.bel hs
  | _, _, .exc h x hd l hs => by simpa [D.blw] using RelDs.bel hs
theorem RelDs.bel : ∀ {ds : List D} {vs : List V}, RelDs K φ H ds vs → D.blws φ.length ds = true
  | _, _, .nil => rfl
  | d :: ds, _, .cons h t => by
    have h1 := RelD.bel h
    have h2 := RelDs.bel t
    simp [D.blws, h1, h2]
end
theorem RelK.cut {κ : Type} {kds : List (κ × D)} {kvs : List (κ × V)} (p : Px φ φ') (r : RelK K φ' H kds kvs) (b : D.blws φ.length (kds.map (·.2)) = true) : RelK K φ H kds kvs := ⟨r.1, r.2.cut p b⟩
theorem RelO.cut {a : Addr} {o : Ob} (p : Px φ φ') (r : RelO K φ' H a o) (b : o.blw φ.length = true) : RelO K φ H a o := by
  cases o with
  | lst ds => obtain ⟨vs, h, r⟩ := r; exact ⟨vs, h, r.cut p b⟩
  | dk kds => obtain ⟨vs, h, r⟩ := r; exact ⟨vs, h, r.cut p b⟩
  | dt kds => obtain ⟨vs, h, r⟩ := r; exact ⟨vs, h, r.cut p b⟩
  | lk kds => obtain ⟨vs, od, h, r⟩ := r; exact ⟨vs, od, h, r.cut p b⟩
theorem RelO.bel {a : Addr} {o : Ob} (r : RelO K φ H a o) : o.blw φ.length = true := by
  cases o with
  | lst ds => obtain ⟨vs, h, r⟩ := r; exact r.bel
  | dk kds => obtain ⟨vs, h, r⟩ := r; exact r.2.bel
  | dt kds => obtain ⟨vs, h, r⟩ := r; exact r.2.bel
  | lk kds => obtain ⟨vs, od, h, r⟩ := r; exact r.2.bel
theorem HR.cut (hh : HR K φ mh H) (h' : HR K φ' mh' H') (p : Px φ φ') (k : Kept mh mh') : HR K φ (mh'.take mh.length) H' := by
  refine ⟨by rw [List.length_take, hh.len]; have := k.1; omega, hh.nd, fun n a o h1 h2 => ?_⟩
  have hn : n < φ.length := (List.getElem?_eq_some_iff.mp h1).1
  have hn2 : n < mh.length := by rw [← hh.len]; exact hn
  rw [List.getElem?_take_of_lt hn2] at h2
  refine (h'.ob n a o (p.get h1) h2).cut p ?_
  rcases k.2 n o hn2 h2 with e | e
  · exact (hh.ob n a o h1 e).bel
  · rw [hh.len]; exact e
/-- a thing that the small heap does not tell is frozen -/
theorem HR.frzOut {a : Addr} {u w : HO} (hh : HR K φ mh H) (ha : a ∉ φ) (e : H a = some u) (s : ¬ Sta u) : HR K φ mh (upd H a w) := by
  refine ⟨hh.len, hh.nd, fun n b o h1 h2 => (hh.ob n b o h1 h2).mono (Px.refl φ) (Kp.mut e s) fun v q => ?_⟩
  rw [upd_ne (fun z => ha (by rw [← z]; exact List.mem_of_getElem? h1))]; exact q
theorem RelX.cut {x : Exn} {c : Value} {d : Option Addr} (p : Px φ φ') (r : RelX K mg φ' H x c d) (b : D.blws φ.length (x.fs.map (·.2)) = true) : RelX K mg φ H x c d := by
  obtain ⟨C, dx, fv, vs, h1, h2, h3, h4, h5, h6⟩ := r
  exact ⟨C, dx, fv, vs, h1, h2, h3, h4, h5, h6.cut p b⟩
theorem post_cut {r : Res D} {Q : V → Hp → Prop} (hh : HR K φ mh H) (h : post K mg W (RelD K) σ φ H (cutR mh r) Q) : post K mg W (RelD K) σ φ H r Q := by
  cases r with
  | ok d mh' =>
    simp only [cutR] at h
    split at h
    · rename_i c
      exact fun φ2 b H2 p2 k2 h2 r2 => h φ b H2 (Px.refl φ) k2 (hh.cut h2 p2 c.2) (r2.cut p2 (by rw [hh.len]; exact c.1))
    · exact h.elim
  | ex x mh' =>
    simp only [cutR] at h
    split at h
    · rename_i c
      exact fun φ2 c1 d2 H2 p2 k2 h2 hx => h φ c1 d2 H2 (Px.refl φ) k2 (hh.cut h2 p2 c.2) (hx.cut p2 (by rw [hh.len]; exact c.1))
    · exact h.elim
  | no => exact h
def Fz (Q : V → Hp → Prop) : V → Hp → Prop := fun v H => Q v H ∨ ∃ a vs, H a = some (.lst vs) ∧ ∀ od, Q v (upd H a (.frz od (.lst vs)))
theorem post_fz {r : Res D} {Q : V → Hp → Prop} (hh : HR K φ mh H) (h : post K mg W (RelD K) σ φ H (fzR mh r) Q) : post K mg W (RelD K) σ φ H r (Fz Q) := by
  have weak : ∀ {r : Res D}, post K mg W (RelD K) σ φ H (cutR mh r) Q → post K mg W (RelD K) σ φ H r (Fz Q) := fun h => post_mono (Px.refl φ) (Kp.refl H) (post_cut hh h) fun _ _ q => .inl q
  cases r with
  | ok d mh' =>
    cases d with
    | ref n =>
      simp only [fzR] at h
      split at h
      · rename_i hn
        split at h
        · rename_i xs hx
          split at h
          · rename_i c
            intro φ2 b H2 p2 k2 h2 r2
            cases r2 with
            | ref ha =>
              rename_i a
              obtain ⟨vs, e, rv⟩ := h2.lst ha hx
              have hout : a ∉ φ := fun z => by
                obtain ⟨m, hm, e⟩ := List.mem_iff_getElem.mp z
                have hm1 : φ[m]? = some a := by simp [hm, e]
                have := h2.inj (p2.get hm1) ha
                rw [hh.len] at hm
                omega
              refine .inr ⟨a, vs, e, fun od => h φ (.ref a) _ (Px.refl φ) (k2.trans (Kp.mut e fun z => z)) ((hh.cut h2 p2 c.2).frzOut hout e fun z => z) (.rol (.inl ⟨od, upd_same⟩) ?_)⟩
              exact (rv.cut p2 (by rw [hh.len]; exact c.1)).mono (Px.refl φ) (Kp.mut e fun z => z)
          · exact h.elim
        · exact h.elim
      · exact weak h
    | _ => exact weak h
  | ex x mh' => exact weak h
  | no => exact h
end
/-! ### expressions -/
noncomputable def fz (f : ME) : ME := fun env mh => fzR mh (f env mh)
noncomputable def ct (f : ME) : ME := fun env mh => cutR mh (f env mh)
section
variable {X : Cx} {W : WX} {e : Expr} {f : ME}
theorem pe_frz {t : TE} (h : PE X e t) : PE X e fun σ H Q => t σ H (Fz Q) := ⟨fun pins s σ H Q I q => by
  refine thn (h.run pins s σ H _ I q) fun v s1 ⟨x, H1, I1, r, q1⟩ => ?_
  rcases q1 with q1 | ⟨a, vs, e, q1⟩
  · exact ⟨x, H1, I1, r, q1⟩
  · obtain ⟨od, I2⟩ := I1.lock e trivial
    exact ⟨x, _, I2, r, q1 od⟩⟩
theorem se_fz (h : SE X W e f) : SE X W e (fz f) := (pe_frz h).imp (by
  rintro σ H Q ⟨φ, env, mh, re, hh, p⟩
  exact ⟨φ, env, mh, re, hh, post_fz hh p⟩)
theorem se_ct (h : SE X W e f) : SE X W e (ct f) := h.imp (by
  rintro σ H Q ⟨φ, env, mh, re, hh, p⟩
  exact ⟨φ, env, mh, re, hh, post_cut hh p⟩)
end
/-! ### defs -/
noncomputable def zF (F : Fn) : Fn := fun ds mh => fzR mh (F ds mh)
section
variable {P : Program} {w : World} {K : PySem.W.Frag} {mg : MGl} {base : Heap} {CX : CXT} {k : Nat} {f : Addr} {fd : FuncData} {ps : List Str} {sp sp' : Sp} {F : Fn}
theorem CE.frz {outer : List Env} {H : Hp} {s s' : Shared} {Q : VK} {u : Value} (h : CE outer P w H s (Fz Q) u s') : CE outer P w H s Q u s' := by
  obtain ⟨v, H', os, bare, un, hok, r, q⟩ := h
  rcases q with q | ⟨a, vs, e, q⟩
  · exact ⟨v, H', os, bare, un, hok, r, q⟩
  · have x := hok a _ e
    have x0 := x
    obtain ⟨od, e2⟩ : ∃ od, s'.heap.get? a = some od := by
      obtain ⟨_, its, n, _, e2⟩ := x0
      exact ⟨_, e2⟩
    have mu : Mut (H' a) := by rw [e]; trivial
    have new : ObjOk P w (upd H' a (.frz od (.lst vs))) s'.heap a (.frz od (.lst vs)) := by
      refine ⟨e2, x.stay (fun b v _ q => q) (fun b q => ?_) fun b xs q => ?_⟩
      · rw [upd_ne (fun z => by rw [z, e] at q; cases q)]; exact q
      · rw [upd_ne (fun z => by rw [z, e] at q; cases q)]; exact q
    exact ⟨v, _, os, bare, un.trans (Un.write (x := a) (e := a) mu (.inl rfl) (fun b v _ q => q) ⟨_, e2⟩), hok.write (x := a) (e := a) mu (.inl rfl) (fun b v _ q => q) ⟨_, e2⟩ new, r, q _⟩
theorem FnOk.frz (F : FnOk P w K mg base CX k f fd ps sp) (h : ∀ vs H Q E, sp' vs H Q E → sp vs H (Fz Q) E) : FnOk P w K mg base CX k f fd ps sp' :=
  ⟨fun vs H Q E q => F.len vs H _ E (h _ _ _ _ q), fun A outer s H args us vs Q E hr he hb hv hs => codeAny_mono (F.run A outer s H args us vs _ E hr he hb hv (h _ _ _ _ hs)) fun r s' q => by
    cases r with
    | error e => exact q
    | ok fl =>
      cases fl with
      | ret u => exact CE.frz q
      | next => exact q
      | brk => exact q
      | cont => exact q⟩
theorem okZ (G : DOk P w K mg base k f fd ps F) : DOk P w K mg base k f fd ps (zF F) := FnOk.frz G (by
  rintro vs H Q E ⟨φ, mh, ds, r, hh, hl, q⟩
  exact ⟨φ, mh, ds, r, hh, hl, post_fz hh q⟩)
end
end Det
/-! Det, part Db: list + list, frozen ones too. -/
namespace Det
open PySem PySem.Spec PyProof.Rows L2
def lstD (mh : MH) : D → Option (List D)
  | .rol xs => some xs
  | .ref n => match mh[n]? with
    | some (.lst xs) => some xs
    | _ => none
  | _ => none
def oAddX : Op2 := fun a b mh => match a, b with
  | .int i, .int j => some (.int (i + j), mh)
  | .str x, .str y => if x.length + y.length ≤ sizeLine then some (.str (x ++ y), mh) else none
  | .tup xs, .tup ys => if xs.length + ys.length ≤ sizeLine then some (.tup (xs ++ ys), mh) else none
  | a, b => match lstD mh a, lstD mh b with
    | some xs, some ys => if xs.length + ys.length ≤ sizeLine then some (.ref mh.length, mh ++ [.lst (xs ++ ys)]) else none
    | _, _ => none
def rCatS (K : PySem.W.Frag) : R2 := fun x y H Q => ∃ l b xs zs, x = .ref l ∧ y = .ref b ∧ SqL K H l xs ∧ SqL K H b zs ∧ xs.length + zs.length ≤ sizeLine ∧ ∀ p, H p = none → Q (.ref p) (upd H p (.lst (xs ++ zs)))
section
variable {X : Cx}
theorem op_catS : OpR X (binaryOp .Add) (rCatS X.K) := by
  rintro pins s σ H x y v u Q I rx ry ⟨l, b, xs, zs, rfl, rfl, hH, hB, hz, q⟩
  cases rx
  cases ry
  obtain ⟨i1, r1, ⟨o1, n1, e1, c1, d1, t1⟩, z1⟩ := I.list hH
  obtain ⟨i2, r2, ⟨o2, n2, e2, c2, d2, t2⟩, z2⟩ := I.list hB
  obtain ⟨cl1, dd1, da1, sl1⟩ := o1
  obtain ⟨cl2, dd2, da2, sl2⟩ := o2
  simp only at c1 d1 t1 c2 d2 t2
  subst c1 d1 t1 c2 d2 t2
  have g1 := r1.length
  have g2 := r2.length
  refine concat_meets ⟨_, e1, rfl⟩ ⟨_, e2, rfl⟩ noFill_list_add seq_list_add PySem.F.slot_list_add PySem.F.entry_list_add (PySem.F.args_list_add_2 _ _) (list_addW l b i1.toArray i2.toArray n1 n2 none none sl1 sl2 (by simp; omega)) ⟨e1, e2, ?_⟩
  rw [show i1.toArray ++ i2.toArray = (i1 ++ i2).toArray by simp]
  exact ⟨.ref _, _, I.lnew (t' := s.toks) (r1.append r2) (by simp; omega), rfl, q _ I.fresh⟩
theorem lstD_of {φ : List Addr} {H : Hp} {mh : MH} {d : D} {v : V} {xs : List D} (hh : HR X.K φ mh H) (r : RelD X.K φ H d v) (h : lstD mh d = some xs) : ∃ p vs, v = .ref p ∧ SqL X.K H p vs ∧ RelDs X.K φ H xs vs := by
  cases r with
  | rol hs rs => cases h; exact ⟨_, _, rfl, hs.seq, rs⟩
  | ref hn =>
    simp only [lstD] at h
    split at h
    · rename_i ys hy
      cases h
      obtain ⟨vs, e, rs⟩ := hh.lst hn hy
      exact ⟨_, vs, rfl, SqL.of e, rs⟩
    · cases h
  | _ => cases h
theorem r_addX : OpR X (binaryOp .Add) (iR2 X.K oAddX) := by
  rintro pins s σ H x y v u Q I rx ry ⟨φ, mh, a, b, ra, rb, hh, p⟩
  unfold oAddX at p
  split at p
  · exact r_add pins s σ H x y v u Q I rx ry ⟨φ, mh, _, _, ra, rb, hh, p⟩
  · exact r_add pins s σ H x y v u Q I rx ry ⟨φ, mh, _, _, ra, rb, hh, p⟩
  · exact r_add pins s σ H x y v u Q I rx ry ⟨φ, mh, _, _, ra, rb, hh, p⟩
  · split at p
    · rename_i xs ys h1 h2
      split at p
      · rename_i hl
        obtain ⟨p1, v1, e1, s1, r1⟩ := lstD_of hh ra h1
        obtain ⟨p2, v2, e2, s2, r2⟩ := lstD_of hh rb h2
        exact op_catS pins s σ H _ _ v u Q I rx ry ⟨p1, p2, v1, v2, e1, e2, s1, s2, by rw [← r1.length, ← r2.length]; exact hl, fun q hq => postO_new hh p (r1.append r2) hq⟩
      · exact p.elim
    · exact p.elim
end
end Det
/-! Det, part Dc: raise C(e, ..), C an own class whose __init__ keeps its arguments as fields. -/
namespace Det
open PySem PySem.Spec PyProof.Rows L2
theorem lookup_mem_iff {α : Type} {f : Str} {v : α} : ∀ {l : List (Str × α)}, (l.map (·.1)).Nodup → (l.lookup f = some v ↔ (f, v) ∈ l)
  | [], _ => by simp
  | (g, w) :: l, h => by
    rw [List.map_cons, List.nodup_cons] at h
    rw [List.lookup_cons]
    by_cases e : f = g
    · subst e
      simp only [beq_self_eq_true]
      constructor
      · intro q; cases q; exact List.mem_cons_self
      · intro q
        rcases List.mem_cons.mp q with q | q
        · cases q; rfl
        · exact absurd (List.mem_map.mpr ⟨_, q, rfl⟩) h.1
    · rw [show (f == g) = false from beq_eq_false_iff_ne.mpr e]
      simp only
      rw [lookup_mem_iff h.2]
      constructor
      · exact List.mem_cons_of_mem _
      · intro q
        rcases List.mem_cons.mp q with q | q
        · cases q; exact absurd rfl e
        · exact q
theorem lookup_rev {α : Type} {l : List (Str × α)} (h : (l.map (·.1)).Nodup) (f : Str) : l.reverse.lookup f = l.lookup f := by
  have h2 : (l.reverse.map (·.1)).Nodup := by rw [List.map_reverse]; exact (List.reverse_perm _).nodup_iff.mpr h
  cases e : l.lookup f with
  | some v => rw [lookup_mem_iff h2, List.mem_reverse]; exact (lookup_mem_iff h).mp e
  | none =>
    cases e2 : l.reverse.lookup f with
    | none => rfl
    | some v =>
      have := (lookup_mem_iff h2).mp e2
      rw [List.mem_reverse] at this
      rw [(lookup_mem_iff h).mpr this] at e
      cases e
theorem map_fst_zip {α : Type} : ∀ (ns : List Str) (ds : List α), ds.length = ns.length → (ns.zip ds).map (·.1) = ns
  | [], [], _ => rfl
  | n :: ns, d :: ds, h => by simp [map_fst_zip ns ds (by simpa using h)]
  | [], _ :: _, h => by simp at h
  | _ :: _, [], h => by simp at h
theorem map_snd_zip {α : Type} : ∀ (ns : List Str) (ds : List α), ds.length = ns.length → (ns.zip ds).map (·.2) = ds
  | [], [], _ => rfl
  | n :: ns, d :: ds, h => by simp [map_snd_zip ns ds (by simpa using h)]
  | [], _ :: _, h => by simp at h
  | _ :: _, [], h => by simp at h
/-- what __init__ does -/
def spIni (K : PySem.W.Frag) (fns : List Str) : Sp := fun vs H Q _ => ∃ (e C : Addr) (ys : List V), vs = .ref e :: ys ∧ ys.length = fns.length ∧ OexC K C ∧ (∀ f ∈ fns, PySem.W.findIn K (.ref C) f = some none) ∧ H e = some (exo e C none) ∧
  ∀ dx, H dx = none → dx ≠ e → Q .non (upd (upd H dx (exd dx (fns.zip ys).reverse)) e (exo e C (some dx)))
section
variable {P : Program} {w : World} {K : PySem.W.Frag} {mg : MGl} {base : Heap} {x qual f g : Str} {stt : Stmt} {fad : Addr} {fd : FuncData}
theorem okI1 (F : Fun K x qual stt fad fd) (S : FnScope ["self", f] ["self", f] (defScope stt))
    (hb : ∀ (cdv : Value) (A : Around) (outer : List Env) (s : Shared) (H : Hp) (E : XK), PSs (cxOf (L2.CX P w) P w K mg base ["self", f] qual (defScope stt) fad cdv A outer s H E) (defBody stt) (tOst K f (tVar 0) (tVar 1))) :
    FnOk P w K mg base (L2.CX P w) 1 fad fd ["self", f] (spIni K [f]) := by
  refine F.okX (k := 0) S (fun vs H Q E h => ?_) (fun cdv A outer s H vs Q E hr h => ⟨_, hb cdv A outer s H E, ?_⟩)
  · obtain ⟨e, C, ys, rfl, hl, _⟩ := h
    simp at hl ⊢; exact hl
  · obtain ⟨e, C, ys, rfl, hl, T, hno, he, q⟩ := h
    match ys, hl with
    | [y], _ => exact ⟨y, rfl, .ref e, rfl, e, C, rfl, T, hno f (by simp), .inl ⟨he, fun dx h1 h2 => q dx h1 h2⟩⟩
theorem okI2 (F : Fun K x qual stt fad fd) (S : FnScope ["self", f, g] ["self", f, g] (defScope stt))
    (hb : ∀ (cdv : Value) (A : Around) (outer : List Env) (s : Shared) (H : Hp) (E : XK), PSs (cxOf (L2.CX P w) P w K mg base ["self", f, g] qual (defScope stt) fad cdv A outer s H E) (defBody stt) (fun D σ H => tOst K f (tVar 0) (tVar 1) { D with nx := fun σ H => tOst K g (tVar 0) (tVar 2) D σ H } σ H)) :
    FnOk P w K mg base (L2.CX P w) 1 fad fd ["self", f, g] (spIni K [f, g]) := by
  refine F.okX (k := 0) S (fun vs H Q E h => ?_) (fun cdv A outer s H vs Q E hr h => ⟨_, hb cdv A outer s H E, ?_⟩)
  · obtain ⟨e, C, ys, rfl, hl, _⟩ := h
    simp at hl ⊢; exact hl
  · obtain ⟨e, C, ys, rfl, hl, T, hno, he, q⟩ := h
    match ys, hl with
    | [y, z], _ =>
      refine ⟨y, rfl, .ref e, rfl, e, C, rfl, T, hno f (by simp), .inl ⟨he, fun dx h1 h2 => ?_⟩⟩
      refine ⟨z, rfl, .ref e, rfl, e, C, rfl, T, hno g (by simp), .inr ⟨dx, [(f, y)], upd_same, ?_, by simp, ?_⟩⟩
      · rw [upd_ne h2, upd_same]
      · have := q dx h1 h2
        have eq : upd (upd (upd H dx (exd dx [(f, y)])) e (exo e C (some dx))) dx (exd dx [(g, z), (f, y)]) = upd (upd H dx (exd dx [(g, z), (f, y)])) e (exo e C (some dx)) := by
          funext b
          unfold upd
          by_cases h3 : b = dx
          · subst h3; simp [h2]
          · simp [h3]
        show Q .non _
        rw [eq]
        exact this
end
/-- raise C(e, ..) -/
def rse (c : Str) (fns : List Str) (fa : MA) : MS := fun env mh => lift (fa env mh) env fun ds mh1 => if ds.length = fns.length then .ex ⟨c, fns.zip ds⟩ env mh1 else .no
section
variable {X : Cx} {W : WX} {e : Expr} {es : List Expr} {fa : MA} {p pos pos2 : Pos}
theorem ss_rse {x : Str} {C fI : Addr} {fd : FuncData} {fns : List Str} (hc : X.calm = true) (tk : Takes X W) (T : OexC X.K C) (iC : PySem.W.findIn X.K (.ref C) "__init__" = some (some (.ref fI))) (tI : PySem.W.typeIn X.K (.ref fI) = some (.type "function"))
    (F1 : FnOk X.prog X.w X.K X.mg X.base (L2.CX X.prog X.w) 1 fI fd ("self" :: fns) (spIni X.K fns)) (hr : Room 2 X.A) (hb : Binds X.K fd ("self" :: fns) []) (hm : X.mg x = some (.ref C)) (hns : PySem.W.nsIn X.K mainGlobals x = some (some (.ref C)))
    (hf : ∀ f ∈ fns, PySem.W.findIn X.K (.ref C) f = some none) (hnd : fns.Nodup) (hl : fns.length ≤ 1000) (ha : SA X W (e :: es) fa) (hg : Gl X x := by rfl)
    (hdb : (x == ("__debug__" : Str)) = false := by decide) (he : starEach (e :: es) X.env = (false, eval e X.env) :: starEach es X.env := by rfl) (hpl : (backTo pos (starEach es X.env)).any (·.1) = false := by rfl) :
    SS X W (.Raise (some (.Call (.Name x p) (e :: es) [] pos)) none pos2) (rse x fns fa) := by
  have hx : Passes (L2.CX X.prog X.w) X (fun _ _ _ => False) := fun pins σ H s e s' I c => by
    obtain ⟨_, _, _, _, _, _, _, _, _, _, _, _, no⟩ := c
    exact no.elim
  refine (ps_raise hc tk (pmk_oex T iC tI F1 hr hb .nil hx hg hm ha hdb he hpl)).imp ?_
  rintro D σ H ⟨φ, env, mh, re, hh, pq⟩
  refine ⟨φ, env, mh, re, hh, post_mono (Px.refl φ) (Kp.refl H) (post_lift (R := RelDs X.K) re pq) ?_⟩
  rintro vs H1 ⟨φ1, ds, mh1, p1, k1, h1, r1, q⟩
  by_cases hd : ds.length = fns.length
  · rw [if_pos hd] at q
    have hv : vs.length = fns.length := by rw [← r1.length]; exact hd
    refine ⟨by omega, fun a ha1 => ?_⟩
    refine ⟨a, C, vs, by rw [List.append_nil], hv, T, hf, upd_same, fun dx h2 h3 => ?_⟩
    have hdx : H1 dx = none := by rw [upd_ne h3] at h2; exact h2
    refine ⟨rfl, dx, _, upd_same, by rw [upd_ne h3]; exact upd_same, hdx, ?_⟩
    have eH : upd (del (upd (upd (upd H1 a (exo a C none)) dx (exd dx (fns.zip vs).reverse)) a (exo a C (some dx))) a) dx (.xd (fns.zip vs).reverse) = upd H1 dx (.xd (fns.zip vs).reverse) := by
      funext b
      unfold upd del
      by_cases hb1 : b = dx
      · simp [hb1]
      · by_cases hb2 : b = a
        · subst hb2; simp [hb1, ha1]
        · simp [hb1, hb2]
    rw [eH]
    have hN : ((fns.zip vs).map (·.1)).Nodup := by rw [map_fst_zip fns vs hv]; exact hnd
    refine q φ1 (.ref C) (some dx) σ _ (Px.refl φ1) (Kp.new hdx) (h1.grow hdx) ((re.mono p1 k1).mono (Px.refl φ1) (Kp.new hdx)) ⟨C, dx, _, vs, hns, rfl, rfl, upd_same, fun f v hfv => ?_, ?_⟩
    · simp only [map_fst_zip fns ds hd] at hfv
      rw [lookup_rev hN]; exact hfv
    · simp only [map_snd_zip fns ds hd]
      exact r1.mono (Px.refl φ1) (Kp.new hdx)
  · rw [if_neg hd] at q; exact q.elim
end
end Det
/-! Det, part Dd: try .. except X as e, the exception known in the suite. -/
namespace Det
open PySem PySem.Spec PyProof.Rows L2
section
variable {X : Cx} {pins : List (Addr × Obj)} {σ : L2.St} {H : Hp} {s sI : Shared} {a : Addr} {oe : Obj}
/-- a thing that was not there at the def's start is known from now on -/
theorem Inv_track (I : Inv X pins σ H s) (ha : s.heap.get? a = some oe) (na : H a = none) (h0 : X.s_0.heap.get? a = none) (nL : a ≠ X.env.locals) (nc : ∀ v, oe.data ≠ .cell v) (np : ∀ p ∈ X.pn ++ pins, p.1 ≠ a) : Inv X pins σ (upd H a (.frz oe (anyO a))) s := by
  have old : ∀ {b : Addr} {u : HO}, H b = some u → upd H a (.frz oe (anyO a)) b = some u := fun {b u} q => by rw [upd_ne (ne_of_none q na)]; exact q
  refine ⟨I.ok, I.os, I.bare, ⟨I.base.keep, I.base.slot, fun b o q n hx => ?_, I.base.there, fun b xs q => old (I.base.tups b xs q), fun b o u q => old (I.base.frzs b o u q), fun b ps q => ?_⟩, I.loc, I.cell, ?_, fun x c q => ?_, fun p hp => ?_, fun b o q => ?_, I.len⟩
  · have ne : b ≠ a := fun z => by rw [z, h0] at q; cases q
    rw [upd_ne ne]; exact I.base.free b o q n hx
  · obtain ⟨m, r⟩ := I.base.tbls b ps q
    exact ⟨m, old r⟩
  · rw [upd_ne (Ne.symm nL)]; exact I.free
  · have ne : c ≠ a := fun z => by
      obtain ⟨v, hcell⟩ := I.cell x c q
      rw [z] at hcell
      unfold Heap.IsCell at hcell
      first
        | (obtain ⟨o, e1, e2⟩ := hcell; rw [ha] at e1; cases e1; exact nc _ e2)
        | (rw [ha] at hcell; cases hcell; exact nc _ rfl)
    rw [upd_ne ne]; exact I.freeC x c q
  · obtain ⟨e, n, r⟩ := I.pin p hp
    exact ⟨e, by rw [upd_ne (np p hp)]; exact n, r⟩
  · by_cases hb : b = a
    · subst hb
      rw [upd_same] at q
      cases q
      exact ⟨ha, ⟨oe, ha⟩, ⟨oe, ha⟩, fun h1 h2 ⟨o, z⟩ k => ⟨o, k o z⟩⟩
    · rw [upd_ne hb] at q
      exact (I.hok b o q).stay (fun c v _ z => z) (fun c z => old z) fun c xs z => old z
theorem Inv_suite0 (I : Inv X pins σ H s) : Inv (X.suite a (X.pn ++ pins)) [] σ H s :=
  ⟨I.ok.suite _ _, I.os, I.bare, I.base, I.loc, I.cell, I.free, I.freeC, fun p hp => I.pin p (by rw [List.append_nil] at hp; exact hp), I.hok, I.len⟩
theorem Inv_unsuite0 {pn' : List (Addr × Obj)} (I : Inv (X.suite a (X.pn ++ pins)) pn' σ H s) (ok : X.Ok) : Inv X pins σ H s :=
  ⟨ok, I.os, I.bare, I.base, I.loc, I.cell, I.free, I.freeC, fun p hp => I.pin p (List.mem_append_left _ hp), I.hok, I.len⟩
end
/-- what the clause 'except x as n' wishes of the body's exception -/
def wTry (K : PySem.W.Frag) (c : Value) (i : Nat) (ts : TS) (Wout : WX) (D : Ends) : WX := fun cls d σ H => ∃ b, PySem.W.exmOne K cls c = some b ∧
  (b = true → ∀ (a : Addr) (oe : Obj), H a = none → Zc cls d oe → (∃ vs, oe.data = .fields vs) →
    ts { nx := fun σ' H' => D.nx (σ'.set i none) H', rt := D.rt, bk := fun σ' H' => D.bk (σ'.set i none) H', ct := fun σ' H' => D.ct (σ'.set i none) H' } (σ.set i (some (.ref a))) (upd H a (.frz oe (anyO a)))) ∧ (b = false → Wout cls d σ H)
section
variable {X : Cx} {x n : Str} {c : Value} {i : Nat} {body suite : List Stmt} {b₀ : Stmt} {np pos pos' : Pos} {tb : WX → TS} {ts : TS} {Wout : WX}
theorem ps_tryX (hs : X.stack = X.env :: X.outer) (hf : X.env.frame = some X.env.locals) (hex : X.ex = []) (hN : X.N.Nodup) (hi : X.N[i]? = some n) (hln : X.env.kindOf n = some .local) (hc : Names X x c) (tk : Takes X Wout)
    (hb : ∀ (W : WX) (pn : List (Addr × Obj)) (xe : Value → Shared → Prop), Takes (X.tr pn xe) W → PassesOwn (model X.prog X.w) X.A X.env xe → PSs (X.tr pn xe) body (tb W))
    (hsu : ∀ (a : Addr) (pn : List (Addr × Obj)), PSs (X.suite a pn) (b₀ :: suite) ts) :
    PS X (.Try body [.ExceptHandler (some (.Name x np)) (some n) (b₀ :: suite) pos'] [] [] pos) (fun D σ H => tb (wTry X.K c i ts Wout D) D σ H) := by
  refine ⟨fun pins s σ H D I h => ?_⟩
  have ok := I.ok
  have frm : X.A.frames = some (X.env :: X.outer) := by rw [ok.frames, hs]
  refine wpAny_Try_except ?_
  refine wpAny_mono ((hb (wTry X.K c i ts Wout D) (X.pn ++ pins) (fun e s₁ => wpAny (model X.prog X.w) X.A (noteFrame e X.env) (fun _ s₂ => wpAny (model X.prog X.w) X.A (setFlight e none) (fun _ s₃ =>
    wpAny (model X.prog X.w) X.A (handleBy e X.env [.ExceptHandler (some (.Name x np)) (some n) (b₀ :: suite) pos']) (SP X pins D) X.xe s₃) X.xe s₂) X.xe s₁) (fun u s' q => ?air) PassesOwn.looking).run [] s σ H D (I.toTry _) h) (fun fl s1 e1 => ?fin) (fun e s1 he => he)
  case air =>
    obtain ⟨a, B, sI, pins1, σ1, H1, cls, d, rfl, J0, ground, up, sky, na, os, ag, b, hm, yes, no⟩ := q
    have J : Inv X pins σ1 H1 sI := J0.ofTry ok
    have sky2 : Sky B (X.env :: X.outer) a (Zc cls d) X.env.locals s'.heap := by rw [← hs]; exact sky
    show wpAny (model X.prog X.w) X.A (noteFrame (.ref a) X.env) _ _ _
    refine Sky.land Zc.steady frm hf sky2 fun h3 f3 u3 => ?_
    have J3 : Inv X pins σ1 H1 { s' with heap := h3 } := J.landed ground f3.1 (up.trans u3) os ag
    obtain ⟨o3, v3, g3, z3, d3⟩ := f3.there
    have off : a ∉ frs (X.env :: X.outer) := fun hmem => by
      obtain ⟨_, o', e', nf⟩ := f3.2.2.1.mem hmem
      rw [g3] at e'; cases e'
      exact nf _ d3
    have offS : a ∉ frs X.stack := by rw [hs]; exact off
    have nL : a ≠ X.env.locals := fun z => off (List.mem_filterMap.mpr ⟨X.env, List.mem_cons_self, by rw [hf, z]⟩)
    have noB : B.get? a = none := f3.2.1
    have newS : X.s_0.heap.get? a = none := by
      cases e0 : X.s_0.heap.get? a with
      | none => rfl
      | some o0 =>
        obtain ⟨o1, e1⟩ := J.base.there a o0 e0 (by rw [hex]; exact fun z => nomatch z)
        rw [ground a o1 e1 offS] at noB; cases noB
    have npin : ∀ p ∈ X.pn ++ pins, p.1 ≠ a := fun p hp z => by
      have e1 := (J.pin p hp).1
      rw [z] at e1
      rw [ground a _ e1 offS] at noB; cases noB
    refine wpAny_handleBy_cons (codeAny_handlers_test ?_) (by intro q; cases q)
    have ty : PySem.W.Looks (model X.prog X.w) h3 (typeOf (.ref a)) cls := fun A Q E s k q => wpAny_typeOf_ref (k _ _ g3) (by rw [z3.1]; exact q)
    have mat := PySem.W.exm_one (M := model X.prog X.w) J3.kIn ty hm
    have J3s : Inv (X.suite a (X.pn ++ pins)) [] σ1 H1 { s' with heap := h3 } := Inv_suite0 J3
    have name : ∀ {Q : Value → Shared → Prop} {E : Value → Shared → Prop}, Q c { s' with heap := h3 } → wpAny (model X.prog X.w) (X.A.mark (some (.ref a))) (eval (.Name x np) X.env) Q E { s' with heap := h3 } := fun {Q E} q => by
      obtain ⟨hg, hdbg, hm | ⟨hm, hv, hnn⟩⟩ := hc
      · exact ld_glob (X := X.suite a (X.pn ++ pins)) J3s hg hm q hdbg
      · exact ld_blt (X := X.suite a (X.pn ++ pins)) J3s hg hm hv q hnn hdbg
    refine name (mat.here ?_)
    cases b with
    | true =>
      refine codeAny_handlers_suite_as ?_
      refine HandSPX.lands_againZ f3 fun h4 f4 u4 => ?_
      have J4 : Inv X pins σ1 H1 { s' with heap := h4 } := J.landed ground f4.1 ((up.trans u3).trans u4) os ag
      obtain ⟨o4, v4, g4, z4, d4⟩ := f4.there
      have T4 : Inv X pins σ1 (upd H1 a (.frz o4 (anyO a))) { s' with heap := h4 } := Inv_track J4 g4 na newS nL (fun v z => by rw [d4] at z; cases z) npin
      refine store_ok (X := X.suite a (X.pn ++ pins)) (v := .ref a) (Inv_suite0 T4) hN hi (.inl hln) rfl (fun s5 S5 => ?_) (.inr hln)
      refine wpAny_mono ((hsu a (X.pn ++ pins)).run [] s5 _ _ _ S5 (yes rfl a o4 na z4 ⟨_, d4⟩)) (fun fl s6 e6 => ?_) (fun _ _ z => False.elim z)
      have leave : ∀ {σ6 : L2.St} {H6 : Hp} {R : Shared → Prop}, Inv (X.suite a (X.pn ++ pins)) [] σ6 H6 s6 → (∀ s7, Inv X pins (σ6.set i none) H6 s7 → R s7) →
          wpAny (model X.prog X.w) X.A (do bindName X.env n .none; unbindBehindTheSuite X.env n pos') (fun _ s7 => R s7) X.xe s6 := fun {σ6 H6 R} S6 hq => gone_ok (Inv_unsuite0 S6 ok) hN hi hln hq
      cases fl with
      | next => obtain ⟨σ6, H6, S6, q6⟩ := e6; exact leave S6 fun s7 J7 => ⟨_, _, J7, q6⟩
      | brk => obtain ⟨σ6, H6, S6, q6⟩ := e6; exact leave S6 fun s7 J7 => ⟨_, _, J7, q6⟩
      | cont => obtain ⟨σ6, H6, S6, q6⟩ := e6; exact leave S6 fun s7 J7 => ⟨_, _, J7, q6⟩
      | ret u => obtain ⟨v6, σ6, H6, S6, r6, q6⟩ := e6; exact leave S6 fun s7 J7 => ⟨_, _, _, J7, r6, q6⟩
    | false =>
      show wpAny _ X.A (handleBy (.ref a) X.env []) _ _ _
      refine wpAny_handleBy_nil ?_
      have f3' := f3
      obtain ⟨_, _, _, oe, vs, T, oT, ts', ge, _, de, e1, _⟩ := f3'
      unfold PySem.passOn
      refine wpAny_bind (wpAny_field ge de e1 ?_)
      rw [if_neg (show ¬ ((Value.ref T == Value.none) = true) from by simp)]
      have on : wpAny (model X.prog X.w) X.A (setFlight (.ref a) X.env.frame) (fun _ s4 => wpAny (model X.prog X.w) X.A (throw (.ref a) : Sem Flow) (SP X pins D) X.xe s4) X.xe { s' with heap := h3 } := by
        rw [hf]
        refine HandSPX.setFlight_upZ f3 fun h4 hh4 u4 => wpAny_throw (tk _ _ ?_)
        exact ⟨a, B, sI, pins, σ1, H1, cls, d, rfl, J, ground, (up.trans u3).trans u4, .inr (.inr (by rw [hs]; exact hh4)), na, os, ag, no rfl⟩
      first
        | exact wpAny_bind (wpAny_pure (wpAny_bind on))
        | exact wpAny_bind on
  case fin => cases fl with
  | next => obtain ⟨σ', H', J', q⟩ := e1; exact wpAny_execs_nil ⟨σ', H', J'.ofTry ok, q⟩
  | brk => obtain ⟨σ', H', J', q⟩ := e1; exact ⟨σ', H', J'.ofTry ok, q⟩
  | cont => obtain ⟨σ', H', J', q⟩ := e1; exact ⟨σ', H', J'.ofTry ok, q⟩
  | ret u => obtain ⟨v, σ', H', J', r, q⟩ := e1; exact ⟨v, σ', H', J'.ofTry ok, r, q⟩
end
/-! ### the mirror -/
def excD (x : Exn) : D := .exc x.c (x.fs.map (·.1)) (x.fs.map (·.2))
def tri (tab : List (Str × Bool)) (i : Nat) (body suite : MS) : MS := fun env mh => match body env mh with
  | .ex x env1 mh1 => (match tab.lookup x.c with
    | some true => (match suite (env1.set i (some (excD x))) mh1 with
      | .nx e h => .nx (e.set i none) h
      | .bk e h => .bk (e.set i none) h
      | .ct e h => .ct (e.set i none) h
      | .rt d h => .rt d h
      | _ => .no)
    | some false => .ex x env1 mh1
    | none => .no)
  | r => r
/-- the clause's class against the classes that may come -/
def TabOk (K : PySem.W.Frag) (c : Value) (tab : List (Str × Bool)) : Prop := ∀ z b, tab.lookup z = some b → ∀ C : Addr, PySem.W.nsIn K mainGlobals z = some (some (.ref C)) → PySem.W.exmOne K (.ref C) c = some b
theorem TabOk.nil {K : PySem.W.Frag} {c : Value} : TabOk K c [] := fun _ _ h => by simp at h
theorem TabOk.cons {K : PySem.W.Frag} {c : Value} {z : Str} {b : Bool} {C : Addr} {tab : List (Str × Bool)} (hn : PySem.W.nsIn K mainGlobals z = some (some (.ref C))) (he : PySem.W.exmOne K (.ref C) c = some b) (t : TabOk K c tab) : TabOk K c ((z, b) :: tab) := fun y b' h D hD => by
  rw [List.lookup_cons] at h
  by_cases e : y = z
  · subst e
    simp only [beq_self_eq_true] at h
    cases h
    rw [hn] at hD
    cases hD
    exact he
  · rw [show (y == z) = false from beq_eq_false_iff_ne.mpr e] at h
    exact t y b' h D hD
section
variable {X : Cx} {W : WX} {x n : Str} {c : Value} {i : Nat} {body suite : List Stmt} {b₀ : Stmt} {np pos pos' : Pos} {fb fs : MS} {tab : List (Str × Bool)}
theorem ss_tri (hs : X.stack = X.env :: X.outer) (hf : X.env.frame = some X.env.locals) (hex : X.ex = []) (hN : X.N.Nodup) (hi : X.N[i]? = some n) (hln : X.env.kindOf n = some .local) (hc : Names X x c) (tk : Takes X W) (ht : TabOk X.K c tab)
    (hb : ∀ (W : WX) (pn : List (Addr × Obj)) (xe : Value → Shared → Prop), Takes (X.tr pn xe) W → PassesOwn (model X.prog X.w) X.A X.env xe → SSs (X.tr pn xe) W body fb)
    (hsu : ∀ (a : Addr) (pn : List (Addr × Obj)), SSs (X.suite a pn) W0 (b₀ :: suite) fs) :
    SS X W (.Try body [.ExceptHandler (some (.Name x np)) (some n) (b₀ :: suite) pos'] [] [] pos) (tri tab i fb fs) := (ps_tryX (tb := fun W => iS X.K X.mg W fb) (ts := iS X.K X.mg W0 fs) hs hf hex hN hi hln hc tk hb hsu).imp (by
  rintro D σ H ⟨φ, env, mh, re, hh, p⟩
  refine ⟨φ, env, mh, re, hh, ?_⟩
  unfold tri at p
  cases h : fb env mh with
  | nx e h1 => rw [h] at p; exact p
  | bk e h1 => rw [h] at p; exact p
  | ct e h1 => rw [h] at p; exact p
  | rt e h1 => rw [h] at p; exact p
  | no => rw [h] at p; exact p
  | ex z env1 mh1 =>
    rw [h] at p
    simp only at p
    intro φ1 cls d σ1 H1 p1 k1 h1 re1 rx
    obtain ⟨C, dx, fv, vs, q1, q2, q3, q4, q5, q6⟩ := rx
    cases hl : tab.lookup z.c with
    | none => rw [hl] at p; exact p.elim
    | some b =>
      rw [hl] at p
      subst q2 q3
      refine ⟨b, ht z.c b hl C q1, fun hb2 => ?_, fun hb2 => ?_⟩
      · subst hb2
        simp only at p
        intro a oe na hz hfl
        have kp : Kp H1 (upd H1 a (.frz oe (anyO a))) := Kp.new na
        have rd : RelD X.K φ1 (upd H1 a (.frz oe (anyO a))) (excD z) (.ref a) := .exc upd_same ⟨q1, hz.1, hz.2, hfl⟩ (kp dx _ q4 trivial) q5 (q6.mono (Px.refl φ1) kp)
        refine ⟨φ1, _, mh1, (re1.mono (Px.refl φ1) kp).set rd i, h1.grow na, ?_⟩
        cases hsx : fs (env1.set i (some (excD z))) mh1 with
        | nx e2 h2 => rw [hsx] at p; exact fun φ2 σ2 H2 p2 k2 hr2 re2 => p φ2 _ H2 (p1.trans p2) (k1.trans (kp.trans k2)) hr2 (re2.none i)
        | bk e2 h2 => rw [hsx] at p; exact fun φ2 σ2 H2 p2 k2 hr2 re2 => p φ2 _ H2 (p1.trans p2) (k1.trans (kp.trans k2)) hr2 (re2.none i)
        | ct e2 h2 => rw [hsx] at p; exact fun φ2 σ2 H2 p2 k2 hr2 re2 => p φ2 _ H2 (p1.trans p2) (k1.trans (kp.trans k2)) hr2 (re2.none i)
        | rt e2 h2 => rw [hsx] at p; exact fun φ2 v H2 p2 k2 hr2 re2 => p φ2 v H2 (p1.trans p2) (k1.trans (kp.trans k2)) hr2 re2
        | ex x2 e2 h2 => rw [hsx] at p; exact p.elim
        | no => rw [hsx] at p; exact p.elim
      · subst hb2
        exact p φ1 _ _ σ1 H1 p1 k1 h1 re1 ⟨C, dx, fv, vs, q1, rfl, rfl, q4, q5, q6⟩)
end
end Det
/-! Det, part De: isinstance of a caught exception, its fields. -/
namespace Det
open PySem PySem.Spec PyProof.Rows L2
/-- what an own exception class must say -/
structure ExF (K : PySem.W.Frag) (C : Addr) : Prop where
  cl : (PySem.W.clsIn K C).isSome = true
  ga : PySem.W.findIn K (.ref C) "__getattribute__" = some (some (.builtin "BaseException.__getattribute__"))
  gg : PySem.W.findIn K (.ref C) "__getattr__" = some none
  ex : PySem.W.subIn K (.ref C) (.type "BaseException") = some true
  ca : PySem.W.findIn K (.ref C) "__class__" = some (some (.builtin "object.__class__"))
  cg : PySem.W.specialIn K (.builtin "object.__class__") "__get__" = some (some (.builtin "getset_descriptor.__get__"))
  ct : PySem.W.takesIn K (.builtin "object.__class__") = some true
  mo : PySem.W.mroIn K C (.type "object") = some true
  hd : PySem.W.hasDictIn K C = true
def exfB (K : PySem.W.Frag) (C : Addr) : Bool := (PySem.W.clsIn K C).isSome && (decide (PySem.W.findIn K (.ref C) "__getattribute__" = some (some (.builtin "BaseException.__getattribute__"))) && (decide (PySem.W.findIn K (.ref C) "__getattr__" = some none) &&
  (decide (PySem.W.subIn K (.ref C) (.type "BaseException") = some true) && (decide (PySem.W.findIn K (.ref C) "__class__" = some (some (.builtin "object.__class__"))) && (decide (PySem.W.specialIn K (.builtin "object.__class__") "__get__" = some (some (.builtin "getset_descriptor.__get__"))) &&
  (decide (PySem.W.takesIn K (.builtin "object.__class__") = some true) && (decide (PySem.W.mroIn K C (.type "object") = some true) && PySem.W.hasDictIn K C)))))))
theorem exf_of {K : PySem.W.Frag} {C : Addr} (h : exfB K C = true) : ExF K C := by
  unfold exfB at h
  simp only [Bool.and_eq_true, decide_eq_true_eq] at h
  obtain ⟨a, b, c, d, e, f, g, i, j⟩ := h
  exact ⟨a, b, c, d, e, f, g, i, j⟩
def IsTab (K : PySem.W.Frag) (cv : Value) (tab : List (Str × Bool)) : Prop := ∀ z b, tab.lookup z = some b → ∀ C : Addr, PySem.W.nsIn K mainGlobals z = some (some (.ref C)) → ExF K C ∧ PySem.W.kitOne K (.ref C) cv = some b
theorem IsTab.nil {K : PySem.W.Frag} {c : Value} : IsTab K c [] := fun _ _ h => by simp at h
theorem IsTab.cons {K : PySem.W.Frag} {c : Value} {z : Str} {b : Bool} {C : Addr} {tab : List (Str × Bool)} (hn : PySem.W.nsIn K mainGlobals z = some (some (.ref C))) (hF : ExF K C) (he : PySem.W.kitOne K (.ref C) c = some b) (t : IsTab K c tab) : IsTab K c ((z, b) :: tab) := fun y b' h D hD => by
  rw [List.lookup_cons] at h
  by_cases e : y = z
  · subst e
    simp only [beq_self_eq_true] at h
    cases h
    rw [hn] at hD
    cases hD
    exact ⟨hF, he⟩
  · rw [show (y == z) = false from beq_eq_false_iff_ne.mpr e] at h
    exact t y b' h D hD
def isE (tab : List (Str × Bool)) (f : ME) : ME := fun env mh => (f env mh).bind fun d mh1 => match d with
  | .exc c _ _ => (match tab.lookup c with
    | some b => .ok (.bl b) mh1
    | none => .no)
  | _ => .no
def rIsX (K : PySem.W.Frag) (v : V) (cv : Value) : List V → Hp → VK → Prop := fun xs H Q => ∃ (a C dx : Addr) (c : Str) (oe : Obj) (fv : List (Str × V)) (b : Bool), xs = [.ref a, v] ∧ H a = some (.frz oe (anyO a)) ∧ ExcAt K c C dx oe ∧ H dx = some (.xd fv) ∧ ExF K C ∧ PySem.W.kitOne K (.ref C) cv = some b ∧ Q (.bl b) H
section
variable {X : Cx} {W : WX} {e : Expr} {f : ME} {p p2 pos : Pos}
theorem inst_exc {pins : List (Addr × Obj)} {σ : L2.St} {H : Hp} {s : Shared} {a C dx : Addr} {c : Str} {oe : Obj} {fv : List (Str × V)} (I : Inv X pins σ H s) (ha : H a = some (.frz oe (anyO a))) (he : ExcAt X.K c C dx oe) (hd : H dx = some (.xd fv)) :
    ∃ od, PySem.W.InstAt s.heap a oe C (some od) ∧ ∃ mA : Str → Option Value, (∀ f, L2.RelO (fv.lookup f) (mA f)) ∧ ∀ name, PySem.W.lookIn name od = some (mA name) := by
  have x1 : ObjOk X.prog X.w H s.heap a (.frz oe (anyO a)) := I.hok a _ ha
  have x2 : ObjOk X.prog X.w H s.heap dx (.xd fv) := I.hok dx _ hd
  obtain ⟨mA, hns, hr⟩ := x2
  obtain ⟨od, ho, hl⟩ := lookIn_ns hns
  obtain ⟨_, h1, h2, vs, h3⟩ := he
  exact ⟨od, ⟨x1.1, h1, by unfold PySem.W.notCls; rw [h3] <;> rfl, by rw [h2]; exact ho⟩, mA, hr, hl⟩
theorem call_isX {v : V} {cv : Value} (hcv : ∀ u, RelV v u → u = cv) : CallR X (.builtin "isinstance") (rIsX X.K v cv) := by
  rintro pins s σ H xs us Q I r ⟨a, C, dx, c, oe, fv, b, rfl, ha, he, hd, hF, hk, q⟩
  cases r with
  | cons rx rr =>
    cases rr with
    | cons rt rr =>
      cases rr
      cases rx
      have ec := hcv _ rt
      subst ec
      obtain ⟨od, J, _⟩ := inst_exc I ha he hd
      exact PySem.W.kia_one (PySem.W.kitx_exc hF.cl hF.ga hF.gg hF.ex hF.ca hF.cg hF.ct hF.mo) I.kIn J hk (fun z => nomatch z) fun tk => ⟨.bl b, H, I.kept (t' := tk) fun _ _ z => z, rfl, q⟩
theorem se_isE {x : Str} {v : V} {cv : Value} {tab : List (Str × Bool)} (hcv : ∀ u, RelV v u → u = cv) (ht : IsTab X.K cv tab) (hx : PE X (.Name x p2) (tC v)) (hm : X.mg "isinstance" = none) (hf : SE X W e f) (hg : Gl X "isinstance" := by rfl)
    (he : starEach [e, .Name x p2] X.env = (false, eval e X.env) :: starEach [.Name x p2] X.env := by rfl) (he2 : starEach [.Name x p2] X.env = (false, eval (.Name x p2) X.env) :: starEach [] X.env := by rfl) (hpl : (backTo pos (starEach [.Name x p2] X.env)).any (·.1) = false := by rfl) :
    SE X W (.Call (.Name "isinstance" p) [e, .Name x p2] [] pos) (isE tab f) := (pe_callB (call_isX hcv) hg hm (by decide +kernel) (pa_cons hf (pa_cons hx pa_nil he2) he) (by decide) (by decide) he hpl).imp (by
  rintro σ H Q ⟨φ, env, mh, re, hh, p⟩
  refine ⟨φ, env, mh, re, hh, post_mono (Px.refl φ) (Kp.refl H) (post_bind (R1 := RelD X.K) p) ?_⟩
  rintro x H1 ⟨φ1, d, mh1, p1, k1, h1, r1, q⟩
  cases r1 with
  | exc ha hat hd hl rs =>
    rename_i a C dx c ns ds vs oe fv
    simp only at q
    cases hc : tab.lookup c with
    | none => rw [hc] at q; exact q.elim
    | some b =>
      rw [hc] at q
      obtain ⟨hF, hk⟩ := ht c b hc C hat.1
      exact ⟨a, C, dx, c, oe, fv, b, rfl, ha, hat, hd, hF, hk, q φ1 _ H1 (Px.refl φ1) (Kp.refl H1) h1 (.bl b)⟩
  | _ => exact q.elim)
/-! ### fields -/
def fld (tab : List Str) (n : Str) (f : ME) : ME := fun env mh => (f env mh).bind fun d mh1 => match d with
  | .exc c ns ds => if c ∈ tab then (match (ns.zip ds).lookup n with
    | some y => .ok y mh1
    | none => .no) else .no
  | _ => .no
def FldTab (K : PySem.W.Frag) (n : Str) (tab : List Str) : Prop := ∀ z ∈ tab, ∀ C : Addr, PySem.W.nsIn K mainGlobals z = some (some (.ref C)) → ExF K C ∧ PySem.W.findIn K (.ref C) n = some none
theorem FldTab.nil {K : PySem.W.Frag} {n : Str} : FldTab K n [] := fun _ h => nomatch h
theorem FldTab.cons {K : PySem.W.Frag} {n z : Str} {C : Addr} {tab : List Str} (hn : PySem.W.nsIn K mainGlobals z = some (some (.ref C))) (hF : ExF K C) (he : PySem.W.findIn K (.ref C) n = some none) (t : FldTab K n tab) : FldTab K n (z :: tab) := fun y h D hD => by
  rcases List.mem_cons.mp h with rfl | h
  · rw [hn] at hD; cases hD; exact ⟨hF, he⟩
  · exact t y h D hD
theorem rel_lookup {φ : List Addr} {H : Hp} {n : Str} : ∀ {ns : List Str} {ds : List D} {vs : List V} {y : D}, RelDs X.K φ H ds vs → (ns.zip ds).lookup n = some y → ∃ v, (ns.zip vs).lookup n = some v ∧ RelD X.K φ H y v
  | [], _, _, _, _, h => by simp at h
  | _ :: _, _, _, _, .nil, h => by simp at h
  | m :: ns, _, _, y, .cons (d := d) (v := v) (ds := ds) (vs := vs) r rs, h => by
    rw [List.zip_cons_cons, List.lookup_cons] at h
    rw [List.zip_cons_cons, List.lookup_cons]
    by_cases e : (n == m) = true
    · rw [e] at h ⊢; cases h; exact ⟨_, rfl, r⟩
    · rw [Bool.not_eq_true] at e
      rw [e] at h ⊢; exact rel_lookup rs h
def tFld (K : PySem.W.Frag) (n : Str) (te : TE) : TE := fun σ H Q => te σ H fun x H1 => ∃ (a C dx : Addr) (c : Str) (oe : Obj) (fv : List (Str × V)) (v : V), x = .ref a ∧ H1 a = some (.frz oe (anyO a)) ∧ ExcAt K c C dx oe ∧ H1 dx = some (.xd fv) ∧ ExF K C ∧ PySem.W.findIn K (.ref C) n = some none ∧ fv.lookup n = some v ∧ Q v H1
theorem pe_fld {te : TE} {n : Str} (he : PE X e te) (hb : attributeBase e n X.env (eval e X.env) = eval e X.env := by rfl) : PE X (.Attribute e n pos) (tFld X.K n te) := by
  refine ⟨fun pins s σ H Q I h => ?_⟩
  refine attr_of hb (thn (he.run pins s σ H _ I h) fun u s1 hh => ?_)
  obtain ⟨x, H1, I1, rx, a, C, dx, c, oe, fv, v, ex, ha, hat, hd, hF, hno, l, q⟩ := hh
  subst ex
  obtain rfl : u = Value.ref a := rx
  obtain ⟨od, J, mA, hr, hl⟩ := inst_exc I1 ha hat hd
  obtain ⟨u, hu, ru⟩ := L2.RelO.some_of (v := v) (o := mA n) (by rw [← l]; exact hr n)
  exact HandSPX.exc_get I1.kIn J hF.ga hF.gg hF.ex (PySem.W.findObj_own hF.hd hno rfl (by rw [hl, hu])) (handed_of ru) ⟨v, H1, I1.tok _, ru, q⟩
theorem se_fld {n : Str} {tab : List Str} (ht : FldTab X.K n tab) (he : SE X W e f) (hb : attributeBase e n X.env (eval e X.env) = eval e X.env := by rfl) : SE X W (.Attribute e n pos) (fld tab n f) := (pe_fld he hb).imp (by
  rintro σ H Q ⟨φ, env, mh, re, hh, p⟩
  refine ⟨φ, env, mh, re, hh, post_mono (Px.refl φ) (Kp.refl H) (post_bind (R1 := RelD X.K) p) ?_⟩
  rintro x H1 ⟨φ1, d, mh1, p1, k1, h1, r1, q⟩
  cases r1 with
  | exc ha hat hd hl rs =>
    rename_i a C dx c ns ds vs oe fv
    simp only at q
    split at q
    · rename_i hc
      split at q
      · rename_i y hy
        obtain ⟨hF, hno⟩ := ht c hc C hat.1
        obtain ⟨v, e1, r2⟩ := rel_lookup rs hy
        exact ⟨a, C, dx, c, oe, fv, v, rfl, ha, hat, hd, hF, hno, hl n v e1, q φ1 v H1 (Px.refl φ1) (Kp.refl H1) h1 r2⟩
      · exact q.elim
    · exact q.elim
  | _ => exact q.elim)
end
end Det
/-! Det, part Df: defs called within an except suite (nothing is raised there). -/
namespace Det
open PySem PySem.Spec PyProof.Rows L2
abbrev RoomQ := L2H.RoomH
/-- what a def promises wherever it is called -/
structure FnQ (P : Program) (w : World) (K : PySem.W.Frag) (mg : MGl) (base : Heap) (k : Nat) (f : Addr) (fd : FuncData) (ps : List Str) (sp : Sp) : Prop where
  len : ∀ vs H Q E, sp vs H Q E → vs.length = ps.length
  run : ∀ (A : Around) (outer : List Env) (s : Shared) (H : Hp) (args : Args) (us : List Value) (vs : List V) (Q : VK) (E : XK), RoomQ k A → Env0 P w K mg base A outer s H → BindsTo s fd args (ps.zip us) → Vals vs us → sp vs H Q E →
    codeAny (model P w) A (.call (.ref f) args) (CR (L2.CX P w) outer P w H s Q E) s
abbrev cxQ (P : Program) (w : World) (K : PySem.W.Frag) (mg : MGl) (base : Heap) (N : List Str) (qual : Str) (scope : Scope) (f : Addr) (cd : Value) (A : Around) (outer : List Env) (s : Shared) (H : Hp) (E : XK) : Cx :=
  { cxOf (L2.CX P w) P w K mg base N qual scope f cd A outer s H E with calm := false }
section
variable {P : Program} {w : World} {K : PySem.W.Frag} {mg : MGl} {base : Heap} {k : Nat} {f : Addr} {fd : FuncData} {ps : List Str} {sp sp' : Sp} {F : Fn}
theorem FnQ.mono {j : Nat} (F : FnQ P w K mg base j f fd ps sp) (h : j ≤ k) : FnQ P w K mg base k f fd ps sp := ⟨F.len, fun A outer s H args us vs Q E hr => F.run A outer s H args us vs Q E (hr.mono h)⟩
theorem FnQ.frz (F : FnQ P w K mg base k f fd ps sp) (h : ∀ vs H Q E, sp' vs H Q E → sp vs H (Fz Q) E) : FnQ P w K mg base k f fd ps sp' :=
  ⟨fun vs H Q E q => F.len vs H _ E (h _ _ _ _ q), fun A outer s H args us vs Q E hr he hb hv hs => codeAny_mono (F.run A outer s H args us vs _ E hr he hb hv (h _ _ _ _ hs)) fun r s' q => by
    cases r with
    | error e => exact q
    | ok fl =>
      cases fl with
      | ret u => exact CE.frz q
      | next => exact q
      | brk => exact q
      | cont => exact q⟩
abbrev DOkQ (P : Program) (w : World) (K : PySem.W.Frag) (mg : MGl) (base : Heap) (k : Nat) (f : Addr) (fd : FuncData) (ps : List Str) (F : Fn) : Prop := FnQ P w K mg base k f fd ps (spF K mg ps.length F)
theorem okZQ (G : DOkQ P w K mg base k f fd ps F) : DOkQ P w K mg base k f fd ps (zF F) := FnQ.frz G (by
  rintro vs H Q E ⟨φ, mh, ds, r, hh, hl, q⟩
  exact ⟨φ, mh, ds, r, hh, hl, post_fz hh q⟩)
theorem env0_calm {A : Around} {outer : List Env} {s : Shared} {H : Hp} (e : Env0 P w K mg base A outer s H) : Env0 P w K mg base { A with handled := none } outer s H := ⟨e.frames, e.mod, e.bs, e.bsz, e.funs, e.frf, e.hok, e.bare⟩
theorem inv_startQ {N : List Str} {qual : Str} {scope : Scope} {cd : Value} {A : Around} {outer : List Env} {s s1 : Shared} {H : Hp} {E : XK} {us : List Value} {vs : List V}
    (S : FnScope N ps scope) (e0 : Env0 P w K mg base A outer s H) (hl : vs.length = ps.length) (r : Vals vs us)
    (x : InCallC s s.heap.objs.size (bindL (envOfC qual scope s.heap.objs.size f cd).kindOf (ps.zip us) fun _ => none) (cellsFrom (s.heap.objs.size + 1) scope.names []) (bindC (envOfC qual scope s.heap.objs.size f cd).kindOf (ps.zip us) fun _ => none) s1) :
    Inv (cxQ P w K mg base N qual scope f cd A outer s H E) [] (L2.start N vs) H s1 := by
  have J := inv_start (CX := L2.CX P w) (f := f) (cd := cd) (E := E) S (A := { A with handled := none }) rfl (env0_calm e0) hl r x
  have o := J.ok
  exact ⟨⟨o.mod, o.kind, o.glob, o.blt, o.above, o.inj, o.has, o.cab, (fun z => Bool.noConfusion (show false = true from z)), Around.frames_deeper e0.frames, o.stk, o.exf, o.bs, o.bsz, o.noex, o.exfs, o.funs, o.frf⟩,
    J.os, J.bare, J.base, J.loc, J.cell, J.free, J.freeC, J.pin, J.hok, J.len⟩
theorem fn_ofQ {name qual : Str} {params : Arguments} {body : List Stmt} {scope : Scope} {dV kV doc pm cdv ct oc : Value} {an od : Option Addr}
    {osl : Array (Option Value)} {N : List Str} (lk : K.lookup f = some ⟨oc, od, .func (PySem.W.fnOf name qual params body scope dV kV doc pm an cdv ct), osl⟩) (hcd : PySem.W.codeIn K cdv qual = true) (S : FnScope N ps scope)
    (len : ∀ vs H Q E, sp vs H Q E → vs.length = ps.length)
    (hbody : ∀ (A : Around) (outer : List Env) (s : Shared) (H : Hp) (vs : List V) (Q : VK) (E : XK), RoomQ k (A.deeper (envOfC qual scope s.heap.objs.size f cdv)) → sp vs H Q E →
      ∃ t, PSs (cxQ P w K mg base N qual scope f cdv A outer s H E) body t ∧ t { nx := fun _ H' => Q .non H', rt := Q } (L2.start N vs) H) :
    FnQ P w K mg base (k + 1) f (PySem.W.fnOf name qual params body scope dV kV doc pm an cdv ct) ps sp := by
  refine ⟨len, fun A outer s H args us vs Q E hr e0 hb r hsp => ?_⟩
  have hl := len _ _ _ _ hsp
  have kin : K.In s.heap := e0.mod.kin.keeps fun b o e => (e0.bs b o e).1
  have lim : s.heap.NoLimit := e0.mod.nolimit.keeps fun b o e => (e0.bs b o e).1
  have kinds : ∀ y ∈ ps.zip us, scope.names.lookup y.1 = some .local ∨ (scope.names.lookup y.1 = some .cell ∧ ((cellsFrom (s.heap.objs.size + 1) scope.names []).lookup y.1).isSome = true) := fun ⟨n, v⟩ hy => by
    rcases S.par n (List.of_mem_zip hy).1 with q | q
    · exact .inl q
    · exact .inr ⟨q, PySem.W.cellsFrom_some _ _ _ (.inl q)⟩
  refine codeAny_call_function hr.depth (kin _ _ lk) rfl S.co S.gen rfl (PySem.W.codeRec_of kin hcd) (hb _ _ _ _ ?_)
  refine wpAny_newFunctionEnv_cells S.kind kinds fun env he s1 x => ?_
  subst he
  refine ⟨lim.keeps x.toInCall.keep, codeAny_func ?_⟩
  obtain ⟨t, ht, hq⟩ := hbody A outer s H vs Q E (hr.deeper _) hsp
  have I : Inv (cxQ P w K mg base N qual scope f cdv A outer s H E) [] (L2.start N vs) H s1 := inv_startQ S e0 hl r x
  refine wpAny_mono (ht.run [] s1 (L2.start N vs) H _ I hq) (fun fl s' hs => ?_) fun e s' hs => hs
  cases fl with
  | ret u => obtain ⟨v, σ', H', J, rv, q⟩ := hs; exact ⟨v, H', J.os, J.bare, J.base, J.hok, rv, q⟩
  | next => obtain ⟨σ', H', J, q⟩ := hs; exact ⟨.non, H', J.os, J.bare, J.base, J.hok, rfl, q⟩
  | brk => obtain ⟨_, _, _, q⟩ := hs; exact False.elim q
  | cont => obtain ⟨_, _, _, q⟩ := hs; exact False.elim q
theorem okFQ {x qual : Str} {stt : Stmt} {N : List Str} {bd : MS} (F : Fun K x qual stt f fd) (S : FnScope N ps (defScope stt)) (hle : ps.length ≤ N.length)
    (hb : ∀ (cdv : Value) (A : Around) (outer : List Env) (s : Shared) (H : Hp) (E : XK), RoomQ k (A.deeper (envOfC qual (defScope stt) s.heap.objs.size f cdv)) →
      SSs (cxQ P w K mg base N qual (defScope stt) f cdv A outer s H E) (fun c d _ H' => E c d H') (defBody stt) bd) : DOkQ P w K mg base (k + 1) f fd ps (runF N.length bd) := by
  obtain ⟨oc, od, kV, doc, pm, an, cdv, ct, osl, rfl, lk, hcd⟩ := F.ex
  refine fn_ofQ lk hcd S (fun vs H Q E h => ?_) (fun A outer s H vs Q E hr h => ⟨_, hb cdv A outer s H E hr, ?_⟩)
  · obtain ⟨φ, mh, ds, r, _, hl, _⟩ := h
    rw [← r.length]; exact hl
  · obtain ⟨φ, mh, ds, r, hh, hl, q⟩ := h
    have hlv : vs.length = ps.length := by rw [← r.length]; exact hl
    refine ⟨φ, ds.map some ++ List.replicate (N.length - ds.length) none, mh, ⟨?_, fun i d e => ?_⟩, hh, ?_⟩
    · unfold L2.start; simp [r.length]
    · have hi : i < ds.length := by
        by_cases h : i < ds.length
        · exact h
        · rw [List.getElem?_append_right (by simpa using h)] at e
          rw [List.getElem?_replicate] at e
          split at e <;> cases e
      rw [List.getElem?_append_left (by simpa using hi), List.getElem?_map] at e
      cases hd : ds[i]? with
      | none => rw [hd] at e; cases e
      | some d' =>
        rw [hd] at e
        cases e
        obtain ⟨v, h1, h2⟩ := r.get hd
        refine ⟨v, ?_, h2⟩
        have hiv : i < vs.length := by rw [← r.length]; exact hi
        show (vs.map some ++ List.replicate (N.length - vs.length) none)[i]? = some (some v)
        rw [List.getElem?_append_left (by simpa using hiv), List.getElem?_map, h1]
        rfl
    · unfold runF at q
      cases hbd : bd (ds.map some ++ List.replicate (N.length - ds.length) none) mh with
      | nx e h => rw [hbd] at q; exact fun φ2 s2 H2 p2 k2 hr _ => q φ2 .non H2 p2 k2 hr .non
      | rt e h => rw [hbd] at q; exact q
      | ex x e h => rw [hbd] at q; exact fun φ2 c d s2 H2 p2 k2 hr _ hx => q φ2 c d H2 p2 k2 hr hx
      | bk e h => rw [hbd] at q; exact q.elim
      | ct e h => rw [hbd] at q; exact q.elim
      | no => rw [hbd] at q; exact q.elim
end
section
variable {X : Cx} {W : WX} {e : Expr} {es : List Expr} {fa : MA} {p pos : Pos}
theorem run_fnQ {pins : List (Addr × Obj)} {σ : L2.St} {H : Hp} {s : Shared} {Q : VK} {us : List Value} {vs : List V} {k : Nat} {f : Addr} {fd : FuncData} {ps : List Str} {sp : Sp} {E : XK} (F : FnQ X.prog X.w X.K X.mg X.base k f fd ps sp) (hr : RoomQ k X.A) (hb : Binds X.K fd ps []) (hx : PassesAt (L2.CX X.prog X.w) X σ E)
    (I : Inv X pins σ H s) (r : Vals vs us) (h : sp vs H Q E) : wpAny (model X.prog X.w) X.A (call (.ref f) us) (EP X pins σ Q) X.xe s := by
  have hl : us.length = ps.length := by rw [← r.length]; exact F.len _ _ _ _ h
  have b := hb s us I.kIn (by rw [List.append_nil]; exact hl)
  rw [List.append_nil] at b
  refine wpAny_call (codeAny_mono (F.run X.A X.stack s H ⟨us, []⟩ us vs Q E hr I.env0 b r h) fun r s' hq => ?_)
  cases r with
  | error er => exact hx pins H s er s' I hq
  | ok fl =>
    cases fl with
    | ret u => exact I.after hq
    | next => exact False.elim hq
    | brk => exact False.elim hq
    | cont => exact False.elim hq
/-- f(e, ..) in an except suite, or in a def called there -/
theorem se_callQ {F : Fn} {k : Nat} {g : Addr} {fd : FuncData} {ps : List Str} {x : Str} (tk : Takes X W) (G : DOkQ X.prog X.w X.K X.mg X.base k g fd ps F) (hr : RoomQ k X.A) (hm : X.mg x = some (.ref g)) (hk : PySem.W.keepIn X.K (.ref g) = true) (hb : Binds X.K fd ps [])
    (ha : SA X W (e :: es) fa) (hg : Gl X x := by rfl) (hdb : (x == ("__debug__" : Str)) = false := by decide) (he : starEach (e :: es) X.env = (false, eval e X.env) :: starEach es X.env := by rfl) (hpl : (backTo pos (starEach es X.env)).any (·.1) = false := by rfl) :
    SE X W (.Call (.Name x p) (e :: es) [] pos) (cal ps.length F fa) := by
  have h : PE X (.Call (.Name x p) (e :: es) [] pos) (tCallS (spF X.K X.mg ps.length F) (WE W) (iA X.K X.mg W fa)) := by
    refine ⟨fun pins s σ H Q I h => ?_⟩
    refine wpAny_Call_Name_kw (ld_glob I hg hm ?_ hdb)
    refine PySem.W.callWith_K (h₀ := X.base) I.ok.mod.kin hk (thn (ha.run pos pins s σ H _ I h) fun us s1 ⟨vs, H1, I1, r, q⟩ => ⟨I1.kIn, ?_⟩) he hpl
    exact run_fnQ G hr hb (passAt tk σ) I1 r q
  exact h.imp imp_cal
theorem takesS {a : Addr} {pn : List (Addr × Obj)} : Takes (X.suite a pn) W0 := fun u s' ⟨_, _, _, _, _, _, _, _, _, _, _, _, _, _, _, _, no⟩ => no.elim
end
end Det
/-! Det, part Dg: what the top has made of the exception classes; str.upper; more. -/
namespace Det
open PySem PySem.Spec PyProof.Rows L2
/-- an own exception class -/
structure ClsD (K : PySem.W.Frag) (mg : MGl) (c : Str) where
  a : Addr
  mgc : mg c = some (.ref a)
  ns : PySem.W.nsIn K mainGlobals c = some (some (.ref a))
  F : ExF K a
  ty : PySem.W.typeIn K (.ref a) = some (.type "type")
  me : PySem.W.subIn K (.ref a) (.ref a) = some true
/-- .. that is raised -/
structure RaiseD (K : PySem.W.Frag) (a : Addr) (fns : List Str) (qual : Str) (st : Stmt) where
  T : OexC K a
  fI : Addr
  iC : PySem.W.findIn K (.ref a) "__init__" = some (some (.ref fI))
  tI : PySem.W.typeIn K (.ref fI) = some (.type "function")
  fd : FuncData
  fn : Fun K "__init__" qual st fI fd
  bi : Binds K fd ("self" :: fns) []
  nf : ∀ f ∈ fns, PySem.W.findIn K (.ref a) f = some none
section
variable {K : PySem.W.Frag} {mg : MGl} {c d : Str} {b : Bool} {a : Addr}
theorem exm_own (D : ClsD K mg d) {cls : Value} (h : PySem.W.subIn K cls (.ref D.a) = some b) : PySem.W.exmOne K cls (.ref D.a) = some b := by
  have e1 : (PySem.W.subIn K (.ref D.a) (.type "BaseException") == some true) = true := by rw [D.F.ex] <;> rfl
  have e2 : ((PySem.W.clsIn K D.a).isSome && PySem.W.typeIn K (.ref D.a) == some (.type "type")) = true := by rw [D.F.cl, D.ty] <;> rfl
  show (if (PySem.W.subIn K (.ref D.a) (.type "BaseException") == some true) = true then (if ((PySem.W.clsIn K D.a).isSome && PySem.W.typeIn K (.ref D.a) == some (.type "type")) = true then PySem.W.subIn K cls (.ref D.a) else none) else none) = some b
  rw [if_pos e1, if_pos e2]
  exact h
theorem kit_own (D : ClsD K mg d) (h : PySem.W.subIn K (.ref a) (.ref D.a) = some b) : PySem.W.kitOne K (.ref a) (.ref D.a) = some b := by
  unfold PySem.W.kitOne
  by_cases e : a = D.a
  · subst e
    rw [D.me] at h
    cases h
    rw [if_pos (beq_self_eq_true _)]
  · rw [if_neg (fun z => e (Value.ref.inj (eq_of_beq z)))]
    have e2 : ((PySem.W.clsIn K D.a).isSome && PySem.W.typeIn K (.ref D.a) == some (.type "type")) = true := by rw [D.F.cl, D.ty] <;> rfl
    show (if ((PySem.W.clsIn K D.a).isSome && PySem.W.typeIn K (.ref D.a) == some (.type "type")) = true then PySem.W.subIn K (.ref a) (.ref D.a) else none) = some b
    rw [if_pos e2]
    exact h
theorem kit_bt {t : String} (hk : PySem.W.kitMeta t = true) (h : PySem.W.subIn K (.ref a) (.type t) = some b) : PySem.W.kitOne K (.ref a) (.type t) = some b := by
  unfold PySem.W.kitOne
  rw [if_neg (by simp)]
  show (if PySem.W.kitMeta t = true then PySem.W.subIn K (.ref a) (.type t) else none) = some b
  rw [if_pos hk]
  exact h
end
/-! ### a frozen comprehension, assigned -/
def FzS (D : Ends) : Ends := { D with nx := fun σ H => D.nx σ H ∨ ∃ a vs, H a = some (.lst vs) ∧ ∀ od, D.nx σ (upd H a (.frz od (.lst vs))) }
section
variable {X : Cx} {W : WX} {pos : Pos}
theorem ps_frz {st : Stmt} {t : TS} (h : PS X st t) : PS X st fun D σ H => t (FzS D) σ H := ⟨fun pins s σ H D I q => by
  refine thn (h.run pins s σ H _ I q) fun f s1 z => ?_
  cases f with
  | next =>
    obtain ⟨σ', H', I', q'⟩ := z
    rcases q' with q' | ⟨a, vs, e, q'⟩
    · exact ⟨σ', H', I', q'⟩
    · obtain ⟨od, I2⟩ := I'.lock e trivial
      exact ⟨σ', _, I2, q' od⟩
  | brk => exact z
  | cont => exact z
  | ret u => exact z⟩
theorem ss_setLcF {ft : MT} {i : Nat} {y : Str} {py : Pos} {elt tg iter : Expr} {ifs : List Expr} {scope : Scope} {own : List (Str × Nat)} {spos : Pos} {fi : MI} {p : Pat} {fe : ME} (hc : X.calm = true) (hN : X.N.Nodup) (hi : SI X W tg iter fi) (ok : BlkOk X.N X.env.scope scope own)
    (hv : ∀ j ∈ p.ix, j ∈ own.map (·.2)) (hg : ∀ (s : Shared) (H : Hp) (C : Addr) (cl : List (Str × Addr)) (fp : List Addr), SG (X.blk s H scope (compEnvC scope cl C X.env) fp) tg p)
    (ht : ∀ (s : Shared) (H : Hp) (C : Addr) (cl : List (Str × Addr)) (fp : List Addr), STs (X.blk s H scope (compEnvC scope cl C X.env) fp) W0 ifs ft)
    (he : ∀ (s : Shared) (H : Hp) (C : Addr) (cl : List (Str × Addr)) (fp : List Addr), SE (X.blk s H scope (compEnvC scope cl C X.env) fp) W0 elt fe)
    (hy : X.N[i]? = some y := by rfl) (hyl : X.env.scope.names.lookup y = some .local := by rfl)
    (hsw : swapsWith (.ListComp elt [⟨tg, iter, ifs, 0⟩] scope pos) (some (.Name y py)) spos.line X.env = pure true) (hs : ∀ x, foldedSetIterable iter X.env x = pure x := by intro _; rfl) :
    SS X W (.Assign [.Name y py] (.ListComp elt [⟨tg, iter, ifs, 0⟩] scope pos) spos) (sst i (fz (lc fi p ft fe (own.map (·.2))))) := (ps_frz (ps_setLc hc hN hy hyl hsw hi ok hg ht he hs)).imp (by
  rintro D σ H ⟨φ, env, mh, re, hh, pq⟩
  refine imp_lc hv σ H _ ⟨φ, env, mh, re, hh, post_fz hh (post_mono (Px.refl φ) (Kp.refl H) (post_lift (R := RelD X.K) re pq) ?_)⟩
  rintro x H1 ⟨φ1, d, mh1, p1, k1, h1, r1, q⟩
  exact q φ1 _ H1 (Px.refl φ1) (Kp.refl H1) h1 ((re.mono p1 k1).set r1 i))
/-! ### upper -/
def upr (f : ME) : ME := fun env mh => (f env mh).bind fun d mh1 => match d with
  | .str a => if a.length ≤ 5592405 then .ok (.str (Txt.upper a)) mh1 else .no
  | _ => .no
theorem se_upr {o : Expr} {f : ME} {apos : Pos} (ho : SE X W o f) (hbase : attributeBase o "upper" X.env (eval o X.env) = eval o X.env := by rfl) (hline : (apos.endLine == pos.line) = true := by rfl) : SE X W (.Call (.Attribute o "upper" apos) [] [] pos) (upr f) := (pe_upper ho hbase hline).imp (by
  rintro σ H Q ⟨φ, env, mh, re, hh, p⟩
  refine ⟨φ, env, mh, re, hh, post_mono (Px.refl φ) (Kp.refl H) (post_bind (R1 := RelD X.K) p) ?_⟩
  rintro x H1 ⟨φ1, d, mh1, p1, k1, h1, r1, q⟩
  cases r1 with
  | str a =>
    simp only at q
    split at q
    · rename_i hl
      exact ⟨⟨a, rfl⟩, a, rfl, rfl, hl, q φ1 _ H1 (Px.refl φ1) (Kp.refl H1) h1 (.str _)⟩
    · exact q.elim
  | _ => exact q.elim)
end
end Det
/-! Det, part Dh: (*xs, y), xs.insert(i, y). -/
namespace Det
open PySem PySem.Spec PyProof.Rows L2
def astar (f : ME) (g : MA) : MA := fun env mh => (f env mh).bind fun d mh1 => match itemsD mh1 d with
  | some xs => (g env mh1).bind fun ys mh2 => .ok (xs ++ ys) mh2
  | none => .no
section
variable {X : Cx} {W : WX} {e : Expr} {es : List Expr} {f : ME} {g : MA} {p : Pos}
theorem sa_star (he : SE X W e f) (hr : SA X W es g) (hs : starEach (.Starred e p :: es) X.env = (true, eval e X.env) :: starEach es X.env := by rfl) : SA X W (.Starred e p :: es) (astar f g) := (StX.pa_star he hr hs).imp (by
  rintro σ H Q ⟨φ, env, mh, re, hh, pq⟩
  refine ⟨φ, env, mh, re, hh, post_mono (Px.refl φ) (Kp.refl H) (post_bind (R1 := RelD X.K) pq) ?_⟩
  rintro x H1 ⟨φ1, d, mh1, p1, k1, h1, r1, q⟩
  cases hi : itemsD mh1 d with
  | none => rw [hi] at q; exact q.elim
  | some xs =>
    rw [hi] at q
    obtain ⟨pp, vs, ev, hs, rs⟩ := seq_of h1 r1 hi
    subst ev
    refine ⟨pp, vs, rfl, hs.symm, φ1, env, mh1, re.mono p1 k1, h1, post_mono (Px.refl φ1) (Kp.refl H1) (post_bind (R1 := RelDs X.K) q) ?_⟩
    rintro ys H2 ⟨φ2, ds, mh2, p2, k2, h2, r2, q2⟩
    exact q2 φ2 _ H2 (Px.refl φ2) (Kp.refl H2) h2 ((rs.mono p2 k2).append r2))
def insAt (fo fi f : ME) : ME := fun env mh => (fo env mh).bind fun o mh1 => match o with
  | .ref n => (match mh1[n]? with
    | some (.lst _) => (fi env mh1).bind fun i mh2 => (f env mh2).bind fun d mh3 => (match i, mh3[n]? with
      | .int k, some (.lst xs) => if xs.length < sizeLine ∧ 0 ≤ k ∧ k < 2 ^ 63 then .ok .non (mh3.set n (.lst (xs.take k.toNat ++ [d] ++ xs.drop k.toNat))) else .no
      | _, _ => .no)
    | _ => .no)
  | _ => .no
theorem se_insAt {o e1 e2 : Expr} {fo fi f : ME} {apos cpos : Pos} (ho : SE X W o fo) (h1 : SE X W e1 fi) (h2 : SE X W e2 f) (hbase : attributeBase o "insert" X.env (eval o X.env) = eval o X.env := by rfl) (hline : (apos.endLine == cpos.line) = true := by rfl)
    (hfew : ((backTo cpos (starEach [e1, e2] X.env)).all (fun x => !x.1) && (backToKw cpos (keywordEach [] X.env)).all (fun x => x.1.isSome) && decide (([e1, e2] : List Expr).length + ([] : List Keyword).length + (if ([] : List Keyword).isEmpty then 0 else 1) < 30)) = true := by rfl)
    (hst : starEach (e1 :: [e2]) X.env = (false, eval e1 X.env) :: starEach [e2] X.env := by rfl) (hst2 : starEach (e2 :: []) X.env = (false, eval e2 X.env) :: starEach [] X.env := by rfl) (hplain : (backTo cpos (starEach [e2] X.env)).any (·.1) = false := by rfl) : SE X W (.Call (.Attribute o "insert" apos) [e1, e2] [] cpos) (insAt fo fi f) :=
  (pe_bm PySem.F.plainAttrs_list PySem.F.slot_list_insert PySem.F.type_list_insert mt_insert ho (pa_cons h1 (pa_cons h2 pa_nil hst2) hst) hbase hfew hline hst hplain).imp (by
  rintro σ H Q ⟨φ, env, mh, re, hh, p⟩
  refine ⟨φ, env, mh, re, hh, post_mono (Px.refl φ) (Kp.refl H) (post_bind (R1 := RelD X.K) p) ?_⟩
  rintro x H1 ⟨φ1, d, mh1, p1, k1, h1, r1, q⟩
  cases r1 with
  | ref hn =>
    rename_i n a
    try simp only at q
    split at q
    · rename_i xs0 hx0
      obtain ⟨vs0, e0, _⟩ := h1.lst hn hx0
      refine ⟨.inl ⟨rfl, vs0, SqL.of e0⟩, φ1, env, mh1, re.mono p1 k1, h1, post_mono (Px.refl φ1) (Kp.refl H1) (post_bind (R1 := RelD X.K) q) ?_⟩
      rintro y H2 ⟨φ2, d2, mh2, p2, k2, h2, r2, q2⟩
      refine ⟨φ2, env, mh2, (re.mono p1 k1).mono p2 k2, h2, post_mono (Px.refl φ2) (Kp.refl H2) (post_bind (R1 := RelD X.K) q2) ?_⟩
      rintro z H3 ⟨φ3, d3, mh3, p3, k3, h3, r3, q3⟩
      try simp only at q3
      split at q3
      · rename_i k xs hx
        split at q3
        · rename_i hl
          obtain ⟨vs, e1, rs⟩ := h3.lst (p3.get (p2.get hn)) hx
          cases r2
          refine ⟨a, vs, k, z, rfl, rfl, e1, by rw [← rs.length]; exact hl.1, hl.2.1, hl.2.2, ?_⟩
          exact q3 φ3 .non _ (Px.refl φ3) (Kp.mut e1 fun z => z) (h3.setL (p3.get (p2.get hn)) e1 (((rs.take _).append (.cons r3 .nil)).append (rs.drop _))) .non
        · exact q3.elim
      · exact q3.elim
    · exact q.elim
  | _ => exact q.elim)
/-! ### d = {k: v for ..}, d a local -/
theorem ps_setDc {i : Nat} {y : Str} {py : Pos} {kx vx tg iter : Expr} {ifs : List Expr} {scope : Scope} {own : List (Str × Nat)} {pos spos : Pos} {wi : TI} {gt : TG} {tt : TT} {tk tv : TE} (hc : X.calm = true) (hN : X.N.Nodup) (hy : X.N[i]? = some y) (hyl : X.env.scope.names.lookup y = some .local)
    (hsw : swapsWith (.DictComp kx vx [⟨tg, iter, ifs, 0⟩] scope pos) (some (.Name y py)) spos.line X.env = pure true) (hi : PI X tg iter wi) (ok : BlkOk X.N X.env.scope scope own)
    (hg : ∀ (s : Shared) (H : Hp) (C : Addr) (cl : List (Str × Addr)) (fp : List Addr), PG (X.blk s H scope (compEnvC scope cl C X.env) fp) tg gt) (ht : ∀ (s : Shared) (H : Hp) (C : Addr) (cl : List (Str × Addr)) (fp : List Addr), PTs (X.blk s H scope (compEnvC scope cl C X.env) fp) ifs tt)
    (hk : ∀ (s : Shared) (H : Hp) (C : Addr) (cl : List (Str × Addr)) (fp : List Addr), PE (X.blk s H scope (compEnvC scope cl C X.env) fp) kx tk)
    (he : ∀ (s : Shared) (H : Hp) (C : Addr) (cl : List (Str × Addr)) (fp : List Addr), PE (X.blk s H scope (compEnvC scope cl C X.env) fp) vx tv) (hs : ∀ x, foldedSetIterable iter X.env x = pure x := by intro _; rfl) :
    PS X (.Assign [.Name y py] (.DictComp kx vx [⟨tg, iter, ifs, 0⟩] scope pos) spos) (tAsg (tDc wi gt tt tk tv (own.map (·.2))) (gName i)) := by
  refine ⟨fun pins s σ H D I h => ?_⟩
  rw [exec_Assign_Name_used _ _ _ _ hsw]
  refine wpAny_bind (wpAny_standAt (wpAny_bind ?_))
  show wpAny _ X.A (do let _ ← comprehension (.DictComp kx vx [⟨tg, iter, ifs, 0⟩] scope pos) scope X.env (firstIterPos [⟨tg, iter, ifs, 0⟩] pos) newDict false (eval iter X.env) (some (assign (.Name y py) X.env))) _ _ s
  have h2 : tDc wi gt tt tk tv (own.map (·.2)) σ H (fun x H1 => gName i x σ H1 D.nx) := h
  refine wpAny_bind (thn (dc_core (Qf := fun _ s' => SP X pins D .next s') hc hN I hi ok hg ht hk he hs h2 fun L C s' m H' I' q hn f => ?_) fun _ s' hq => wpAny_pure (wpAny_pure hq))
  show wpAny _ _ (assign (.Name y py) X.env (.ref L)) _ _ _
  refine wpAny_assign_Name (store_ok2 (v := V.ref L) I' hN hy (.inl hyl) rfl (fun s2 I2 ⟨a, sb, ha⟩ => ?_) (.inr hyl))
  obtain ⟨f0, f1, f2, f3, f4, f5⟩ := f
  have apart : C ≠ a := by
    rcases ha with z | z
    · rw [z]; exact f1
    · exact fun e => f4 y a z e.symm
  refine ⟨m, hn.sameBut sb apart, fun h3 sb3 => ⟨_, H', I2.turned (t' := s2.toks) (fun b o hb e => (sb3.2 b hb).trans e) f0 f1 f3 f4 f5, q⟩⟩
theorem ss_setDc {ft : MT} {i : Nat} {y : Str} {py : Pos} {kx vx tg iter : Expr} {ifs : List Expr} {scope : Scope} {own : List (Str × Nat)} {pos spos : Pos} {fi : MI} {pt : Pat} {ek ev : ME} (hc : X.calm = true) (hN : X.N.Nodup) (hi : SI X W tg iter fi) (ok : BlkOk X.N X.env.scope scope own)
    (hv : ∀ j ∈ pt.ix, j ∈ own.map (·.2)) (hg : ∀ (s : Shared) (H : Hp) (C : Addr) (cl : List (Str × Addr)) (fp : List Addr), SG (X.blk s H scope (compEnvC scope cl C X.env) fp) tg pt)
    (ht : ∀ (s : Shared) (H : Hp) (C : Addr) (cl : List (Str × Addr)) (fp : List Addr), STs (X.blk s H scope (compEnvC scope cl C X.env) fp) W0 ifs ft)
    (hk : ∀ (s : Shared) (H : Hp) (C : Addr) (cl : List (Str × Addr)) (fp : List Addr), SE (X.blk s H scope (compEnvC scope cl C X.env) fp) W0 kx ek)
    (he : ∀ (s : Shared) (H : Hp) (C : Addr) (cl : List (Str × Addr)) (fp : List Addr), SE (X.blk s H scope (compEnvC scope cl C X.env) fp) W0 vx ev)
    (hy : X.N[i]? = some y := by rfl) (hyl : X.env.scope.names.lookup y = some .local := by rfl)
    (hsw : swapsWith (.DictComp kx vx [⟨tg, iter, ifs, 0⟩] scope pos) (some (.Name y py)) spos.line X.env = pure true) (hs : ∀ x, foldedSetIterable iter X.env x = pure x := by intro _; rfl) :
    SS X W (.Assign [.Name y py] (.DictComp kx vx [⟨tg, iter, ifs, 0⟩] scope pos) spos) (sst i (dcp fi pt ft ek ev (own.map (·.2)))) := (ps_setDc hc hN hy hyl hsw hi ok hg ht hk he hs).imp (by
  rintro D σ H ⟨φ, env, mh, re, hh, pq⟩
  refine imp_dcp hv σ H _ ⟨φ, env, mh, re, hh, post_mono (Px.refl φ) (Kp.refl H) (post_lift (R := RelD X.K) re pq) ?_⟩
  rintro x H1 ⟨φ1, d, mh1, p1, k1, h1, r1, q⟩
  exact q φ1 _ H1 (Px.refl φ1) (Kp.refl H1) h1 ((re.mono p1 k1).set r1 i))
end
end Det
/-! Det, part Di: x += e, x -= e on a plain local name (numbers, texts). -/
namespace Det
open PySem PySem.Spec PyProof.Rows L2
def oAddA : Op2 := fun a b mh => match a, b with
  | .int i, .int j => some (.int (i + j), mh)
  | .str x, .str y => if x.length + y.length ≤ sizeLine then some (.str (x ++ y), mh) else none
  | _, _ => none
def oSubA : Op2 := fun a b mh => match a, b with
  | .int i, .int j => some (.int (i - j), mh)
  | _, _ => none
section
variable {X : Cx} {W : WX} {e : Expr} {f : ME} {pos : Pos}
theorem r_addA : PIp X .Add (iR2 X.K oAddA) := by
  rintro pins s σ H x y u v Q I rx ry ⟨φ, mh, a, b, ra, rb, hh, p⟩
  cases ra with
  | int i =>
    cases rb with
    | int j => exact in_add pins s σ H _ _ u v Q I rx ry ⟨i, j, rfl, rfl, postO_val hh p (.int _)⟩
    | _ => exact p.elim
  | str i =>
    cases rb with
    | str j =>
      simp only [oAddA] at p
      split at p
      · rename_i hl; exact iop_add_str pins s σ H _ _ u v Q I rx ry ⟨i, j, rfl, rfl, hl, postO_val hh p (.str _)⟩
      · exact p.elim
    | _ => exact p.elim
  | _ => exact p.elim
theorem r_subA : PIp X .Sub (iR2 X.K oSubA) := by
  rintro pins s σ H x y u v Q I rx ry ⟨φ, mh, a, b, ra, rb, hh, p⟩
  cases ra with
  | int i =>
    cases rb with
    | int j => exact in_sub pins s σ H _ _ u v Q I rx ry ⟨i, j, rfl, rfl, postO_val hh p (.int _)⟩
    | _ => exact p.elim
  | _ => exact p.elim
theorem ss_aug {o : Op2} {op : Operator} {i : Nat} {x : Str} {pos' : Pos} (ho : PIp X op (iR2 X.K o)) (he : SE X W e f) (hN : X.N.Nodup) (hi : X.N[i]? = some x := by rfl) (hx : Loc X.env.scope x := by first | exact Or.inl rfl | exact Or.inr rfl)
    (hf : X.fn x = true ∨ X.env.scope.names.lookup x = some .local := by first | exact .inl rfl | exact .inr rfl) :
    SS X W (.AugAssign (.Name x pos') op e pos) (sst i (bi o (vr i) f)) := (ps_aug hN hi hx he ho hf).imp (by
  rintro D σ H ⟨φ, env, mh, re, hh, p⟩
  have p2 := post_lift (R := RelD X.K) re p
  unfold bi vr at p2
  cases h : env[i]? with
  | none => rw [h] at p2; exact p2.elim
  | some ob =>
    cases ob with
    | none => rw [h] at p2; exact p2.elim
    | some d =>
      rw [h] at p2
      obtain ⟨v, h1, h2⟩ := re.at' i d h
      refine ⟨v, h1, φ, env, mh, re, hh, post_mono (Px.refl φ) (Kp.refl H) (post_bind (R1 := RelD X.K) p2) ?_⟩
      rintro y H1 ⟨φ1, d1, mh1, p1, k1, h3, r1, q⟩
      refine ⟨φ1, mh1, d, d1, h2.mono p1 k1, r1, h3, ?_⟩
      have q2 := post_ofO q
      cases ho : o d d1 mh1 with
      | none => rw [ho] at q2; exact q2.elim
      | some pr =>
        obtain ⟨a, m⟩ := pr
        rw [ho] at q2
        intro φ' z H' px kp hr rz
        obtain ⟨φ2, a2, mh2, p2', k2, h4, r2, q3⟩ := q2 φ' z H' px kp hr rz
        exact q3 φ2 _ H' (Px.refl φ2) (Kp.refl H') h4 ((re.mono p2' k2).set r2 i))
end
end Det
/-! Det, part Dj: any(xs), all(xs) of a list of bools, sum(xs) of a list of ints. -/
namespace Det
open PySem PySem.Spec PyProof.Rows L2
def blsD : List D → Option (List Bool)
  | [] => some []
  | .bl b :: ds => (blsD ds).map (b :: ·)
  | _ => none
def intsD : List D → Option (List Int)
  | [] => some []
  | .int b :: ds => (intsD ds).map (b :: ·)
  | _ => none
theorem blsD_map : ∀ bs : List Bool, blsD (bs.map .bl) = some bs
  | [] => rfl
  | b :: bs => by simp [blsD, blsD_map bs]
theorem intsD_map : ∀ bs : List Int, intsD (bs.map .int) = some bs
  | [] => rfl
  | b :: bs => by simp [intsD, intsD_map bs]
theorem blsD_of : ∀ {ds : List D} {bs : List Bool}, blsD ds = some bs → ds = bs.map .bl
  | [], bs, h => by cases h; rfl
  | d :: ds, bs, h => by
    cases d with
    | bl b =>
      simp only [blsD] at h
      cases h1 : blsD ds with
      | none => rw [h1] at h; cases h
      | some cs => rw [h1] at h; cases h; rw [blsD_of h1]; rfl
    | _ => cases h
theorem intsD_of : ∀ {ds : List D} {bs : List Int}, intsD ds = some bs → ds = bs.map .int
  | [], bs, h => by cases h; rfl
  | d :: ds, bs, h => by
    cases d with
    | int b =>
      simp only [intsD] at h
      cases h1 : intsD ds with
      | none => rw [h1] at h; cases h
      | some cs => rw [h1] at h; cases h; rw [intsD_of h1]; rfl
    | _ => cases h
def oAny : OpA := fun as mh => match as with
  | [a] => match (lstD mh a).bind blsD with
    | some bs => some (.bl (bs.any id), mh)
    | none => none
  | _ => none
def oAll : OpA := fun as mh => match as with
  | [a] => match (lstD mh a).bind blsD with
    | some bs => some (.bl (bs.all id), mh)
    | none => none
  | _ => none
def oSum : OpA := fun as mh => match as with
  | [a] => match (lstD mh a).bind intsD with
    | some ns => some (.int ns.sum, mh)
    | none => none
  | _ => none
section
variable {X : Cx}
theorem rel_bls {φ : List Addr} {H : Hp} : ∀ {bs : List Bool} {vs : List V}, RelDs X.K φ H (bs.map .bl) vs → vs = bs.map V.bl
  | [], vs, r => by cases r; rfl
  | b :: bs, vs, r => by
    cases r with
    | cons r1 r2 => cases r1; rw [rel_bls r2]; rfl
theorem rel_ints {φ : List Addr} {H : Hp} : ∀ {bs : List Int} {vs : List V}, RelDs X.K φ H (bs.map .int) vs → vs = bs.map V.int
  | [], vs, r => by cases r; rfl
  | b :: bs, vs, r => by
    cases r with
    | cons r1 r2 => cases r1; rw [rel_ints r2]; rfl
theorem r_any (hc : X.calm = true) : CallR X (.builtin "any") (iRA X.K oAny) := by
  rintro pins s σ H xs us Q I r ⟨φ, mh, as, ra, hh, p⟩
  unfold oAny at p
  split at p
  · rename_i a
    obtain ⟨v, rfl, rv⟩ := ra.one
    cases h : (lstD mh a).bind blsD with
    | none => rw [h] at p; exact p.elim
    | some bs =>
      rw [h] at p
      obtain ⟨ds, h1, h2⟩ := Option.bind_eq_some_iff.mp h
      have e := blsD_of h2
      subst e
      obtain ⟨ad, vs, rfl, hs, rs⟩ := lstD_of hh rv h1
      rw [rel_bls rs] at hs
      exact cr_any hc pins s σ H _ us Q I r ⟨ad, bs, rfl, hs, postO_val hh p (.bl _)⟩
  · exact p.elim
theorem r_all (hc : X.calm = true) : CallR X (.builtin "all") (iRA X.K oAll) := by
  rintro pins s σ H xs us Q I r ⟨φ, mh, as, ra, hh, p⟩
  unfold oAll at p
  split at p
  · rename_i a
    obtain ⟨v, rfl, rv⟩ := ra.one
    cases h : (lstD mh a).bind blsD with
    | none => rw [h] at p; exact p.elim
    | some bs =>
      rw [h] at p
      obtain ⟨ds, h1, h2⟩ := Option.bind_eq_some_iff.mp h
      have e := blsD_of h2
      subst e
      obtain ⟨ad, vs, rfl, hs, rs⟩ := lstD_of hh rv h1
      rw [rel_bls rs] at hs
      exact cr_all hc pins s σ H _ us Q I r ⟨ad, bs, rfl, hs, postO_val hh p (.bl _)⟩
  · exact p.elim
theorem r_sum (hc : X.calm = true) : CallR X (.builtin "sum") (iRA X.K oSum) := by
  rintro pins s σ H xs us Q I r ⟨φ, mh, as, ra, hh, p⟩
  unfold oSum at p
  split at p
  · rename_i a
    obtain ⟨v, rfl, rv⟩ := ra.one
    cases h : (lstD mh a).bind intsD with
    | none => rw [h] at p; exact p.elim
    | some bs =>
      rw [h] at p
      obtain ⟨ds, h1, h2⟩ := Option.bind_eq_some_iff.mp h
      have e := intsD_of h2
      subst e
      obtain ⟨ad, vs, rfl, hs, rs⟩ := lstD_of hh rv h1
      rw [rel_ints rs] at hs
      exact cr_sum hc pins s σ H _ us Q I r ⟨ad, bs, rfl, hs, postO_val hh p (.int _)⟩
  · exact p.elim
end
end Det
/-! Det, part Dk: list(range(..)), tuple(range(..)). -/
namespace Det
open PySem PySem.Spec PyProof.Rows L2
def okRg (a b : Int) : Bool := decide (-(2 ^ 62) ≤ a ∧ a < 2 ^ 62 ∧ -(2 ^ 62) ≤ b ∧ b < 2 ^ 62 ∧ (b - a).toNat ≤ 2 ^ 24)
theorem okRg_of {a b : Int} (h1 : -1000000 ≤ a) (h2 : a ≤ 1000000) (h3 : -1000000 ≤ b) (h4 : b ≤ 1000000) : okRg a b = true := by
  unfold okRg
  rw [decide_eq_true_eq]
  omega
def lrg1 (f : ME) : ME := fun env mh => (f env mh).bind fun a m => match a with
  | .int j => if okRg 0 j = true then .ok (.ref m.length) (m ++ [.lst (rgD 0 j.toNat)]) else .no
  | _ => .no
def lrg2 (f g : ME) : ME := fun env mh => (f env mh).bind fun a m => (g env m).bind fun b m2 => match a, b with
  | .int i, .int j => if okRg i j = true then .ok (.ref m2.length) (m2 ++ [.lst (rgD i (j - i).toNat)]) else .no
  | _, _ => .no
def trg1 (f : ME) : ME := fun env mh => (f env mh).bind fun a m => match a with
  | .int j => if okRg 0 j = true then .ok (.tup (rgD 0 j.toNat)) m else .no
  | _ => .no
def trg2 (f g : ME) : ME := fun env mh => (f env mh).bind fun a m => (g env m).bind fun b m2 => match a, b with
  | .int i, .int j => if okRg i j = true then .ok (.tup (rgD i (j - i).toNat)) m2 else .no
  | _, _ => .no
section
variable {X : Cx} {W : WX} {e e2 : Expr} {f g : ME} {p pos p2 pos2 : Pos}
theorem rel_rg {φ : List Addr} {H : Hp} {i j : Int} : RelDs X.K φ H (rgD i (j - i).toNat) (rgV i j) := by
  unfold rgD rgV
  generalize (List.range (j - i).toNat) = l
  induction l with
  | nil => exact .nil
  | cons a l ih => exact .cons (.int _) ih
theorem rg_ok {i j : Int} (h : okRg i j = true) : RgOk i j := by
  unfold okRg at h
  rw [decide_eq_true_eq] at h
  exact h
theorem se_lrg1 (hc : X.calm = true) (hm2 : X.mg "list" = none) (hm : X.mg "range" = none) (he : SE X W e f) (hg2 : Gl X "list" := by rfl) (hg : Gl X "range" := by rfl) (na : starEach [e] X.env = (false, eval e X.env) :: starEach [] X.env := by rfl)
    (nb : starEach [.Call (.Name "range" p) [e] [] pos] X.env = (false, eval (.Call (.Name "range" p) [e] [] pos) X.env) :: starEach [] X.env := by rfl) :
    SE X W (.Call (.Name "list" p2) [.Call (.Name "range" p) [e] [] pos] [] pos2) (lrg1 f) := (pe_listRg hc hg2 hm2 (prg_1 hg hm he na) nb).imp (by
  rintro σ H Q ⟨φ, env, mh, re, hh, pq⟩
  refine ⟨φ, env, mh, re, hh, post_mono (Px.refl φ) (Kp.refl H) (post_bind (R1 := RelD X.K) pq) ?_⟩
  rintro x H1 ⟨φ1, d, mh1, p1, k1, h1, r1, q⟩
  cases r1 with
  | int j =>
    simp only at q
    split at q
    · rename_i ok
      refine ⟨j, rfl, rg_ok ok, fun a ha => ?_⟩
      exact q (φ1 ++ [a]) (.ref a) _ px1 (Kp.new ha) (h1.new ha (by have := rel_rg (X := X) (φ := φ1) (H := H1) (i := 0) (j := j); rwa [Int.sub_zero] at this)) (.ref h1.last)
    · exact q.elim
  | _ => exact q.elim)
theorem se_lrg2 (hc : X.calm = true) (hm2 : X.mg "list" = none) (hm : X.mg "range" = none) (he : SE X W e f) (he2 : SE X W e2 g) (hg2 : Gl X "list" := by rfl) (hg : Gl X "range" := by rfl) (na : starEach [e, e2] X.env = (false, eval e X.env) :: starEach [e2] X.env := by rfl)
    (na2 : starEach [e2] X.env = (false, eval e2 X.env) :: starEach [] X.env := by rfl) (hp : (backTo pos (starEach [e2] X.env)).any (·.1) = false := by rfl)
    (nb : starEach [.Call (.Name "range" p) [e, e2] [] pos] X.env = (false, eval (.Call (.Name "range" p) [e, e2] [] pos) X.env) :: starEach [] X.env := by rfl) :
    SE X W (.Call (.Name "list" p2) [.Call (.Name "range" p) [e, e2] [] pos] [] pos2) (lrg2 f g) := (pe_listRg hc hg2 hm2 (prg_2 hg hm he he2 na na2 hp) nb).imp (by
  rintro σ H Q ⟨φ, env, mh, re, hh, pq⟩
  refine ⟨φ, env, mh, re, hh, post_mono (Px.refl φ) (Kp.refl H) (post_bind (R1 := RelD X.K) pq) ?_⟩
  rintro x H1 ⟨φ1, d, mh1, p1, k1, h1, r1, q⟩
  refine ⟨φ1, env, mh1, re.mono p1 k1, h1, post_mono (Px.refl φ1) (Kp.refl H1) (post_bind (R1 := RelD X.K) q) ?_⟩
  rintro y H2 ⟨φ2, d2, mh2, p2, k2, h2, r2, q2⟩
  cases r1 with
  | int i =>
    cases r2 with
    | int j =>
      simp only at q2
      split at q2
      · rename_i ok
        refine ⟨i, j, rfl, rfl, rg_ok ok, fun a ha => ?_⟩
        exact q2 (φ2 ++ [a]) (.ref a) _ px1 (Kp.new ha) (h2.new ha rel_rg) (.ref h2.last)
      · exact q2.elim
    | _ => exact q2.elim
  | _ => cases r2 <;> exact q2.elim)
theorem se_trg1 (hc : X.calm = true) (hm2 : X.mg "tuple" = none) (hm : X.mg "range" = none) (he : SE X W e f) (hg2 : Gl X "tuple" := by rfl) (hg : Gl X "range" := by rfl) (na : starEach [e] X.env = (false, eval e X.env) :: starEach [] X.env := by rfl)
    (nb : starEach [.Call (.Name "range" p) [e] [] pos] X.env = (false, eval (.Call (.Name "range" p) [e] [] pos) X.env) :: starEach [] X.env := by rfl) :
    SE X W (.Call (.Name "tuple" p2) [.Call (.Name "range" p) [e] [] pos] [] pos2) (trg1 f) := (pe_tupRg hc hg2 hm2 (prg_1 hg hm he na) nb).imp (by
  rintro σ H Q ⟨φ, env, mh, re, hh, pq⟩
  refine ⟨φ, env, mh, re, hh, post_mono (Px.refl φ) (Kp.refl H) (post_bind (R1 := RelD X.K) pq) ?_⟩
  rintro x H1 ⟨φ1, d, mh1, p1, k1, h1, r1, q⟩
  cases r1 with
  | int j =>
    simp only at q
    split at q
    · rename_i ok
      refine ⟨j, rfl, rg_ok ok, fun a ha => ?_⟩
      exact q φ1 (.ref a) _ (Px.refl φ1) (Kp.new ha) (h1.grow ha) (.tup (SqT.of upd_same) (RelDs.mono (Px.refl φ1) (Kp.new ha) (by have := rel_rg (X := X) (φ := φ1) (H := H1) (i := 0) (j := j); rwa [Int.sub_zero] at this)))
    · exact q.elim
  | _ => exact q.elim)
end
end Det
/-! Det, part Dl: xs.extend(ys), ys a list (frozen ones too). -/
namespace Det
open PySem PySem.Spec PyProof.Rows L2
theorem list_extendW (l : Addr) (items : Array Value) (n : Nat) (b : Addr) (items2 : Array Value) (n2 : Nat) (dd : Option Addr) (sl : Array (Option Value)) (hc0 : ¬(!items.isEmpty && Builtin.List.listTooLong (items.size + items2.size)) = true) (hc1 : items.size ≤ sizeLine) (hs2 : items.size + items2.size ≤ sizeLine + 1) :
    Meets (Builtin.«list.extend» ⟨[.ref l, .ref b], []⟩) (fun _ R s => s.heap.get? l = some { cls := .type "list", dict := none, data := .seq items n, slots := #[] } ∧ s.heap.get? b = some { cls := .type "list", dict := dd, data := .seq items2 n2, slots := sl } ∧ R (.ok (.ret Value.none)) { s with heap := s.heap.update l (Obj.mapSeq fun x => x ++ items2), toks := s.toks }) :=
  .of_wp fun prog w A R s h => by
    obtain ⟨hp, g, d, tk, os⟩ := s; obtain ⟨hl, hb, h⟩ := h; have f1 := AutoSeq1.idx_int; have f2 := AutoSeq1.sub_tuple_tuple; have f3 := AutoSeq1.sub_list_list; have f4 := AutoSeq1.sub_tuple_list; have f5 := AutoSeq1.sub_list_tuple;
    have hz' : (items ++ items2).size ≤ sizeLine + 1 := by rw [Array.size_append]; exact hs2
    wp_walk using (wpAny_updateSeq hl rfl (hz := hc1) (_hz' := hz')), AutoSeq1.wpAny_loadPart' hl, AutoSeq1.wpAny_loadPart' hb; exact ⟨_, rfl, h⟩
def rExtS (K : PySem.W.Frag) : V → List V → Hp → VK → Prop := fun x vs H Q => ∃ l b xs zs, x = .ref l ∧ vs = [.ref b] ∧ H l = some (.lst xs) ∧ SqL K H b zs ∧ xs.length + zs.length ≤ sizeLine ∧ Q .non (upd H l (.lst (xs ++ zs)))
theorem mt_extS {X : Cx} : MtM X "list.extend" (rExtS X.K) := by
  intro pins s σ H x vs v us Q I rx rv h
  obtain ⟨l, b, xs, zs, rfl, rfl, hH, hB, hz, q⟩ := h
  cases rx
  obtain ⟨u, rfl, ru⟩ := rv.one
  cases ru
  obtain ⟨z, its, n, r, hl, e⟩ := I.lstM hH
  obtain ⟨its2, r2, ⟨o2, n2, e2, c2, d2, t2⟩, z2⟩ := I.list hB
  obtain ⟨cl2, dd2, da2, sl2⟩ := o2
  simp only at c2 d2 t2
  subst c2 d2 t2
  have hl2 := r2.length
  have hsz : its.toArray.size + its2.toArray.size ≤ sizeLine := by rw [List.size_toArray, List.size_toArray]; omega
  have hlong : ¬ (!its.toArray.isEmpty && Builtin.List.listTooLong (its.toArray.size + its2.toArray.size)) = true := by
    rw [notLongL hsz, Bool.and_false]
    exact Bool.false_ne_true
  refine call_meets PySem.F.slot_list_extend ⟨_, e, rfl⟩ PySem.F.entry_list_extend (PySem.F.args_list_extend_2 _ _)
    (list_extendW l its.toArray n b its2.toArray n2 none sl2 hlong (by rw [List.size_toArray]; omega) (by omega)) ⟨e, e2, ?_⟩
  refine ⟨.non, _, I.lset (its' := its ++ its2) hH e (by simp) (r.append r2) ?_, rfl, q⟩
  rw [List.length_append]
  omega
def ext (fo f : ME) : ME := fun env mh => (fo env mh).bind fun o mh1 => match o with
  | .ref n => (match mh1[n]? with
    | some (.lst _) => (f env mh1).bind fun d mh2 => (match mh2[n]?, lstD mh2 d with
      | some (.lst xs), some ys => if xs.length + ys.length ≤ sizeLine then .ok .non (mh2.set n (.lst (xs ++ ys))) else .no
      | _, _ => .no)
    | _ => .no)
  | _ => .no
section
variable {X : Cx} {W : WX}
theorem se_ext {o e : Expr} {fo f : ME} {apos cpos : Pos} (ho : SE X W o fo) (he : SE X W e f) (hbase : attributeBase o "extend" X.env (eval o X.env) = eval o X.env := by rfl) (hline : (apos.endLine == cpos.line) = true := by rfl)
    (hfew : ((backTo cpos (starEach [e] X.env)).all (fun x => !x.1) && (backToKw cpos (keywordEach [] X.env)).all (fun x => x.1.isSome) && decide (([e] : List Expr).length + ([] : List Keyword).length + (if ([] : List Keyword).isEmpty then 0 else 1) < 30)) = true := by rfl)
    (hst : starEach (e :: []) X.env = (false, eval e X.env) :: starEach [] X.env := by rfl) (hplain : (backTo cpos (starEach [] X.env)).any (·.1) = false := by rfl) : SE X W (.Call (.Attribute o "extend" apos) [e] [] cpos) (ext fo f) :=
  (pe_bm PySem.F.plainAttrs_list PySem.F.slot_list_extend PySem.F.type_list_extend mt_extS ho (pa_cons he pa_nil hst) hbase hfew hline hst hplain).imp (by
  rintro σ H Q ⟨φ, env, mh, re, hh, p⟩
  refine ⟨φ, env, mh, re, hh, post_mono (Px.refl φ) (Kp.refl H) (post_bind (R1 := RelD X.K) p) ?_⟩
  rintro x H1 ⟨φ1, d, mh1, p1, k1, h1, r1, q⟩
  cases r1 with
  | ref hn =>
    rename_i n a
    try simp only at q
    split at q
    · rename_i xs0 hx0
      obtain ⟨vs0, e0, _⟩ := h1.lst hn hx0
      refine ⟨.inl ⟨rfl, vs0, SqL.of e0⟩, φ1, env, mh1, re.mono p1 k1, h1, post_mono (Px.refl φ1) (Kp.refl H1) (post_bind (R1 := RelD X.K) q) ?_⟩
      rintro y H2 ⟨φ2, d2, mh2, p2, k2, h2, r2, q2⟩
      try simp only at q2
      split at q2
      · rename_i xs ys hx hy
        split at q2
        · rename_i hl
          obtain ⟨vs, e1, rs⟩ := h2.lst (p2.get hn) hx
          obtain ⟨pb, vb, eb, sb, rb⟩ := lstD_of h2 r2 hy
          subst eb
          exact ⟨a, pb, vs, vb, rfl, rfl, e1, sb, by rw [← rs.length, ← rb.length]; exact hl, q2 φ2 .non _ (Px.refl φ2) (Kp.mut e1 fun z => z) (h2.setL (p2.get hn) e1 (rs.append rb)) .non⟩
        · exact q2.elim
      · exact q2.elim
    · exact q.elim
  | _ => exact q.elim)
end
end Det
/-! Det, part Dm: for x in reversed(range(..)). -/
namespace Det
open PySem PySem.Spec PyProof.Rows L2
def rgC (lo c : Int) (n : Nat) : List D := (List.range n).map fun i => .int (lo + (i : Nat) * c)
def rvr1 (f : ME) : MI := fun env mh => (f env mh).bind fun d mh1 => match d with
  | .int j => if okB j = true then .ok ⟨rgC ((j.toNat : Nat) - 1) (-1) j.toNat, fun _ => true⟩ mh1 else .no
  | _ => .no
def rvr2 (f g : ME) : MI := fun env mh => (f env mh).bind fun d mh1 => (g env mh1).bind fun e mh2 => match d, e with
  | .int i, .int j => if okB i = true ∧ okB j = true then .ok ⟨rgC (i + ((j - i).toNat : Nat) - 1) (-1) (j - i).toNat, fun _ => true⟩ mh2 else .no
  | _, _ => .no
section
variable {X : Cx} {W : WX} {tg : Expr}
theorem itOk_rgC {φ : List Addr} {H : Hp} (lo c : Int) (n : Nat) : ItOk X.K φ H ⟨rgC lo c n, fun _ => true⟩ (Itc lo c n) := by
  intro i φ' mh' H' _ _ hh _
  refine ⟨fun d hd => ?_, fun hl => ?_⟩
  · have hi : i < n := by
      have := (List.getElem?_eq_some_iff.mp hd).1
      simpa [rgC] using this
    have ed : d = .int (lo + (i : Nat) * c) := by
      simp [rgC, hi] at hd
      exact hd.symm
    subst ed
    refine ⟨hi, fun x H2 y => ?_⟩
    obtain ⟨e1, e2⟩ := y
    subst e1; subst e2
    exact ⟨Kp.refl _, hh, .int _⟩
  · show n ≤ i
    simpa [rgC] using hl
theorem si_rvr1 {e : Expr} {f : ME} {p pos p2 pos2 : Pos} (hm2 : X.mg "reversed" = none) (hm : X.mg "range" = none) (he : SE X W e f) (hg2 : Gl X "reversed" := by rfl) (hg : Gl X "range" := by rfl) (na : starEach [e] X.env = (false, eval e X.env) :: starEach [] X.env := by rfl)
    (nb : starEach [.Call (.Name "range" p) [e] [] pos] X.env = (false, eval (.Call (.Name "range" p) [e] [] pos) X.env) :: starEach [] X.env := by rfl) :
    SI X W tg (.Call (.Name "reversed" p2) [.Call (.Name "range" p) [e] [] pos] [] pos2) (rvr1 f) := (pi_revR hg2 hm2 (prg_1 hg hm he na) nb).imp (by
  rintro σ H R ⟨φ, env, mh, re, hh, pq⟩
  refine ⟨φ, env, mh, re, hh, post_mono (Px.refl φ) (Kp.refl H) (post_bind (R1 := RelD X.K) pq) ?_⟩
  rintro x H1 ⟨φ1, d, mh1, p1, k1, h1, r1, q⟩
  cases r1 with
  | int j =>
    try simp only at q
    split at q
    · rename_i hb
      obtain ⟨b1, b2⟩ := of_decide_eq_true hb
      refine ⟨j, rfl, by omega, by omega, b1, b2, ?_⟩
      have e1 : (0 : Int) + (((j - 0).toNat : Nat) : Int) - 1 = ((j.toNat : Nat) : Int) - 1 := by rw [Int.sub_zero]; omega
      rw [e1, Int.sub_zero]
      exact q φ1 _ H1 (Px.refl φ1) (Kp.refl H1) h1 (itOk_rgC _ _ _)
    · exact q.elim
  | _ => exact q.elim)
theorem si_rvr2 {e e2 : Expr} {f g : ME} {p pos p2 pos2 : Pos} (hm2 : X.mg "reversed" = none) (hm : X.mg "range" = none) (he : SE X W e f) (he2 : SE X W e2 g) (hg2 : Gl X "reversed" := by rfl) (hg : Gl X "range" := by rfl) (na : starEach [e, e2] X.env = (false, eval e X.env) :: starEach [e2] X.env := by rfl)
    (na2 : starEach [e2] X.env = (false, eval e2 X.env) :: starEach [] X.env := by rfl) (hp : (backTo pos (starEach [e2] X.env)).any (·.1) = false := by rfl)
    (nb : starEach [.Call (.Name "range" p) [e, e2] [] pos] X.env = (false, eval (.Call (.Name "range" p) [e, e2] [] pos) X.env) :: starEach [] X.env := by rfl) :
    SI X W tg (.Call (.Name "reversed" p2) [.Call (.Name "range" p) [e, e2] [] pos] [] pos2) (rvr2 f g) := (pi_revR hg2 hm2 (prg_2 hg hm he he2 na na2 hp) nb).imp (by
  rintro σ H R ⟨φ, env, mh, re, hh, pq⟩
  refine ⟨φ, env, mh, re, hh, post_mono (Px.refl φ) (Kp.refl H) (post_bind (R1 := RelD X.K) pq) ?_⟩
  rintro x H1 ⟨φ1, d, mh1, p1, k1, h1, r1, q⟩
  refine ⟨φ1, env, mh1, re.mono p1 k1, h1, post_mono (Px.refl φ1) (Kp.refl H1) (post_bind (R1 := RelD X.K) q) ?_⟩
  rintro y H2 ⟨φ2, d2, mh2, p2, k2, h2, r2, q2⟩
  cases r1 with
  | int i =>
    cases r2 with
    | int j =>
      try simp only at q2
      split at q2
      · rename_i hb
        obtain ⟨b1, b2⟩ := of_decide_eq_true hb.1
        obtain ⟨b3, b4⟩ := of_decide_eq_true hb.2
        exact ⟨i, j, rfl, rfl, b1, b2, b3, b4, q2 φ2 _ H2 (Px.refl φ2) (Kp.refl H2) h2 (itOk_rgC _ _ _)⟩
      · exact q2.elim
    | _ => exact q2.elim
  | _ => cases r2 <;> exact q2.elim)
end
end Det
/-! Det, part Dn: {k: v}, a dict display of one pair. -/
namespace Det
open PySem PySem.Spec PyProof.Rows L2
def dct1 (fk fv : ME) : ME := fun env mh => (fk env (mh ++ [.dk []])).bind fun k m1 => (fv env m1).bind fun v m2 => match m2[mh.length]?, dKey k with
  | some (.dk []), some key => .ok (.ref mh.length) (m2.set mh.length (.dk [(key, v)]))
  | _, _ => .no
section
variable {X : Cx} {W : WX} {k v : Expr} {fk fv : ME} {pos : Pos}
theorem se_dct1 (hk : SE X W k fk) (hv : SE X W v fv) : SE X W (.Dict [some k] [v] pos) (dct1 fk fv) := (pe_disp (pps_cons hk hv pps_nil) rfl rfl (by simp) (by simp)).imp (by
  rintro σ H Q ⟨φ, env, mh, re, hh, p⟩ a ha
  have hnew : HR X.K (φ ++ [a]) (mh ++ [.dk []]) (upd H a (.dK [])) := hh.push ha (hh.fresh ha) ⟨[], upd_same, rfl, .nil⟩
  have hat : (φ ++ [a])[mh.length]? = some a := hh.last
  have pn : post X.K X.mg W (RelD X.K) σ (φ ++ [a]) (upd H a (.dK [])) (dct1 fk fv env mh) Q := post_mono px1 (Kp.new ha) p fun _ _ q => q
  refine ⟨φ ++ [a], env, _, re.mono px1 (Kp.new ha), hnew, post_mono (Px.refl _) (Kp.refl _) (post_bind (R1 := RelD X.K) pn) ?_⟩
  rintro x H1 ⟨φ1, d, mh1, p1, k1, h1, r1, q⟩
  refine ⟨φ1, env, mh1, (re.mono px1 (Kp.new ha)).mono p1 k1, h1, post_mono (Px.refl φ1) (Kp.refl H1) (post_bind (R1 := RelD X.K) q) ?_⟩
  rintro y H2 ⟨φ2, d2, mh2, p2, k2, h2, r2, q2⟩
  have hat2 : φ2[mh.length]? = some a := p2.get (p1.get hat)
  split at q2
  · rename_i key hl hkey
    obtain ⟨kvs, hv2, rk⟩ := h2.ob _ _ _ hat2 hl
    have e0 := rk.nil'
    subst e0
    have ey := key_rel (r1.mono p2 k2) hkey
    subst ey
    have hH : Kp H2 (upd H2 a (.dK (putK [] key y))) := Kp.mut hv2 fun z => z
    refine ⟨hv2, [(key, y)], rfl, by simp, ?_⟩
    exact q2 φ2 (.ref a) _ (Px.refl φ2) hH (h2.put (o' := .dk (putD [] key d2)) hat2 hv2 (fun z => z) ⟨_, upd_same, (RelK.put (k := key) (kds := []) rk r2).mono (Px.refl φ2) hH⟩) (.ref hat2)
  · exact q2.elim)
end
end Det
/-! Det, part Do: xs.reverse(). -/
namespace Det
open PySem PySem.Spec PyProof.Rows L2
theorem rels_rev {K : PySem.W.Frag} {φ : List Addr} {H : Hp} : ∀ {ds : List D} {vs : List V}, RelDs K φ H ds vs → RelDs K φ H ds.reverse vs.reverse
  | _, _, .nil => .nil
  | _, _, .cons r rs => by
    rw [List.reverse_cons, List.reverse_cons]
    exact (rels_rev rs).append (.cons r .nil)
def rvs (fo : ME) : ME := fun env mh => (fo env mh).bind fun o mh1 => match o with
  | .ref n => match mh1[n]? with
    | some (.lst xs) => .ok .non (mh1.set n (.lst xs.reverse))
    | _ => .no
  | _ => .no
section
variable {X : Cx} {W : WX}
theorem se_rvs {o : Expr} {fo : ME} {apos cpos : Pos} (ho : SE X W o fo) (hbase : attributeBase o "reverse" X.env (eval o X.env) = eval o X.env := by rfl) (hline : (apos.endLine == cpos.line) = true := by rfl) :
    SE X W (.Call (.Attribute o "reverse" apos) [] [] cpos) (rvs fo) :=
  (pe_bm0 PySem.F.plainAttrs_list PySem.F.slot_list_reverse PySem.F.type_list_reverse mt_reverse ho hbase hline).imp (by
  rintro σ H Q ⟨φ, env, mh, re, hh, p⟩
  refine ⟨φ, env, mh, re, hh, post_mono (Px.refl φ) (Kp.refl H) (post_bind (R1 := RelD X.K) p) ?_⟩
  rintro x H1 ⟨φ1, d, mh1, p1, k1, h1, r1, q⟩
  cases r1 with
  | ref hn =>
    rename_i n a
    try simp only at q
    split at q
    · rename_i xs hx
      obtain ⟨vs, e1, rs⟩ := h1.lst hn hx
      have km : Kp H1 (upd H1 a (.lst vs.reverse)) := Kp.mut e1 fun z => z
      exact ⟨.inl ⟨rfl, vs, SqL.of e1⟩, a, vs, rfl, rfl, e1, q φ1 .non _ (Px.refl φ1) km (h1.setL hn e1 (rels_rev rs)) .non⟩
    · exact q.elim
  | _ => exact q.elim)
end
end Det
/-! Det, part S: what must hold ahead of a mirror (plain Lean, no program in sight). -/
namespace Det
open PySem

/-- r ends well with Q, or with an exception and E (an inductive word: nothing is run to read it) -/
inductive Res.wp {α : Type} : Res α → (α → MH → Prop) → (Exn → MH → Prop) → Prop
  | ok {a : α} {h : MH} {Q : α → MH → Prop} {E : Exn → MH → Prop} : Q a h → Res.wp (.ok a h) Q E
  | ex {x : Exn} {h : MH} {Q : α → MH → Prop} {E : Exn → MH → Prop} : E x h → Res.wp (.ex x h) Q E
structure Po where
  nx : Nv → MH → Prop
  rt : D → MH → Prop
  bk : Nv → MH → Prop
  ct : Nv → MH → Prop
  ex : Exn → Nv → MH → Prop
inductive SRes.wp : SRes → Po → Prop
  | nx {e : Nv} {h : MH} {O : Po} : O.nx e h → SRes.wp (.nx e h) O
  | bk {e : Nv} {h : MH} {O : Po} : O.bk e h → SRes.wp (.bk e h) O
  | ct {e : Nv} {h : MH} {O : Po} : O.ct e h → SRes.wp (.ct e h) O
  | rt {d : D} {h : MH} {O : Po} : O.rt d h → SRes.wp (.rt d h) O
  | ex {x : Exn} {e : Nv} {h : MH} {O : Po} : O.ex x e h → SRes.wp (.ex x e h) O
inductive owp {α : Type} : Option (α × MH) → (α → MH → Prop) → Prop
  | some {a : α} {h : MH} {Q : α → MH → Prop} : Q a h → owp (.some (a, h)) Q
section
variable {α β : Type} {Q Q' : α → MH → Prop} {E E' : Exn → MH → Prop} {mh : MH} {env : Nv} {O : Po}
@[simp] theorem wp_ok {a : α} : (Res.ok a mh).wp Q E ↔ Q a mh := ⟨fun h => by cases h; assumption, .ok⟩
@[simp] theorem wp_no : (Res.no : Res α).wp Q E ↔ False := ⟨(fun h => nomatch h), False.elim⟩
@[simp] theorem wp_ex {x : Exn} : (Res.ex x mh : Res α).wp Q E ↔ E x mh := ⟨fun h => by cases h; assumption, .ex⟩
@[simp] theorem swp_nx {e : Nv} : (SRes.nx e mh).wp O ↔ O.nx e mh := ⟨fun h => by cases h; assumption, .nx⟩
@[simp] theorem swp_bk {e : Nv} : (SRes.bk e mh).wp O ↔ O.bk e mh := ⟨fun h => by cases h; assumption, .bk⟩
@[simp] theorem swp_ct {e : Nv} : (SRes.ct e mh).wp O ↔ O.ct e mh := ⟨fun h => by cases h; assumption, .ct⟩
@[simp] theorem swp_rt {d : D} : (SRes.rt d mh).wp O ↔ O.rt d mh := ⟨fun h => by cases h; assumption, .rt⟩
@[simp] theorem swp_ex {x : Exn} {e : Nv} : (SRes.ex x e mh).wp O ↔ O.ex x e mh := ⟨fun h => by cases h; assumption, .ex⟩
@[simp] theorem swp_no : SRes.no.wp O ↔ False := ⟨(fun h => nomatch h), False.elim⟩
@[simp] theorem owp_some {a : α} : owp (some (a, mh)) Q ↔ Q a mh := ⟨fun h => by cases h; assumption, .some⟩
@[simp] theorem owp_none : owp (none : Option (α × MH)) Q ↔ False := ⟨(fun h => nomatch h), False.elim⟩
@[simp] theorem wp_bind {r : Res α} {k : α → MH → Res β} {Q : β → MH → Prop} : (r.bind k).wp Q E ↔ r.wp (fun a h => (k a h).wp Q E) E := by
  cases r with
  | ok a h => exact ⟨fun q => .ok q, fun q => by cases q; assumption⟩
  | ex x h => exact ⟨fun q => .ex (wp_ex.mp q), fun q => .ex (wp_ex.mp q)⟩
  | no => exact wp_no.trans wp_no.symm
@[simp] theorem wp_ofO {o : Option (α × MH)} : (Res.ofO o).wp Q E ↔ owp o Q := by
  cases o with
  | none => exact wp_no.trans owp_none.symm
  | some p => obtain ⟨a, h⟩ := p; exact wp_ok.trans owp_some.symm
theorem Res.wp_mono {r : Res α} (h : r.wp Q E) (hq : ∀ a h, Q a h → Q' a h) (he : ∀ x h, E x h → E' x h) : r.wp Q' E' := by
  cases h with
  | ok h => exact .ok (hq _ _ h)
  | ex h => exact .ex (he _ _ h)
theorem SRes.wp_mono {r : SRes} {O O' : Po} (h : r.wp O) (h1 : ∀ e h, O.nx e h → O'.nx e h) (h2 : ∀ e h, O.rt e h → O'.rt e h) (h3 : ∀ e h, O.bk e h → O'.bk e h) (h4 : ∀ e h, O.ct e h → O'.ct e h) (h5 : ∀ x e h, O.ex x e h → O'.ex x e h) : r.wp O' := by
  cases h with
  | nx h => exact .nx (h1 _ _ h)
  | bk h => exact .bk (h3 _ _ h)
  | ct h => exact .ct (h4 _ _ h)
  | rt h => exact .rt (h2 _ _ h)
  | ex h => exact .ex (h5 _ _ _ h)
/-! with the wish behind, as the end of a run says it -/
theorem wp_end {r : Res α} (h : r.wp Q fun _ _ => False) : ∃ a m, r = .ok a m ∧ Q a m := by
  cases h with
  | ok h => exact ⟨_, _, rfl, h⟩
  | ex h => exact h.elim
theorem wp_bind_iff {r : Res α} {k : α → MH → Res β} {Q : β → MH → Prop} {P : α → MH → Prop} (hk : ∀ a h, (k a h).wp Q E ↔ P a h) : (r.bind k).wp Q E ↔ r.wp P E := by
  rw [wp_bind]
  exact ⟨fun h => Res.wp_mono h (fun a m q => (hk a m).mp q) fun _ _ q => q, fun h => Res.wp_mono h (fun a m q => (hk a m).mpr q) fun _ _ q => q⟩
theorem wp_lift {r : Res α} {k : α → MH → SRes} : (lift r env k).wp O ↔ r.wp (fun a h => (k a h).wp O) (fun x h => O.ex x env h) := by
  cases r with
  | ok a h => exact ⟨fun q => .ok q, fun q => by cases q; assumption⟩
  | ex x h => exact ⟨fun q => .ex (swp_ex.mp q), fun q => .ex (wp_ex.mp q)⟩
  | no => exact swp_no.trans wp_no.symm
theorem wp_lift_iff {r : Res α} {k : α → MH → SRes} {P : α → MH → Prop} (hk : ∀ a h, (k a h).wp O ↔ P a h) : (lift r env k).wp O ↔ r.wp P (fun x h => O.ex x env h) := by
  rw [wp_lift]
  exact ⟨fun h => Res.wp_mono h (fun a m q => (hk a m).mp q) fun _ _ q => q, fun h => Res.wp_mono h (fun a m q => (hk a m).mpr q) fun _ _ q => q⟩
/-! ### expressions -/
variable {f g : ME} {ft gt : MT} {fa : MA} {Qd : D → MH → Prop} {Qb : Bool → MH → Prop} {Ql : List D → MH → Prop}
@[simp] theorem wp_vr {i : Nat} : (vr i env mh).wp Qd E ↔ ∃ d, env[i]? = some (some d) ∧ Qd d mh := by
  unfold vr
  cases env[i]? with
  | none => simp
  | some o => cases o <;> simp
@[simp] theorem wp_kn {d : D} : (kn d env mh).wp Qd E ↔ Qd d mh := wp_ok
@[simp] theorem wp_anil : (anil env mh).wp Ql E ↔ Ql [] mh := wp_ok
@[simp] theorem wp_acons : (acons f fa env mh).wp Ql E ↔ (f env mh).wp (fun d h => (fa env h).wp (fun ds h2 => Ql (d :: ds) h2) E) E := by
  unfold acons; simp
@[simp] theorem wp_un {o : Op1} : (un o f env mh).wp Qd E ↔ (f env mh).wp (fun a h => owp (o a h) Qd) E := by unfold un; simp
@[simp] theorem wp_bi {o : Op2} : (bi o f g env mh).wp Qd E ↔ (f env mh).wp (fun a h => (g env h).wp (fun b h2 => owp (o a b h2) Qd) E) E := by unfold bi; simp
@[simp] theorem wp_ap {o : OpA} : (ap o fa env mh).wp Qd E ↔ (fa env mh).wp (fun as h => owp (o as h) Qd) E := by unfold ap; simp
@[simp] theorem wp_tb : (tb f env mh).wp Qb E ↔ (f env mh).wp (fun a h => ∃ b, a = .bl b ∧ Qb b h) E := wp_bind_iff fun a h => by cases a <;> simp
@[simp] theorem wp_tru : (tru f env mh).wp Qb E ↔ (f env mh).wp (fun a h => ∃ b, truD a h = some b ∧ Qb b h) E := wp_bind_iff fun a h => by cases truD a h <;> simp
theorem wp_ite {α : Type} {c : Prop} [Decidable c] {a b : Res α} {Q : α → MH → Prop} : (if c then a else b).wp Q E ↔ (c → a.wp Q E) ∧ (¬ c → b.wp Q E) := by
  split <;> simp [*]
@[simp] theorem wp_tand : (tand ft gt env mh).wp Qb E ↔ (ft env mh).wp (fun b h => (b = true → (gt env h).wp Qb E) ∧ (b = false → Qb false h)) E := wp_bind_iff fun b h => by cases b <;> simp
@[simp] theorem wp_tor : (tor ft gt env mh).wp Qb E ↔ (ft env mh).wp (fun b h => (b = true → Qb true h) ∧ (b = false → (gt env h).wp Qb E)) E := wp_bind_iff fun b h => by cases b <;> simp
@[simp] theorem wp_tnot : (tnot ft env mh).wp Qb E ↔ (ft env mh).wp (fun b h => Qb (!b) h) E := by unfold tnot; simp
@[simp] theorem wp_yes : (yes env mh).wp Qb E ↔ Qb true mh := wp_ok
@[simp] theorem wp_eand : (eand f g env mh).wp Qd E ↔ (f env mh).wp (fun a h => ∃ b, truD a h = some b ∧ (b = true → (g env h).wp Qd E) ∧ (b = false → Qd a h)) E := wp_bind_iff fun a h => by
  cases truD a h with
  | none => simp
  | some b => cases b <;> simp
@[simp] theorem wp_eor : (eor f g env mh).wp Qd E ↔ (f env mh).wp (fun a h => ∃ b, truD a h = some b ∧ (b = true → Qd a h) ∧ (b = false → (g env h).wp Qd E)) E := wp_bind_iff fun a h => by
  cases truD a h with
  | none => simp
  | some b => cases b <;> simp
@[simp] theorem wp_enot : (enot f env mh).wp Qd E ↔ (f env mh).wp (fun a h => ∃ b, truD a h = some b ∧ Qd (.bl (!b)) h) E := wp_bind_iff fun a h => by cases truD a h <;> simp
@[simp] theorem wp_eif : (eif ft f g env mh).wp Qd E ↔ (ft env mh).wp (fun b h => (b = true → (f env h).wp Qd E) ∧ (b = false → (g env h).wp Qd E)) E := wp_bind_iff fun b h => by cases b <;> simp
theorem wp_if_no {α : Type} {c : Prop} [Decidable c] {a : Res α} {Q : α → MH → Prop} : (if c then a else .no).wp Q E ↔ c ∧ a.wp Q E := by
  by_cases h : c
  · rw [if_pos h]; exact ⟨fun q => ⟨h, q⟩, fun q => q.2⟩
  · rw [if_neg h]; exact ⟨(fun q => nomatch q), fun q => absurd q.1 h⟩
@[simp] theorem wp_cal {n : Nat} {F : Fn} : (cal n F fa env mh).wp Qd E ↔ (fa env mh).wp (fun ds h => ds.length = n ∧ (F ds h).wp Qd E) E := wp_bind_iff fun _ _ => wp_if_no
@[simp] theorem wp_calK {n : Nat} {pm : List Nat} {F : Fn} : (calK n pm F fa env mh).wp Qd E ↔ (fa env mh).wp (fun ds h => ds.length = n ∧ (F (pickD pm ds) h).wp Qd E) E := wp_bind_iff fun _ _ => wp_if_no
@[simp] theorem wp_dtup : (dtup fa env mh).wp Qd E ↔ (fa env mh).wp (fun ds h => ds.length ≤ sizeLine ∧ Qd (.tup ds) h) E := wp_bind_iff fun _ _ => wp_if_no.trans (by simp)
@[simp] theorem wp_dlst : (dlst fa env mh).wp Qd E ↔ (fa env mh).wp (fun ds h => ds.length ≤ sizeLine ∧ Qd (.ref h.length) (h ++ [.lst ds])) E := wp_bind_iff fun _ _ => wp_if_no.trans (by simp)
@[simp] theorem wp_app : (app f g env mh).wp Qd E ↔ (f env mh).wp (fun o h => ∃ n, o = .ref n ∧ (∃ ys, h[n]? = some (.lst ys)) ∧ (g env h).wp (fun d h2 => ∃ xs, h2[n]? = some (.lst xs) ∧ xs.length < sizeLine ∧ Qd .non (h2.set n (.lst (xs ++ [d])))) E) E := wp_bind_iff fun o h => by
  cases o with
  | ref n =>
    simp only [D.ref.injEq, exists_eq_left']
    have inner : ∀ (d : D) (h2 : MH), (match h2[n]? with | some (.lst xs) => if xs.length < sizeLine then Res.ok D.non (h2.set n (.lst (xs ++ [d]))) else .no | _ => .no).wp Qd E ↔ ∃ xs, h2[n]? = some (.lst xs) ∧ xs.length < sizeLine ∧ Qd .non (h2.set n (.lst (xs ++ [d]))) := fun d h2 => by
      cases h2[n]? with
      | none => simp
      | some ob =>
        cases ob with
        | lst xs => exact wp_if_no.trans (by simp)
        | dk _ => simp
        | dt _ => simp
        | lk _ => simp
    cases hn : h[n]? with
    | none => simp
    | some ob =>
      cases ob with
      | lst ys => exact (wp_bind_iff inner).trans (by simp)
      | dk _ => simp
      | dt _ => simp
      | lk _ => simp
  | _ => simp
/-! ### statements -/
variable {s t : MS}
@[simp] theorem wp_nop : (nop env mh).wp O ↔ O.nx env mh := swp_nx
@[simp] theorem wp_brk : (brk env mh).wp O ↔ O.bk env mh := swp_bk
@[simp] theorem wp_cnt : (cnt env mh).wp O ↔ O.ct env mh := swp_ct
@[simp] theorem wp_retN : (retN env mh).wp O ↔ O.rt .non mh := swp_rt
@[simp] theorem wp_sq : (sq s t env mh).wp O ↔ (s env mh).wp { O with nx := fun e h => (t e h).wp O } := by
  unfold sq
  cases s env mh <;> simp
@[simp] theorem wp_sst {i : Nat} : (sst i f env mh).wp O ↔ (f env mh).wp (fun d h => O.nx (env.set i (some d)) h) (fun x h => O.ex x env h) := wp_lift_iff fun _ _ => swp_nx
@[simp] theorem wp_drp : (drp f env mh).wp O ↔ (f env mh).wp (fun d h => O.nx env h) (fun x h => O.ex x env h) := wp_lift_iff fun _ _ => swp_nx
@[simp] theorem wp_ret : (ret f env mh).wp O ↔ (f env mh).wp (fun d h => O.rt d h) (fun x h => O.ex x env h) := wp_lift_iff fun _ _ => swp_rt
@[simp] theorem wp_sif : (sif ft s t env mh).wp O ↔ (ft env mh).wp (fun b h => (b = true → (s env h).wp O) ∧ (b = false → (t env h).wp O)) (fun x h => O.ex x env h) := wp_lift_iff fun b _ => by cases b <;> simp
@[simp] theorem wp_asg {p : Pat} : (asg p f env mh).wp O ↔ (f env mh).wp (fun d h => ∃ e, setP p d env = some e ∧ O.nx e h) (fun x h => O.ex x env h) := wp_lift_iff fun d _ => by cases setP p d env <;> simp
@[simp] theorem wp_setIx {fo fi : ME} : (setIx fo fi f env mh).wp O ↔ (f env mh).wp (fun v h => (fo env h).wp (fun o h2 => (fi env h2).wp (fun i h3 => ∃ n k xs j, o = .ref n ∧ i = .int k ∧ h3[n]? = some (.lst xs) ∧ L2.ixN xs.length k = some j ∧ O.nx env (h3.set n (.lst (xs.set j v)))) (fun x h => O.ex x env h)) (fun x h => O.ex x env h)) (fun x h => O.ex x env h) :=
  wp_lift_iff fun v _ => wp_lift_iff fun o _ => wp_lift_iff fun i h3 => by
    cases o with
    | ref n =>
      cases i with
      | int k =>
        simp only
        cases hn : h3[n]? with
        | none => simp [hn]
        | some ob =>
          cases ob with
          | lst xs =>
            simp only
            cases hj : L2.ixN xs.length k with
            | none => simp [hn, hj]
            | some j => simp [hn, hj]
          | dk _ => simp [hn]
          | dt _ => simp [hn]
          | lk _ => simp [hn]
      | _ => simp
    | _ => simp
@[simp] theorem wp_sfor {fi : MI} {p : Pat} : (sfor fi p s env mh).wp O ↔ (fi env mh).wp (fun it h => (loopF it.chk p s it.items env h).wp O) (fun x h => O.ex x env h) := wp_lift
/-- a loop by what holds ahead of each turn -/
theorem loop_wp {chk : MH → Bool} {p : Pat} {ds : List D} (I : Nat → Nv → MH → Prop) (h0 : I 0 env mh)
    (hs : ∀ i d env mh, ds[i]? = some d → I i env mh → chk mh = true ∧ ∃ e, setP p d env = some e ∧ (s e mh).wp { nx := I (i + 1), ct := I (i + 1), bk := O.nx, rt := O.rt, ex := O.ex })
    (hd : ∀ env mh, I ds.length env mh → chk mh = true ∧ O.nx env mh) : (loopF chk p s ds env mh).wp O := by
  have go : ∀ (rest : List D) (i : Nat) (env : Nv) (mh : MH), (∀ k, rest[k]? = ds[i + k]?) → i + rest.length = ds.length → I i env mh → (loopF chk p s rest env mh).wp O := by
    intro rest
    induction rest with
    | nil =>
      intro i env mh _ hl hi
      have e : i = ds.length := by simpa using hl
      subst e
      obtain ⟨h1, h2⟩ := hd _ _ hi
      unfold loopF
      rw [if_pos h1]; exact .nx h2
    | cons d rest ih =>
      intro i env mh hr hl hi
      have hd0 : ds[i]? = some d := by have := hr 0; simpa using this.symm
      obtain ⟨h1, e, h2, h3⟩ := hs i d env mh hd0 hi
      have next : ∀ env mh, I (i + 1) env mh → (loopF chk p s rest env mh).wp O := fun env mh q => ih (i + 1) env mh (fun k => by have := hr (k + 1); rw [List.getElem?_cons_succ] at this; rw [this]; congr 1; omega) (by simp at hl; omega) q
      unfold loopF
      rw [if_pos h1, h2]
      simp only
      cases hb : s e mh with
      | nx e2 m2 => rw [hb] at h3; exact next _ _ (swp_nx.mp h3)
      | ct e2 m2 => rw [hb] at h3; exact next _ _ (swp_ct.mp h3)
      | bk e2 m2 => rw [hb] at h3; exact .nx (by simpa using h3)
      | rt d2 m2 => rw [hb] at h3; exact .rt (by simpa using h3)
      | ex x e2 m2 => rw [hb] at h3; exact .ex (by simpa using h3)
      | no => rw [hb] at h3; exact nomatch h3
  exact go ds 0 env mh (fun k => by rw [Nat.zero_add]) (by simp) h0
/-- a while by what holds ahead of each turn and a number that falls -/
theorem while_wp {n : Nat} (I : Nat → Nv → MH → Prop) (m0 : Nat) (hm : m0 < n) (h0 : I m0 env mh)
    (hs : ∀ m env mh, I m env mh → (ft env mh).wp (fun b h => (b = true → (s env h).wp { nx := fun e h => ∃ m', m' < m ∧ I m' e h, ct := fun e h => ∃ m', m' < m ∧ I m' e h, bk := O.nx, rt := O.rt, ex := O.ex }) ∧ (b = false → O.nx env h)) (fun x h => O.ex x env h)) :
    (whl ft s n env mh).wp O := by
  induction n generalizing m0 env mh with
  | zero => omega
  | succ n ih =>
    unfold whl
    rw [wp_lift]
    refine Res.wp_mono (hs m0 env mh h0) (fun b h q => ?_) fun _ _ q => q
    cases b with
    | false => exact .nx (q.2 rfl)
    | true =>
      have q := q.1 rfl
      simp only [if_true]
      cases hb : s env h with
      | nx e2 m2 => rw [hb] at q; obtain ⟨m', lt, q⟩ := swp_nx.mp q; exact ih m' (by omega) q
      | ct e2 m2 => rw [hb] at q; obtain ⟨m', lt, q⟩ := swp_ct.mp q; exact ih m' (by omega) q
      | bk e2 m2 => rw [hb] at q; exact .nx (by simpa using q)
      | rt d2 m2 => rw [hb] at q; exact .rt (by simpa using q)
      | ex x e2 m2 => rw [hb] at q; exact .ex (by simpa using q)
      | no => rw [hb] at q; exact nomatch q
@[simp] theorem wp_runF {n : Nat} {ds : List D} : (runF n s ds mh).wp Qd E ↔ (s (ds.map some ++ List.replicate (n - ds.length) none) mh).wp { nx := fun _ h => Qd .non h, rt := Qd, bk := fun _ _ => False, ct := fun _ _ => False, ex := fun x _ h => E x h } := by
  unfold runF
  cases s (ds.map some ++ List.replicate (n - ds.length) none) mh <;> simp
/-! ### comprehensions -/
theorem wp_nox {r : Res α} : r.nox.wp Q E ↔ r.wp Q (fun _ _ => False) := by
  cases r <;> simp [Res.nox]
@[simp] theorem wp_lc {fi : MI} {p : Pat} {vs : List Nat} : (lc fi p ft f vs env mh).wp Qd E ↔ (fi env mh).wp (fun it h => (loopC h.length it.chk p ft f (wipeD env vs) it.items (h ++ [.lst []])).wp Qd E) E := by
  unfold lc; rw [wp_bind]
/-- a comprehension by what holds ahead of each turn: acc the list so far -/
theorem comp_wp {n : Nat} {chk : MH → Bool} {p : Pat} {ds : List D} (I : Nat → List D → MH → Prop) (acc0 : List D) (hacc : mh[n]? = some (.lst acc0)) (h0 : I 0 acc0 mh)
    (hI : ∀ i acc mh, I i acc mh → mh[n]? = some (.lst acc))
    (hs : ∀ i d acc mh, ds[i]? = some d → I i acc mh → chk mh = true ∧ ∃ e, setP p d env = some e ∧ (ft e mh).wp (fun b h => (b = true → (f e h).wp (fun y h2 => h2[n]? = some (.lst acc) ∧ acc.length < sizeLine ∧ I (i + 1) (acc ++ [y]) (h2.set n (.lst (acc ++ [y])))) fun _ _ => False) ∧ (b = false → I (i + 1) acc h)) fun _ _ => False)
    (hd : ∀ acc mh, I ds.length acc mh → chk mh = true ∧ Qd (.ref n) mh) : (loopC n chk p ft f env ds mh).wp Qd E := by
  have go : ∀ (rest : List D) (i : Nat) (acc : List D) (mh : MH), (∀ k, rest[k]? = ds[i + k]?) → i + rest.length = ds.length → I i acc mh → (loopC n chk p ft f env rest mh).wp Qd E := by
    intro rest
    induction rest with
    | nil =>
      intro i acc mh _ hl hi
      have e : i = ds.length := by simpa using hl
      subst e
      obtain ⟨h1, h2⟩ := hd _ _ hi
      unfold loopC
      rw [if_pos h1]; exact .ok h2
    | cons d rest ih =>
      intro i acc mh hr hl hi
      have hd0 : ds[i]? = some d := by have := hr 0; simpa using this.symm
      obtain ⟨h1, e, h2, h3⟩ := hs i d acc mh hd0 hi
      have next : ∀ acc mh, I (i + 1) acc mh → (loopC n chk p ft f env rest mh).wp Qd E := fun acc mh q => ih (i + 1) acc mh (fun k => by have := hr (k + 1); rw [List.getElem?_cons_succ] at this; rw [this]; congr 1; omega) (by simp at hl; omega) q
      unfold loopC
      rw [if_pos h1, h2]
      simp only
      rw [wp_bind, wp_nox]
      refine Res.wp_mono h3 (fun b h q => ?_) fun _ _ q => q.elim
      cases b with
      | false => exact next _ _ (q.2 rfl)
      | true =>
        simp only [if_true]
        rw [wp_bind, wp_nox]
        refine Res.wp_mono (q.1 rfl) (fun y h2 q2 => ?_) fun _ _ q => q.elim
        obtain ⟨a1, a2, a3⟩ := q2
        simp only [a1, if_pos a2]
        exact next _ _ a3
  exact go ds 0 acc0 mh (fun k => by rw [Nat.zero_add]) (by simp) h0
end
end Det
/-! Det, part T: the laws' pool; operations on known data. -/
namespace Det
open PySem
/-- nothing that stood is changed, but what is at p -/
def Fr (p : Nat) (mh mh' : MH) : Prop := mh.length ≤ mh'.length ∧ ∀ n, n < mh.length → n ≠ p → mh'[n]? = mh[n]?
theorem Fr.refl (p : Nat) (mh : MH) : Fr p mh mh := ⟨Nat.le_refl _, fun _ _ _ => rfl⟩
theorem Fr.trans {p : Nat} {a b c : MH} (h : Fr p a b) (k : Fr p b c) : Fr p a c := ⟨Nat.le_trans h.1 k.1, fun n hn hp => (k.2 n (Nat.lt_of_lt_of_le hn h.1) hp).trans (h.2 n hn hp)⟩
theorem Fr.get {p n : Nat} {a b : MH} {o : Ob} (h : Fr p a b) (e : a[n]? = some o) (hp : n ≠ p) : b[n]? = some o := (h.2 n (List.getElem?_eq_some_iff.mp e).1 hp).trans e
theorem Fr.push (p : Nat) (mh : MH) (o : Ob) : Fr p mh (mh ++ [o]) := ⟨by simp, fun n hn _ => List.getElem?_append_left hn⟩
theorem Fr.set (p : Nat) (mh : MH) (o : Ob) : Fr p mh (mh.set p o) := ⟨by simp, fun n _ hp => List.getElem?_set_ne (Ne.symm hp)⟩
/-- what was laid since a may change -/
theorem Fr.new {p n : Nat} {a b : MH} {o : Ob} (h : Fr p a b) (hn : a.length ≤ n) : Fr p a (b.set n o) := ⟨by simpa using h.1, fun m hm hp => by rw [List.getElem?_set_ne (by omega)]; exact h.2 m hm hp⟩
theorem Fr.add {p : Nat} {a b : MH} {o : Ob} (h : Fr p a b) : Fr p a (b ++ [o]) := h.trans (Fr.push p b o)
/-- the pool at p: its counts, its cells -/
def PoolAt (p : Nat) (mh : MH) : Prop := ∃ (a b c : Int) (q : Nat) (cells : List Int), mh[p]? = some (.lst [.int a, .int b, .int c, .ref q]) ∧ mh[q]? = some (.lst (cells.map .int)) ∧ q ≠ p ∧ 0 ≤ c ∧ cells.length ≤ 63
theorem PoolAt.lt {p : Nat} {mh : MH} (h : PoolAt p mh) : p < mh.length := by
  obtain ⟨_, _, _, _, _, h, _⟩ := h
  exact (List.getElem?_eq_some_iff.mp h).1
/-- the pool stands while other things are laid or changed -/
theorem PoolAt.push {p : Nat} {mh : MH} (h : PoolAt p mh) (o : Ob) : PoolAt p (mh ++ [o]) := by
  obtain ⟨a, b, c, q, cells, h1, h2, h3⟩ := h
  exact ⟨a, b, c, q, cells, by rw [List.getElem?_append_left (List.getElem?_eq_some_iff.mp h1).1]; exact h1, by rw [List.getElem?_append_left (List.getElem?_eq_some_iff.mp h2).1]; exact h2, h3⟩
/-- the pool and its cells are older than n -/
def PoolB (p n : Nat) (mh : MH) : Prop := p < n ∧ ∃ (a b c : Int) (q : Nat) (cells : List Int), q < n ∧ mh[p]? = some (.lst [.int a, .int b, .int c, .ref q]) ∧ mh[q]? = some (.lst (cells.map .int)) ∧ q ≠ p ∧ 0 ≤ c ∧ cells.length ≤ 63
theorem PoolB.push {p n : Nat} {mh : MH} (h : PoolB p n mh) (o : Ob) : PoolB p n (mh ++ [o]) := by
  obtain ⟨hp, a, b, c, q, cells, hq, h1, h2, h3⟩ := h
  exact ⟨hp, a, b, c, q, cells, hq, by rw [List.getElem?_append_left (List.getElem?_eq_some_iff.mp h1).1]; exact h1, by rw [List.getElem?_append_left (List.getElem?_eq_some_iff.mp h2).1]; exact h2, h3⟩
theorem PoolB.set {p n m : Nat} {mh : MH} (h : PoolB p n mh) (o : Ob) (hm : n ≤ m) : PoolB p n (mh.set m o) := by
  obtain ⟨hp, a, b, c, q, cells, hq, h1, h2, h3⟩ := h
  exact ⟨hp, a, b, c, q, cells, hq, by rw [List.getElem?_set_ne (by omega)]; exact h1, by rw [List.getElem?_set_ne (by omega)]; exact h2, h3⟩
theorem PoolB.mono {p n m : Nat} {mh : MH} (h : PoolB p n mh) (hm : n ≤ m) : PoolB p m mh := by
  obtain ⟨hp, a, b, c, q, cells, hq, r⟩ := h
  exact ⟨by omega, a, b, c, q, cells, by omega, r⟩
/-! ### operations on what is known -/
section
variable {mh : MH} {Q : D → MH → Prop} {i j : Int} {x y : Str} {xs ys : List D} {n : Nat}
@[simp] theorem o_add_i : oAdd (.int i) (.int j) mh = some (.int (i + j), mh) := rfl
@[simp] theorem o_sub_i : oSub (.int i) (.int j) mh = some (.int (i - j), mh) := rfl
@[simp] theorem o_eq_i : oEq (.int i) (.int j) mh = some (.bl (i == j), mh) := rfl
@[simp] theorem o_ne_i : oNe (.int i) (.int j) mh = some (.bl (!(i == j)), mh) := rfl
@[simp] theorem o_eq_s : oEq (.str x) (.str y) mh = some (.bl (x == y), mh) := rfl
@[simp] theorem o_ne_s : oNe (.str x) (.str y) mh = some (.bl (!(x == y)), mh) := rfl
@[simp] theorem o_int : oInt [.int i] mh = some (.int i, mh) := rfl
@[simp] theorem o_mod : owp (oMod (.int i) (.int j) mh) Q ↔ j ≠ 0 ∧ Q (.int (i.fmod j)) mh := by
  simp only [oMod]
  by_cases h : j ≠ 0
  · rw [if_pos h]; simp [h]
  · rw [if_neg h]; simp [h]
@[simp] theorem o_fdiv : owp (oFdiv (.int i) (.int j) mh) Q ↔ (j ≠ 0 ∧ j.natAbs < 1073741824) ∧ Q (.int (i.fdiv j)) mh := by
  simp only [oFdiv]
  by_cases h : j ≠ 0 ∧ j.natAbs < 1073741824
  · rw [if_pos h]; simp [h]
  · rw [if_neg h]; simp [h]
theorem owp_if {α : Type} {c : Prop} [Decidable c] {o : Option (α × MH)} {Q : α → MH → Prop} : owp (if c then o else none) Q ↔ c ∧ owp o Q := by
  by_cases h : c
  · rw [if_pos h]; exact ⟨fun q => ⟨h, q⟩, fun q => q.2⟩
  · rw [if_neg h]; exact ⟨(fun q => nomatch q), fun q => absurd q.1 h⟩
theorem o_mul : owp (oMulX (.int i) (.int j) mh) Q ↔ (((-(2 ^ 64) < i ∧ i < 2 ^ 64) ∨ (-(2 ^ 64) < j ∧ j < 2 ^ 64)) ∨ i.natAbs.log2 + j.natAbs.log2 < 1000000) ∧ Q (.int (i * j)) mh := by
  show owp (if _ then _ else none) Q ↔ _
  rw [owp_if, owp_some]
/-- * by a small number -/
theorem o_mul_r (h : -(2 ^ 64) < j ∧ j < 2 ^ 64) : owp (oMulX (.int i) (.int j) mh) Q ↔ Q (.int (i * j)) mh := by
  rw [o_mul]; exact ⟨fun q => q.2, fun q => ⟨.inl (.inr h), q⟩⟩
theorem o_mul_l (h : -(2 ^ 64) < i ∧ i < 2 ^ 64) : owp (oMulX (.int i) (.int j) mh) Q ↔ Q (.int (i * j)) mh := by
  rw [o_mul]; exact ⟨fun q => q.2, fun q => ⟨.inl (.inl h), q⟩⟩
@[simp] theorem o_pow (k : Int) : owp (oPow (.int i) (.int k) mh) Q ↔ (0 ≤ k ∧ k ≤ 1000000 ∧ i.natAbs < 2 ^ 64) ∧ Q (.int (i ^ k.toNat)) mh := by
  simp only [oPow]
  split
  · rename_i h; simp [h]
  · rename_i h; simp [h]
@[simp] theorem o_shl (k : Int) : owp (oShl (.int i) (.int k) mh) Q ↔ (0 ≤ k ∧ k ≤ 1000000 ∧ i.natAbs < 2 ^ 64) ∧ Q (.int (i * 2 ^ k.toNat)) mh := by
  simp only [oShl]
  split
  · rename_i h; simp [h]
  · rename_i h; simp [h]
@[simp] theorem o_lt_i : oLt (.int i) (.int j) mh = some (.bl (decide (i < j)), mh) := rfl
@[simp] theorem o_le_i : oLe (.int i) (.int j) mh = some (.bl (decide (i ≤ j)), mh) := rfl
@[simp] theorem o_gt_i : oGt (.int i) (.int j) mh = some (.bl (decide (i > j)), mh) := rfl
@[simp] theorem o_ge_i : oGe (.int i) (.int j) mh = some (.bl (decide (i ≥ j)), mh) := rfl
/-- the items of what is read -/
theorem o_ix {c : D} {ds : List D} {d : D} (h : itemsD mh c = some ds) (ha : L2.atI ds i = some d) : oIx c (.int i) mh = some (d, mh) := by
  cases c with
  | str z => simp [itemsD] at h
  | _ => simp [oIx, h, ha]
theorem o_ix_s {c : Nat} (hz : x.length ≤ sizeLine) (ha : L2.atI x.cps.toList i = some c) : oIx (.str x) (.int i) mh = some (.str ⟨#[c]⟩, mh) := by
  simp [oIx, hz, ha]
@[simp] theorem it_tup : itemsD mh (.tup xs) = some xs := rfl
@[simp] theorem it_rol : itemsD mh (.rol xs) = some xs := rfl
theorem it_ref (h : mh[n]? = some (.lst xs)) : itemsD mh (.ref n) = some xs := by simp [itemsD, h]
theorem atI_nat {α : Type} {l : List α} {k : Nat} : L2.atI l (k : Int) = l[k]? := by
  unfold L2.atI L2.ixN
  rw [if_pos (Int.natCast_nonneg k)]
  by_cases h : k < l.length
  · rw [if_pos (by exact_mod_cast h)]; rfl
  · rw [if_neg (by exact_mod_cast h)]; rw [List.getElem?_eq_none (by omega)]; rfl
theorem atI_of {α : Type} {l : List α} {k : Int} (h0 : 0 ≤ k) (h1 : k < l.length) : ∃ a, L2.atI l k = some a ∧ a ∈ l ∧ l[k.toNat]? = some a := by
  obtain ⟨m, rfl⟩ := Int.eq_ofNat_of_zero_le h0
  have hm : m < l.length := by exact_mod_cast h1
  exact ⟨l[m], by rw [atI_nat]; simp [hm], List.getElem_mem hm, by simp [hm]⟩
theorem ixN_of {n : Nat} {k : Int} (h0 : 0 ≤ k) (h1 : k < n) : L2.ixN n k = some k.toNat := by
  unfold L2.ixN; rw [if_pos h0, if_pos h1]
end
section
variable {mh : MH} {Q : D → MH → Prop} {i j : Int} {x y : Str} {xs ys : List D} {n : Nat}
@[simp] theorem ix_ref : owp (oIx (.ref n) (.int i) mh) Q ↔ ∃ xs, mh[n]? = some (.lst xs) ∧ ∃ d, L2.atI xs i = some d ∧ Q d mh := by
  simp only [oIx, itemsD]
  cases h : mh[n]? with
  | none => simp
  | some o =>
    cases o with
    | lst xs =>
      simp only [Option.some.injEq, Ob.lst.injEq, exists_eq_left']
      cases L2.atI xs i <;> simp
    | dk _ => simp
    | dt _ => simp
    | lk _ => simp
@[simp] theorem ix_tup : owp (oIx (.tup xs) (.int i) mh) Q ↔ ∃ d, L2.atI xs i = some d ∧ Q d mh := by
  simp only [oIx, itemsD]
  cases L2.atI xs i <;> simp
@[simp] theorem ix_rol : owp (oIx (.rol xs) (.int i) mh) Q ↔ ∃ d, L2.atI xs i = some d ∧ Q d mh := by
  simp only [oIx, itemsD]
  cases L2.atI xs i <;> simp
@[simp] theorem ix_str : owp (oIx (.str x) (.int i) mh) Q ↔ x.length ≤ sizeLine ∧ ∃ c, L2.atI x.cps.toList i = some c ∧ Q (.str ⟨#[c]⟩) mh := by
  simp only [oIx]
  rw [owp_if]
  cases L2.atI x.cps.toList i <;> simp
@[simp] theorem len_ref : owp (oLen [.ref n] mh) Q ↔ (∃ xs, mh[n]? = some (.lst xs) ∧ Q (.int (xs.length : Nat)) mh) ∨ (∃ xs, mh[n]? = some (.dk xs) ∧ Q (.int (xs.length : Nat)) mh) := by
  simp only [oLen, lenD]
  cases h : mh[n]? with
  | none => simp
  | some o => cases o <;> simp
@[simp] theorem len_tup : oLen [.tup xs] mh = some (.int (xs.length : Nat), mh) := rfl
@[simp] theorem len_rol : oLen [.rol xs] mh = some (.int (xs.length : Nat), mh) := rfl
@[simp] theorem len_str : owp (oLen [.str x] mh) Q ↔ x.length ≤ sizeLine ∧ Q (.int (x.length : Nat)) mh := by
  simp only [oLen, lenD]
  split
  · rename_i h; simp [h]
  · rename_i h; simp [h]
end
/-- atI on a written list -/
@[simp] theorem atI_0 {α : Type} {a : α} {l : List α} : L2.atI (a :: l) 0 = some a := by
  have := atI_nat (l := a :: l) (k := 0); simpa using this
theorem atI_s {α : Type} {a : α} {l : List α} {k : Nat} : L2.atI (a :: l) ((k + 1 : Nat) : Int) = L2.atI l (k : Nat) := by
  rw [atI_nat, atI_nat]; simp
@[simp] theorem atI_1 {α : Type} {a b : α} {l : List α} : L2.atI (a :: b :: l) 1 = some b := by
  have := atI_nat (l := a :: b :: l) (k := 1); simpa using this
@[simp] theorem atI_2 {α : Type} {a b c : α} {l : List α} : L2.atI (a :: b :: c :: l) 2 = some c := by
  have := atI_nat (l := a :: b :: c :: l) (k := 2); simpa using this
@[simp] theorem atI_3 {α : Type} {a b c d : α} {l : List α} : L2.atI (a :: b :: c :: d :: l) 3 = some d := by
  have := atI_nat (l := a :: b :: c :: d :: l) (k := 3); simpa using this
@[simp] theorem ixN_0 {n : Nat} : L2.ixN (n + 1) 0 = some 0 := by unfold L2.ixN; simp
@[simp] theorem ixN_1 {n : Nat} : L2.ixN (n + 1 + 1) 1 = some 1 := by unfold L2.ixN; simp; omega
@[simp] theorem ixN_2 {n : Nat} : L2.ixN (n + 1 + 1 + 1) 2 = some 2 := by unfold L2.ixN; simp; omega
@[simp] theorem ixN_3 {n : Nat} : L2.ixN (n + 1 + 1 + 1 + 1) 3 = some 3 := by unfold L2.ixN; simp; omega
theorem fmod_bd {i j : Int} (h : 0 < j) : 0 ≤ i.fmod j ∧ i.fmod j < j := ⟨Int.fmod_nonneg_of_pos i h, Int.fmod_lt_of_pos i h⟩
end Det
/-! Det, part U: sorted lists of texts; more operations on known data. -/
namespace Det
open PySem
/-! ### the order of texts -/
def leS (a b : Str) : Bool := decide (a.cps.toList ≤ b.cps.toList)
theorem leS_refl (a : Str) : leS a a = true := by unfold leS; simp
theorem leS_trans {a b c : Str} (h : leS a b = true) (k : leS b c = true) : leS a c = true := by
  unfold leS at *
  rw [decide_eq_true_eq] at *
  exact List.le_trans h k
theorem leS_total (a b : Str) : (leS a b || leS b a) = true := by
  unfold leS
  rw [Bool.or_eq_true, decide_eq_true_eq, decide_eq_true_eq]
  exact List.le_total _ _
theorem leS_anti {a b : Str} (h : leS a b = true) (k : leS b a = true) : a = b := by
  unfold leS at *
  rw [decide_eq_true_eq] at *
  have e := List.le_antisymm h k
  cases a; cases b
  simp only [Str.mk.injEq]
  exact Array.toList_inj.mp e
theorem ltS_iff (a b : Str) : ltS a b = !leS b a := by
  unfold ltS leS
  by_cases h : a.cps.toList < b.cps.toList
  · have h' : ¬ b.cps.toList ≤ a.cps.toList := fun q => List.not_lt.mpr q h
    simp [h, h']
  · have h' : b.cps.toList ≤ a.cps.toList := List.not_lt.mp h
    simp [h, h']
section
variable {α β : Type} {le : α → α → Bool}
theorem ins_map (f : β → α) (b : β) : ∀ l : List β, ins le (f b) (l.map f) = (ins (fun x y => le (f x) (f y)) b l).map f
  | [] => rfl
  | c :: l => by
    simp only [List.map_cons, ins]
    split
    · rfl
    · simp [ins_map f b l]
theorem isort_map (f : β → α) : ∀ l : List β, isort le (l.map f) = (isort (fun x y => le (f x) (f y)) l).map f
  | [] => rfl
  | b :: l => by simp only [List.map_cons, isort]; rw [isort_map f l, ins_map]
theorem ins_sorted (tr : ∀ a b c, le a b = true → le b c = true → le a c = true) (to : ∀ a b, (le a b || le b a) = true) (a : α) : ∀ l : List α, l.Pairwise (fun x y => le x y = true) → (ins le a l).Pairwise (fun x y => le x y = true)
  | [], _ => by simp [ins]
  | b :: l, h => by
    obtain ⟨h1, h2⟩ := List.pairwise_cons.mp h
    unfold ins
    split
    · rename_i hab
      refine List.pairwise_cons.mpr ⟨fun x hx => ?_, h⟩
      rcases List.mem_cons.mp hx with rfl | hx
      · exact hab
      · exact tr _ _ _ hab (h1 x hx)
    · rename_i hab
      have hba : le b a = true := by
        have := to a b
        rw [Bool.or_eq_true] at this
        exact this.resolve_left hab
      refine List.pairwise_cons.mpr ⟨fun x hx => ?_, ins_sorted tr to a l h2⟩
      rcases List.mem_cons.mp ((ins_perm a l).mem_iff.mp hx) with rfl | hx
      · exact hba
      · exact h1 x hx
theorem isort_sorted (tr : ∀ a b c, le a b = true → le b c = true → le a c = true) (to : ∀ a b, (le a b || le b a) = true) : ∀ l : List α, (isort le l).Pairwise (fun x y => le x y = true)
  | [] => List.Pairwise.nil
  | a :: l => ins_sorted tr to a _ (isort_sorted tr to l)
theorem isort_of_sorted : ∀ l : List α, l.Pairwise (fun x y => le x y = true) → isort le l = l
  | [], _ => rfl
  | a :: l, h => by
    obtain ⟨h1, h2⟩ := List.pairwise_cons.mp h
    show ins le a (isort le l) = _
    rw [isort_of_sorted l h2]
    cases l with
    | nil => rfl
    | cons b l => unfold ins; rw [if_pos (h1 b List.mem_cons_self)]
end
/-- sorted lists of the same members, each once, are one -/
theorem sorted_one {l₁ l₂ : List Str} (s1 : l₁.Pairwise (fun x y => leS x y = true)) (s2 : l₂.Pairwise (fun x y => leS x y = true)) (n1 : l₁.Nodup) (n2 : l₂.Nodup) (h : ∀ a, a ∈ l₁ ↔ a ∈ l₂) : l₁ = l₂ := by
  have p : l₁.Perm l₂ := (List.perm_ext_iff_of_nodup n1 n2).mpr h
  rw [← isort_of_sorted l₁ s1, ← isort_of_sorted l₂ s2]
  exact isort_perm (le := leS) (fun a b c h k => leS_trans h k) leS_total p fun a _ b _ h k => leS_anti h k
/-! ### the lot of a list of texts: sorted, each once -/
def dd (ys : List Str) : List Str → List Str
  | [] => ys
  | x :: xs => dd (if x ∈ ys then ys else ys ++ [x]) xs
theorem addKs_str : ∀ (xs ys : List Str), addKs (ys.map .inr) (xs.map .inr) = (dd ys xs).map .inr
  | [], ys => rfl
  | x :: xs, ys => by
    show addKs (addK (ys.map .inr) (.inr x)) (xs.map .inr) = _
    have e : addK (ys.map .inr) (.inr x) = ((if x ∈ ys then ys else ys ++ [x]).map .inr : List L2.Key) := by
      unfold addK
      by_cases h : x ∈ ys
      · rw [if_pos (List.mem_map.mpr ⟨x, h, rfl⟩), if_pos h]
      · rw [if_neg (fun z => by obtain ⟨y, hy, e⟩ := List.mem_map.mp z; cases e; exact h hy), if_neg h]; simp
    rw [e, addKs_str xs]
    rfl
theorem dd_mem : ∀ (xs ys : List Str) (a : Str), a ∈ dd ys xs ↔ a ∈ ys ∨ a ∈ xs
  | [], ys, a => by simp [dd]
  | x :: xs, ys, a => by
    unfold dd
    rw [dd_mem xs]
    split
    · rename_i h
      constructor
      · rintro (q | q)
        · exact .inl q
        · exact .inr (List.mem_cons_of_mem _ q)
      · rintro (q | q)
        · exact .inl q
        · rcases List.mem_cons.mp q with rfl | q
          · exact .inl h
          · exact .inr q
    · simp [or_assoc]
theorem dd_nodup : ∀ (xs ys : List Str), ys.Nodup → (dd ys xs).Nodup
  | [], ys, h => h
  | x :: xs, ys, h => by
    unfold dd
    refine dd_nodup xs _ ?_
    split
    · exact h
    · rename_i hx
      rw [List.nodup_append]
      exact ⟨h, by simp, fun a ha b hb e => by rw [List.mem_singleton] at hb; subst hb; subst e; exact hx ha⟩
def lotS (xs : List Str) : List Str := isort leS (dd [] xs)
theorem lotS_sorted (xs : List Str) : (lotS xs).Pairwise (fun x y => leS x y = true) := isort_sorted (le := leS) (fun a b c h k => leS_trans h k) leS_total _
theorem lotS_nodup (xs : List Str) : (lotS xs).Nodup := (isort_perm_self _).nodup_iff.mpr (dd_nodup xs [] List.nodup_nil)
theorem lotS_mem (xs : List Str) (a : Str) : a ∈ lotS xs ↔ a ∈ xs := by
  unfold lotS
  rw [(isort_perm_self _).mem_iff, dd_mem]; simp
theorem lotS_one {l xs : List Str} (s : l.Pairwise (fun x y => leS x y = true)) (n : l.Nodup) (h : ∀ a, a ∈ l ↔ a ∈ xs) : l = lotS xs := sorted_one s (lotS_sorted xs) n (lotS_nodup xs) fun a => (h a).trans (lotS_mem xs a).symm
theorem lotS_congr {xs ys : List Str} (h : ∀ a, a ∈ xs ↔ a ∈ ys) : lotS xs = lotS ys := lotS_one (lotS_sorted xs) (lotS_nodup xs) fun a => (lotS_mem xs a).trans (h a)
theorem lotS_lotS (xs : List Str) : lotS (lotS xs) = lotS xs := lotS_congr fun a => lotS_mem xs a
theorem keysOf_strs : ∀ xs : List Str, keysOf (xs.map .str) = some (xs.map .inr)
  | [] => rfl
  | x :: xs => by simp [keysOf, keysOf_strs xs, dKey]
theorem leK_leS : (fun x y : Str => leK (.inr x) (.inr y)) = leS := by
  funext x y; rw [leK_str]; rfl
theorem evenK_strs (xs : List Str) : evenK (xs.map .inr) = true := by
  unfold evenK
  rw [Bool.or_eq_true]
  refine .inr ?_
  rw [List.all_map]
  exact List.all_eq_true.mpr fun _ _ => rfl
/-- sorted(set(texts)) -/
theorem o_sset {c : D} {mh : MH} {xs : List Str} (h : itemsD mh c = some (xs.map .str)) (hl : xs.length ≤ 4000) : oSSet c mh = some (.ref mh.length, mh ++ [.lst ((lotS xs).map .str)]) := by
  unfold oSSet
  rw [h]
  simp only [keysOf_strs]
  rw [show addKs [] (xs.map .inr) = (dd [] xs).map .inr from addKs_str xs []]
  rw [if_pos ⟨by rw [List.length_map]; omega, evenK_strs _⟩, isort_map, leK_leS, List.map_map]
  rfl
theorem leD_str : (fun x y : Str => leD (.str x) (.str y)) = leS := by
  funext x y
  exact congrFun (congrFun (PySem.W.dataLe_str (fun x : Str => x)) x) y
theorem okSort_strs (xs : List Str) (h : xs.length ≤ sizeLine) : okSort (xs.map .str) = true := by
  unfold okSort
  rw [Bool.and_eq_true, Bool.and_eq_true, Bool.and_eq_true]
  refine ⟨⟨⟨?_, ?_⟩, ?_⟩, by rw [List.length_map]; exact decide_eq_true h⟩
  · rw [List.all_map]
    exact List.all_eq_true.mpr fun x _ => by simp [datD, datP, PyData.depth]
  · rw [List.all_map]
    refine List.all_eq_true.mpr fun x _ => ?_
    show (xs.map D.str).all _ = true
    rw [List.all_map]
    exact List.all_eq_true.mpr fun y _ => by simp [datD, datP, PySem.W.alike]
  · rw [Bool.or_eq_true]
    refine .inr ?_
    rw [List.all_map]
    exact List.all_eq_true.mpr fun x _ => by simp [datD, datP, notT]
theorem o_sorted_s {c : D} {mh : MH} {xs : List Str} (h : itemsD mh c = some (xs.map .str)) (hl : xs.length ≤ sizeLine) : oSorted [c] mh = some (.ref mh.length, mh ++ [.lst ((isort leS xs).map .str)]) := by
  unfold oSorted
  simp only [h, okSort_strs xs hl, if_true, isort_map, leD_str]
end Det
/-! Det, part V: what is walked, texts, built-ins on known data. -/
namespace Det
open PySem
section
variable {mh : MH} {env : Nv} {E : Exn → MH → Prop} {f g : ME} {Qi : ItD → MH → Prop} {Q : D → MH → Prop} {n : Nat} {xs ys : List D} {x y : Str}
@[simp] theorem wp_range1 : (range1 f env mh).wp Qi E ↔ (f env mh).wp (fun d h => ∃ j, d = .int j ∧ okB j = true ∧ Qi ⟨rgD 0 j.toNat, fun _ => true⟩ h) E := wp_bind_iff fun d h => by
  cases d with
  | int j => exact wp_if_no.trans (by simp)
  | _ => simp
@[simp] theorem wp_range2 : (range2 f g env mh).wp Qi E ↔ (f env mh).wp (fun d h => (g env h).wp (fun e h2 => ∃ i j, d = .int i ∧ e = .int j ∧ (okB i = true ∧ okB j = true) ∧ Qi ⟨rgD i (j - i).toNat, fun _ => true⟩ h2) E) E := wp_bind_iff fun d h => wp_bind_iff fun e h2 => by
  cases d with
  | int i =>
    cases e with
    | int j => exact wp_if_no.trans (by simp)
    | _ => simp
  | _ => cases e <;> simp
theorem okB_of {i : Int} (h1 : -1000000000000 ≤ i) (h2 : i ≤ 1000000000000) : okB i = true := by
  unfold okB
  rw [decide_eq_true_eq]
  omega
@[simp] theorem rgD_len {lo : Int} : (rgD lo n).length = n := by simp [rgD]
theorem rgD_get {lo : Int} {i : Nat} {d : D} (h : (rgD lo n)[i]? = some d) : i < n ∧ d = .int (lo + (i : Nat)) := by
  have hi := (List.getElem?_eq_some_iff.mp h).1
  rw [rgD_len] at hi
  refine ⟨hi, ?_⟩
  simp [rgD, hi] at h
  exact h.symm
@[simp] theorem wp_iter : (iter f env mh).wp Qi E ↔ (f env mh).wp (fun d h => ∃ it, itD d h = some it ∧ Qi it h) E := wp_bind_iff fun d h => by cases itD d h <;> simp
@[simp] theorem itD_tup : itD (.tup xs) mh = some ⟨xs, fun _ => true⟩ := rfl
@[simp] theorem itD_rol : itD (.rol xs) mh = some ⟨xs, fun _ => true⟩ := rfl
@[simp] theorem itD_str : itD (.str x) mh = some ⟨sigs x, fun _ => true⟩ := rfl
theorem itD_ref (h : mh[n]? = some (.lst xs)) : itD (.ref n) mh = some ⟨xs, lstIs n xs⟩ := by simp [itD, h]
theorem lstIs_of (h : mh[n]? = some (.lst xs)) : lstIs n xs mh = true := by simp [lstIs, h]
def enD (d : D) (mh : MH) : Option ItD := match d with
  | .tup xs => some ⟨enF 0 xs, fun _ => true⟩
  | .rol xs => some ⟨enF 0 xs, fun _ => true⟩
  | .ref n => match mh[n]? with
    | some (.lst xs) => some ⟨enF 0 xs, lstIs n xs⟩
    | _ => none
  | _ => none
theorem enm_eq : enm f env mh = (f env mh).bind fun d m => match enD d m with | some it => .ok it m | none => .no := by
  unfold enm
  congr 1
  funext d m
  cases d with
  | ref n =>
    simp only [enD]
    cases m[n]? with
    | none => rfl
    | some o => cases o <;> rfl
  | _ => rfl
@[simp] theorem wp_enm : (enm f env mh).wp Qi E ↔ (f env mh).wp (fun d h => ∃ it, enD d h = some it ∧ Qi it h) E := by
  rw [enm_eq]
  exact wp_bind_iff fun d h => by cases enD d h <;> simp
@[simp] theorem enD_tup : enD (.tup xs) mh = some ⟨enF 0 xs, fun _ => true⟩ := rfl
/-! ### texts -/
@[simp] theorem o_add_s : owp (oAdd (.str x) (.str y) mh) Q ↔ x.length + y.length ≤ sizeLine ∧ Q (.str (x ++ y)) mh := by
  show owp (if _ then _ else none) Q ↔ _
  rw [owp_if, owp_some]
@[simp] theorem o_add_t : owp (oAdd (.tup xs) (.tup ys) mh) Q ↔ xs.length + ys.length ≤ sizeLine ∧ Q (.tup (xs ++ ys)) mh := by
  show owp (if _ then _ else none) Q ↔ _
  rw [owp_if, owp_some]
theorem o_add_l {m : Nat} (h1 : mh[m]? = some (.lst xs)) (h2 : mh[n]? = some (.lst ys)) (h : xs.length + ys.length ≤ sizeLine) : oAdd (.ref m) (.ref n) mh = some (.ref mh.length, mh ++ [.lst (xs ++ ys)]) := by
  simp [oAdd, h1, h2, h]
theorem o_mul_t {k : Int} (h1 : 0 ≤ k) (h2 : k ≤ 1000) (h3 : xs.length ≤ 1000) : oMulX (.tup xs) (.int k) mh = some (.tup (List.replicate k.toNat xs).flatten, mh) := by
  simp only [oMulX]
  rw [if_pos ⟨by omega, h2, h3⟩]
theorem rep1 {α : Type} (a : α) : ∀ k : Nat, (List.replicate k [a]).flatten = List.replicate k a
  | 0 => rfl
  | k + 1 => by rw [List.replicate_succ, List.flatten_cons, rep1 a k]; rfl
def mnS (x y : Str) : Str := if ltS y x = true then y else x
def mxS (x y : Str) : Str := if ltS x y = true then y else x
@[simp] theorem o_min_s : oMin2 [.str x, .str y] mh = some (.str (mnS x y), mh) := rfl
@[simp] theorem o_max_s : oMax2 [.str x, .str y] mh = some (.str (mxS x y), mh) := rfl
@[simp] theorem o_min_i {i j : Int} : oMin2 [.int i, .int j] mh = some (.int (if j < i then j else i), mh) := rfl
@[simp] theorem o_max_i {i j : Int} : oMax2 [.int i, .int j] mh = some (.int (if j > i then j else i), mh) := rfl
theorem hasF_strs : ∀ l : List Str, hasF (.str x) (l.map .str) = decide (x ∈ l)
  | [] => by simp [hasF]
  | y :: l => by
    have ih := hasF_strs l
    unfold hasF at ih ⊢
    rw [List.map_cons, List.any_cons, ih]
    have : eqF (.str y) (.str x) = decide (x = y) := by
      show (y == x) = _
      by_cases h : x = y
      · subst h; simp
      · rw [decide_eq_false h]; exact beq_eq_false_iff_ne.mpr fun e => h e.symm
    rw [this]
    by_cases h1 : x = y <;> by_cases h2 : x ∈ l <;> simp [h1, h2]
theorem inD_strs {c : D} {l : List Str} (h : itemsD mh c = some (l.map .str)) : inD mh (.str x) c = some (decide (x ∈ l)) := by
  have hf : flatD (.str x) = true ∧ (l.map D.str).all flatD = true := ⟨rfl, by rw [List.all_map]; exact List.all_eq_true.mpr fun _ _ => rfl⟩
  cases c with
  | str z => simp [itemsD] at h
  | _ => simp only [inD, h, if_pos hf, hasF_strs]
theorem o_in_s {c : D} {l : List Str} (h : itemsD mh c = some (l.map .str)) : oIn (.str x) c mh = some (.bl (decide (x ∈ l)), mh) := by
  unfold oIn; rw [inD_strs h]; rfl
theorem o_notIn_s {c : D} {l : List Str} (h : itemsD mh c = some (l.map .str)) : oNotIn (.str x) c mh = some (.bl (!decide (x ∈ l)), mh) := by
  unfold oNotIn; rw [inD_strs h]; rfl
/-! ### tuple(xs), list(xs), isinstance -/
@[simp] theorem o_tuple {c : D} : owp (oTuple [c] mh) Q ↔ ∃ ds, itemsD mh c = some ds ∧ Q (.tup ds) mh := by
  simp only [oTuple]
  cases itemsD mh c <;> simp
@[simp] theorem o_list {c : D} : owp (oList [c] mh) Q ↔ ∃ ds, itemsD mh c = some ds ∧ Q (.ref mh.length) (mh ++ [.lst ds]) := by
  simp only [oList]
  cases itemsD mh c <;> simp
@[simp] theorem items_ref {ds : List D} : itemsD mh (.ref n) = some ds ↔ mh[n]? = some (.lst ds) := by
  simp only [itemsD]
  cases h : mh[n]? with
  | none => simp
  | some o => cases o <;> simp
@[simp] theorem tru_bl {b : Bool} : truD (.bl b) mh = some b := rfl
@[simp] theorem wp_popAt : (popAt f g env mh).wp Q E ↔ (f env mh).wp (fun o h => ∃ n, o = .ref n ∧ (∃ ys, h[n]? = some (.lst ys)) ∧ (g env h).wp (fun d h2 => ∃ i xs k y, d = .int i ∧ h2[n]? = some (.lst xs) ∧ (-(2 ^ 63) ≤ i ∧ i < 2 ^ 63) ∧ seqIndex? i xs.length = some k ∧ xs[k]? = some y ∧ Q y (h2.set n (.lst (xs.eraseIdx k)))) E) E := wp_bind_iff fun o h => by
  cases o with
  | ref n =>
    simp only [D.ref.injEq, exists_eq_left']
    have inner : ∀ (d : D) (h2 : MH), (match d, h2[n]? with
      | .int i, some (.lst xs) => if -(2 ^ 63) ≤ i ∧ i < 2 ^ 63 then (match seqIndex? i xs.length with
        | some k => (match xs[k]? with
          | some y => Res.ok y (h2.set n (.lst (xs.eraseIdx k)))
          | none => Res.no)
        | none => Res.no) else Res.no
      | _, _ => Res.no).wp Q E ↔ ∃ i xs k y, d = .int i ∧ h2[n]? = some (.lst xs) ∧ (-(2 ^ 63) ≤ i ∧ i < 2 ^ 63) ∧ seqIndex? i xs.length = some k ∧ xs[k]? = some y ∧ Q y (h2.set n (.lst (xs.eraseIdx k))) := fun d h2 => by
      cases d with
      | int i =>
        cases h2[n]? with
        | none => simp
        | some ob =>
          cases ob with
          | lst xs =>
            refine wp_if_no.trans ?_
            cases hk : seqIndex? i xs.length with
            | none => simp [hk]
            | some k =>
              simp only
              cases hy : xs[k]? with
              | none => simp [hk, hy]
              | some y => simp [hk, hy]
          | dk _ => simp
          | dt _ => simp
          | lk _ => simp
      | _ => simp
    cases hn : h[n]? with
    | none => simp
    | some ob =>
      cases ob with
      | lst ys => exact (wp_bind_iff inner).trans (by simp)
      | dk _ => simp
      | dt _ => simp
      | lk _ => simp
  | _ => simp
theorem seqIx_of {i : Int} {k : Nat} (h0 : 0 ≤ i) (h1 : i < k) : seqIndex? i k = some i.toNat := by
  unfold seqIndex?
  have h2 : ¬ i < 0 := by omega
  simp [h2, h0, h1]
/-- things were laid behind -/
def Pre (mh mh' : MH) : Prop := ∃ t, mh' = mh ++ t
theorem Pre.refl (mh : MH) : Pre mh mh := ⟨[], by simp⟩
theorem Pre.trans {a b c : MH} (h : Pre a b) (k : Pre b c) : Pre a c := by
  obtain ⟨s, rfl⟩ := h; obtain ⟨t, rfl⟩ := k; exact ⟨s ++ t, by simp⟩
theorem Pre.push (mh : MH) (o : Ob) : Pre mh (mh ++ [o]) := ⟨[o], rfl⟩
theorem Pre.add {a b : MH} (h : Pre a b) (o : Ob) : Pre a (b ++ [o]) := h.trans (Pre.push b o)
theorem Pre.le {a b : MH} (h : Pre a b) : a.length ≤ b.length := by obtain ⟨t, rfl⟩ := h; simp
theorem Pre.get {a b : MH} {n : Nat} {o : Ob} (h : Pre a b) (e : a[n]? = some o) : b[n]? = some o := by
  obtain ⟨t, rfl⟩ := h
  rw [List.getElem?_append_left (List.getElem?_eq_some_iff.mp e).1]; exact e
theorem Pre.new {a b : MH} {n : Nat} {o : Ob} (h : Pre a b) (hn : a.length ≤ n) : Pre a (b.set n o) := by
  obtain ⟨t, rfl⟩ := h
  rw [List.set_append_right _ _ hn]
  exact ⟨_, rfl⟩
theorem Pre.fr {a b : MH} (h : Pre a b) (p : Nat) : Fr p a b := by
  obtain ⟨t, rfl⟩ := h
  exact ⟨by simp, fun n hn _ => List.getElem?_append_left hn⟩
theorem Pre.pool {a b : MH} {p n : Nat} (h : Pre a b) (k : PoolB p n a) : PoolB p n b := by
  obtain ⟨hp, x, y, c, q, cells, hq, h1, h2, h3⟩ := k
  exact ⟨hp, x, y, c, q, cells, hq, h.get h1, h.get h2, h3⟩
theorem Pre.items {a b : MH} {c : D} {ds : List D} (h : Pre a b) (e : itemsD a c = some ds) : itemsD b c = some ds := by
  cases c with
  | ref n =>
    rw [items_ref] at e ⊢
    exact h.get e
  | _ => exact e
theorem seq_cut {s t : MS} {O : Po} {env : Nv} {mh : MH} (I : Nv → MH → Prop) (h1 : (s env mh).wp { O with nx := I }) (h2 : ∀ e h, I e h → (t e h).wp O) : (sq s t env mh).wp O := by
  rw [wp_sq]
  exact SRes.wp_mono h1 h2 (fun _ _ q => q) (fun _ _ q => q) (fun _ _ q => q) fun _ _ _ q => q
end
end Det
/-! Det, part Sa: wp words for frozen lists, for what a def cuts, for exceptions. -/
namespace Det
open PySem
/-! ### below -/
section
variable {n : Nat} {xs ys : List D} {d : D}
@[simp] theorem blw_non : D.blw n .non = true := rfl
@[simp] theorem blw_bl {b : Bool} : D.blw n (.bl b) = true := rfl
@[simp] theorem blw_int {i : Int} : D.blw n (.int i) = true := rfl
@[simp] theorem blw_str {s : Str} : D.blw n (.str s) = true := rfl
@[simp] theorem blw_ty {s : String} : D.blw n (.ty s) = true := rfl
@[simp] theorem blw_tup : D.blw n (.tup xs) = D.blws n xs := by simp [D.blw]
@[simp] theorem blw_rol : D.blw n (.rol xs) = D.blws n xs := by simp [D.blw]
@[simp] theorem blw_exc {c : Str} {ns : List Str} : D.blw n (.exc c ns xs) = D.blws n xs := by simp [D.blw]
@[simp] theorem blw_ref {m : Nat} : D.blw n (.ref m) = decide (m < n) := by simp [D.blw]
@[simp] theorem blws_nil : D.blws n [] = true := by simp [D.blws]
@[simp] theorem blws_cons : D.blws n (d :: xs) = (D.blw n d && D.blws n xs) := by simp [D.blws]
@[simp] theorem blws_append : D.blws n (xs ++ ys) = (D.blws n xs && D.blws n ys) := by
  induction xs with
  | nil => simp
  | cons x xs ih => simp [ih, Bool.and_assoc]
theorem blws_iff : D.blws n xs = true ↔ ∀ x ∈ xs, D.blw n x = true := by
  induction xs with
  | nil => simp
  | cons x xs ih => simp [ih]
@[simp] theorem blws_int {l : List Int} : D.blws n (l.map .int) = true := blws_iff.mpr fun x hx => by obtain ⟨_, _, rfl⟩ := List.mem_map.mp hx; rfl
@[simp] theorem blws_str {l : List Str} : D.blws n (l.map .str) = true := blws_iff.mpr fun x hx => by obtain ⟨_, _, rfl⟩ := List.mem_map.mp hx; rfl
theorem blws_map {α : Type} {f : α → D} {l : List α} (h : ∀ a ∈ l, D.blw n (f a) = true) : D.blws n (l.map f) = true := blws_iff.mpr fun x hx => by obtain ⟨a, ha, rfl⟩ := List.mem_map.mp hx; exact h a ha
@[simp] theorem ob_blw {xs : List D} : Ob.blw n (.lst xs) = D.blws n xs := rfl
end
/-! ### kept -/
section
variable {mh g : MH}
@[simp] theorem Kept.refl : Kept mh mh := ⟨Nat.le_refl _, fun i o _ h => .inl h⟩
@[simp] theorem Kept.add : Kept mh (mh ++ g) := ⟨by simp, fun i o hi h => .inl (by rw [List.getElem?_append_left hi] at h; exact h)⟩
theorem Kept.head {o o' : Ob} (h : o'.blw (mh.length + 1) = true) : Kept (o :: mh) (o' :: (mh ++ g)) := ⟨by simp, fun i u hi q => by
  cases i with
  | zero => simp at q; subst q; exact .inr h
  | succ i =>
    simp at hi q
    rw [List.getElem?_append_left hi] at q
    exact .inl (by simpa using q)⟩
theorem Kept.head0 {o o' : Ob} (h : o'.blw (mh.length + 1) = true) : Kept (o :: mh) (o' :: mh) := by
  have := Kept.head (mh := mh) (g := []) (o := o) h
  simpa using this
end
/-! ### cuts -/
def FQ (mh : MH) (Q : D → MH → Prop) (d : D) (h : MH) : Prop := (∃ n xs, d = .ref n ∧ mh.length ≤ n ∧ h[n]? = some (.lst xs) ∧ D.blws mh.length xs = true ∧ Kept mh h ∧ Q (.rol xs) (h.take mh.length)) ∨
  ((∀ n, d = .ref n → n < mh.length) ∧ d.blw mh.length = true ∧ Kept mh h ∧ Q d (h.take mh.length))
def FE (mh : MH) (E : Exn → MH → Prop) (x : Exn) (h : MH) : Prop := D.blws mh.length (x.fs.map (·.2)) = true ∧ Kept mh h ∧ E x (h.take mh.length)
section
variable {mh h g : MH} {Q : D → MH → Prop} {E : Exn → MH → Prop} {r : Res D} {xs : List D}
theorem wp_cutR : (cutR mh r).wp Q E ↔ r.wp (fun d h => d.blw mh.length = true ∧ Kept mh h ∧ Q d (h.take mh.length)) (FE mh E) := by
  cases r with
  | ok d h =>
    simp only [cutR, wp_ok]
    split
    · rename_i c; simp [c.1, c.2]
    · rename_i c; simp only [wp_no, false_iff]; exact fun q => c ⟨q.1, q.2.1⟩
  | ex x h =>
    simp only [cutR, wp_ex]
    split
    · rename_i c; simp [FE, c.1, c.2]
    · rename_i c; simp only [wp_no, false_iff]; exact fun q => c ⟨q.1, q.2.1⟩
  | no => simp [cutR]
theorem FQ.of_cut {d : D} (hn : ∀ n, d = .ref n → n < mh.length) : FQ mh Q d h ↔ d.blw mh.length = true ∧ Kept mh h ∧ Q d (h.take mh.length) := by
  constructor
  · rintro (⟨n, xs, e, hl, _⟩ | ⟨_, q⟩)
    · have := hn n e; omega
    · exact q
  · exact fun q => .inr ⟨hn, q⟩
theorem wp_fzR : (fzR mh r).wp Q E ↔ r.wp (FQ mh Q) (FE mh E) := by
  cases r with
  | no => simp [fzR, cutR]
  | ex x h => rw [show fzR mh (.ex x h) = cutR mh (.ex x h) from rfl, wp_cutR, wp_ex, wp_ex]
  | ok d h =>
    by_cases hd : ∃ n, d = .ref n ∧ mh.length ≤ n
    · obtain ⟨n, rfl, hn⟩ := hd
      rw [wp_ok]
      simp only [fzR, if_pos hn]
      constructor
      · intro q
        split at q
        · rename_i xs hx
          split at q
          · rename_i c; exact .inl ⟨n, xs, rfl, hn, hx, c.1, c.2, wp_ok.mp q⟩
          · exact (wp_no.mp q).elim
        · exact (wp_no.mp q).elim
      · rintro (⟨m, xs, e, hl, hx, b, k, q⟩ | ⟨z, _⟩)
        · cases e
          simp only [hx, if_pos (And.intro b k)]
          exact wp_ok.mpr q
        · have := z n rfl; omega
    · have hn : ∀ n, d = .ref n → n < mh.length := fun n e => by
        by_cases hl : n < mh.length
        · exact hl
        · exact absurd ⟨n, e, by omega⟩ hd
      have e : fzR mh (.ok d h) = cutR mh (.ok d h) := by
        cases d with
        | ref n => simp only [fzR]; rw [if_neg (by have := hn n rfl; omega)]
        | _ => rfl
      rw [e, wp_cutR, wp_ok, wp_ok, FQ.of_cut hn]
@[simp] theorem wp_fz {f : ME} {env : Nv} : (fz f env mh).wp Q E ↔ (f env mh).wp (FQ mh Q) (FE mh E) := wp_fzR
theorem wp_zF {F : Fn} {ds : List D} : (zF F ds mh).wp Q E ↔ (F ds mh).wp (FQ mh Q) (FE mh E) := wp_fzR
@[simp] theorem fq_int {i : Int} : FQ mh Q (.int i) h ↔ Kept mh h ∧ Q (.int i) (h.take mh.length) := (FQ.of_cut fun n e => by cases e).trans (by simp)
@[simp] theorem fq_bl {i : Bool} : FQ mh Q (.bl i) h ↔ Kept mh h ∧ Q (.bl i) (h.take mh.length) := (FQ.of_cut fun n e => by cases e).trans (by simp)
@[simp] theorem fq_str {i : Str} : FQ mh Q (.str i) h ↔ Kept mh h ∧ Q (.str i) (h.take mh.length) := (FQ.of_cut fun n e => by cases e).trans (by simp)
@[simp] theorem fq_non : FQ mh Q .non h ↔ Kept mh h ∧ Q .non (h.take mh.length) := (FQ.of_cut fun n e => by cases e).trans (by simp)
@[simp] theorem fq_tup : FQ mh Q (.tup xs) h ↔ D.blws mh.length xs = true ∧ Kept mh h ∧ Q (.tup xs) (h.take mh.length) := (FQ.of_cut fun n e => by cases e).trans (by simp)
@[simp] theorem fq_rol : FQ mh Q (.rol xs) h ↔ D.blws mh.length xs = true ∧ Kept mh h ∧ Q (.rol xs) (h.take mh.length) := (FQ.of_cut fun n e => by cases e).trans (by simp)
theorem fq_new {n : Nat} (hn : mh.length ≤ n) (hx : h[n]? = some (.lst xs)) : FQ mh Q (.ref n) h ↔ D.blws mh.length xs = true ∧ Kept mh h ∧ Q (.rol xs) (h.take mh.length) := by
  constructor
  · rintro (⟨m, ys, e, _, hy, q⟩ | ⟨z, _⟩)
    · cases e
      rw [hx] at hy
      cases hy
      exact q
    · have := z n rfl; omega
  · exact fun q => .inl ⟨n, xs, rfl, hn, hx, q⟩
@[simp] theorem fq_push : FQ mh Q (.ref mh.length) (mh ++ [.lst xs]) ↔ D.blws mh.length xs = true ∧ Q (.rol xs) mh := by
  rw [fq_new (xs := xs) (Nat.le_refl _) (by simp)]
  simp
theorem fq_any {d : D} (hd : ∀ n, d ≠ .ref n) (hb : d.blw mh.length = true) : FQ mh Q d (mh ++ g) ↔ Q d mh := by
  rw [FQ.of_cut fun n e => absurd e (hd n)]
  simp [hb]
theorem fq_any0 {d : D} (hd : ∀ n, d ≠ .ref n) (hb : d.blw mh.length = true) : FQ mh Q d mh ↔ Q d mh := by
  have := fq_any (g := []) (Q := Q) hd hb
  simpa using this
/-! ### a run as an equation -/
theorem ok_of_wp {v : D} {m : MH} (h : r.wp (fun d h => d = v ∧ h = m) fun _ _ => False) : r = .ok v m := by
  obtain ⟨a, m', e, rfl, rfl⟩ := wp_end h; exact e
theorem ex_of_wp {y : Exn} {m : MH} (h : r.wp (fun _ _ => False) fun x h => x = y ∧ h = m) : r = .ex y m := by
  cases h with
  | ok h => exact h.elim
  | ex h => obtain ⟨rfl, rfl⟩ := h; rfl
end
/-! ### exceptions -/
section
variable {mh : MH} {Q : D → MH → Prop} {E : Exn → MH → Prop} {env : Nv} {O : Po} {f : ME} {fa : MA} {s t : MS}
@[simp] theorem wp_rse {c : Str} {fns : List Str} : (rse c fns fa env mh).wp O ↔ (fa env mh).wp (fun ds h => ds.length = fns.length ∧ O.ex ⟨c, fns.zip ds⟩ env h) (fun x h => O.ex x env h) := wp_lift_iff fun ds h => by
  by_cases e : ds.length = fns.length <;> simp [e]
@[simp] theorem wp_tri {tab : List (Str × Bool)} {i : Nat} : (tri tab i s t env mh).wp O ↔ (s env mh).wp { O with ex := fun x env1 mh1 => ∃ b, tab.lookup x.c = some b ∧ (b = true → (t (env1.set i (some (excD x))) mh1).wp { nx := fun e h => O.nx (e.set i none) h, bk := fun e h => O.bk (e.set i none) h, ct := fun e h => O.ct (e.set i none) h, rt := O.rt, ex := fun _ _ _ => False }) ∧ (b = false → O.ex x env1 mh1) } := by
  unfold tri
  cases s env mh with
  | ex x e1 h1 =>
    simp only [swp_ex]
    cases tab.lookup x.c with
    | none => simp
    | some b =>
      cases b with
      | true =>
        simp only [Option.some.injEq, exists_eq_left', true_implies, Bool.true_eq_false, false_implies, and_true]
        cases t (e1.set i (some (excD x))) h1 <;> simp
      | false => simp
  | _ => simp
@[simp] theorem wp_isE {tab : List (Str × Bool)} : (isE tab f env mh).wp Q E ↔ (f env mh).wp (fun d h => ∃ c ns ds, d = .exc c ns ds ∧ ∃ b, tab.lookup c = some b ∧ Q (.bl b) h) E := wp_bind_iff fun d h => by
  cases d with
  | exc c ns ds =>
    simp only
    cases hc : tab.lookup c with
    | none => exact ⟨fun q => (wp_no.mp q).elim, fun q => by obtain ⟨_, _, _, e, b, hb, _⟩ := q; cases e; rw [hc] at hb; cases hb⟩
    | some b => exact ⟨fun q => ⟨c, ns, ds, rfl, b, hc, wp_ok.mp q⟩, fun q => by obtain ⟨_, _, _, e, b2, hb, q⟩ := q; cases e; rw [hc] at hb; cases hb; exact .ok q⟩
  | _ => simp
@[simp] theorem wp_fld {tab : List Str} {n : Str} : (fld tab n f env mh).wp Q E ↔ (f env mh).wp (fun d h => ∃ c ns ds, d = .exc c ns ds ∧ c ∈ tab ∧ ∃ y, (ns.zip ds).lookup n = some y ∧ Q y h) E := wp_bind_iff fun d h => by
  cases d with
  | exc c ns ds =>
    simp only
    by_cases hc : c ∈ tab
    · rw [if_pos hc]
      cases hl : (ns.zip ds).lookup n with
      | none => exact ⟨fun q => (wp_no.mp q).elim, fun q => by obtain ⟨_, _, _, e, _, y, hy, _⟩ := q; cases e; rw [hl] at hy; cases hy⟩
      | some y => exact ⟨fun q => ⟨c, ns, ds, rfl, hc, y, hl, wp_ok.mp q⟩, fun q => by obtain ⟨_, _, _, e, _, y2, hy, q⟩ := q; cases e; rw [hl] at hy; cases hy; exact .ok q⟩
    · rw [if_neg hc]; simp [hc]
  | _ => simp
@[simp] theorem wp_upr : (upr f env mh).wp Q E ↔ (f env mh).wp (fun d h => ∃ a, d = .str a ∧ a.length ≤ 5592405 ∧ Q (.str (Txt.upper a)) h) E := wp_bind_iff fun d h => by
  cases d with
  | str a => exact wp_if_no.trans (by simp)
  | _ => simp
end
/-! ### a comprehension of pure parts -/
section
variable {mh : MH} {Q : D → MH → Prop} {E : Exn → MH → Prop} {env : Nv} {f : ME} {ft : MT} {chk : MH → Bool} {p : Pat} {ds : List D}
theorem comp_pure (G : Nat → List D) (h0 : G 0 = []) (hz : ds.length ≤ sizeLine) (hl : ∀ i, (G i).length ≤ i)
    (hs : ∀ i d acc, ds[i]? = some d → chk (mh ++ [.lst acc]) = true ∧ ∃ e, setP p d env = some e ∧ (ft e (mh ++ [.lst acc])).wp (fun b h => h = mh ++ [.lst acc] ∧ (b = true → (f e (mh ++ [.lst acc])).wp (fun y h2 => h2 = mh ++ [.lst acc] ∧ G (i + 1) = G i ++ [y]) fun _ _ => False) ∧ (b = false → G (i + 1) = G i)) fun _ _ => False)
    (hc : chk (mh ++ [.lst (G ds.length)]) = true) (hd : Q (.ref mh.length) (mh ++ [.lst (G ds.length)])) : (loopC mh.length chk p ft f env ds (mh ++ [.lst []])).wp Q E := by
  refine comp_wp (fun i acc h => acc = G i ∧ h = mh ++ [.lst acc]) [] (by simp) ⟨h0.symm, rfl⟩ (fun i acc h q => by obtain ⟨_, rfl⟩ := q; simp) ?_ (fun acc h q => by obtain ⟨rfl, rfl⟩ := q; exact ⟨hc, hd⟩)
  rintro i d acc h hd ⟨rfl, rfl⟩
  obtain ⟨c1, e, c2, c3⟩ := hs i d (G i) hd
  have hi := (List.getElem?_eq_some_iff.mp hd).1
  refine ⟨c1, e, c2, Res.wp_mono c3 (fun b h q => ?_) fun _ _ q => q⟩
  obtain ⟨rfl, q1, q2⟩ := q
  refine ⟨fun hb => Res.wp_mono (q1 hb) (fun y h2 q => ?_) fun _ _ q => q, fun hb => ⟨(q2 hb).symm, rfl⟩⟩
  obtain ⟨rfl, q⟩ := q
  refine ⟨by simp, by have := hl i; omega, q.symm, by simp⟩
end
end Det
/-! Det, part Sb: the pool as one object. -/
namespace Det
open PySem
structure Pl where
  a : Int
  b : Int
  c : Int
  cs : List Int
  hc : 0 ≤ c
def Pl.ob (p : Pl) : Ob := .lst [.int p.a, .int p.b, .int p.c, .rol (p.cs.map .int)]
theorem Pl.blw (p : Pl) (n : Nat) : p.ob.blw n = true := by simp [Pl.ob]
theorem kept_pl {p p' : Pl} {loc : MH} : Kept (p.ob :: loc) (p'.ob :: loc) := Kept.head0 (p'.blw _)
theorem kept_pls {p p' : Pl} {loc g : MH} : Kept (p.ob :: loc) (p'.ob :: (loc ++ g)) := Kept.head (p'.blw _)
theorem take_pl {o : Ob} {loc g : MH} : (o :: (loc ++ g)).take (loc.length + 1) = o :: loc := by simp
section
variable {p p' : Pl} {loc g : MH} {Q : D → MH → Prop} {d : D}
/-- what a def hands back over the pool, where it laid g for itself -/
theorem fq_pl (hd : ∀ n, d ≠ .ref n) (hb : d.blw (loc.length + 1) = true) (q : Q d (p'.ob :: loc)) : FQ (p.ob :: loc) Q d (p'.ob :: (loc ++ g)) := by
  rw [FQ.of_cut fun n e => absurd e (hd n)]
  refine ⟨hb, kept_pls, ?_⟩
  rw [List.length_cons, take_pl]; exact q
theorem fq_pl0 (hd : ∀ n, d ≠ .ref n) (hb : d.blw (loc.length + 1) = true) (q : Q d (p'.ob :: loc)) : FQ (p.ob :: loc) Q d (p'.ob :: loc) := by
  have := fq_pl (p := p) (g := []) hd hb q
  simpa using this
theorem fq_pl_int {i : Int} (q : Q (.int i) (p'.ob :: loc)) : FQ (p.ob :: loc) Q (.int i) (p'.ob :: loc) := fq_pl0 (fun n => by simp) rfl q
theorem fq_pl_str {i : Str} (q : Q (.str i) (p'.ob :: loc)) : FQ (p.ob :: loc) Q (.str i) (p'.ob :: loc) := fq_pl0 (fun n => by simp) rfl q
theorem fq_pl_bl {i : Bool} (q : Q (.bl i) (p'.ob :: loc)) : FQ (p.ob :: loc) Q (.bl i) (p'.ob :: loc) := fq_pl0 (fun n => by simp) rfl q
/-- a new list -/
theorem fq_pl_lst {xs : List D} (hb : D.blws (loc.length + 1) xs = true) (q : Q (.rol xs) (p'.ob :: loc)) : FQ (p.ob :: loc) Q (.ref (loc.length + 1)) (p'.ob :: (loc ++ .lst xs :: g)) := by
  rw [fq_new (mh := p.ob :: loc) (n := loc.length + 1) (xs := xs) (by simp) (by simp)]
  refine ⟨by simpa using hb, kept_pls, ?_⟩
  rw [List.length_cons, take_pl]; exact q
end
section
variable {mh : MH} {env : Nv} {Q : D → MH → Prop} {E : Exn → MH → Prop} {f : ME} {l h : MO} {Qo : Option Int → MH → Prop}
@[simp] theorem wp_sl : (sl f l h env mh).wp Q E ↔ (f env mh).wp (fun a m1 => (l env m1).wp (fun lo m2 => (h env m2).wp (fun hi m3 => owp (oSl a lo hi m3) Q) E) E) E := by unfold sl; simp
@[simp] theorem wp_onone : (onone env mh).wp Qo E ↔ Qo none mh := wp_ok
@[simp] theorem wp_osome : (osome f env mh).wp Qo E ↔ (f env mh).wp (fun a h => ∃ i, a = .int i ∧ Qo (some i) h) E := wp_bind_iff fun d h => by cases d <;> simp
@[simp] theorem o_sl_str {z : Str} {lo hi : Option Int} : owp (oSl (.str z) lo hi mh) Q ↔ z.length ≤ sizeLine ∧ Q (.str (L2.cutS z lo hi)) mh := by
  simp only [oSl]
  rw [owp_if, owp_some]
@[simp] theorem o_sl_tup {xs : List D} {lo hi : Option Int} : owp (oSl (.tup xs) lo hi mh) Q ↔ Q (.tup (cutD xs lo hi)) mh := owp_some
@[simp] theorem o_sl_rol {xs : List D} {lo hi : Option Int} : owp (oSl (.rol xs) lo hi mh) Q ↔ Q (.ref mh.length) (mh ++ [.lst (cutD xs lo hi)]) := owp_some
end
end Det
/-! Det, part Sc: wp words for x += e, any, all, sum, list(range), the dict comprehension, insert, (*xs, y). -/
namespace Det
open PySem
section
variable {mh : MH} {env : Nv} {E : Exn → MH → Prop} {f g : ME} {Q : D → MH → Prop}
@[simp] theorem wp_lrg1 : (lrg1 f env mh).wp Q E ↔ (f env mh).wp (fun d h => ∃ j, d = .int j ∧ okRg 0 j = true ∧ Q (.ref h.length) (h ++ [.lst (rgD 0 j.toNat)])) E := wp_bind_iff fun d h => by
  cases d with
  | int j => exact wp_if_no.trans (by simp)
  | _ => simp
@[simp] theorem wp_lrg2 : (lrg2 f g env mh).wp Q E ↔ (f env mh).wp (fun d h => (g env h).wp (fun e h2 => ∃ i j, d = .int i ∧ e = .int j ∧ okRg i j = true ∧ Q (.ref h2.length) (h2 ++ [.lst (rgD i (j - i).toNat)])) E) E := wp_bind_iff fun d h => wp_bind_iff fun e h2 => by
  cases d with
  | int i =>
    cases e with
    | int j => exact wp_if_no.trans (by simp)
    | _ => simp
  | _ => cases e <;> simp
@[simp] theorem o_addA_i {i j : Int} : oAddA (.int i) (.int j) mh = some (.int (i + j), mh) := rfl
@[simp] theorem o_subA_i {i j : Int} : oSubA (.int i) (.int j) mh = some (.int (i - j), mh) := rfl
theorem o_any {a : D} {bs : List Bool} (h : lstD mh a = some (bs.map .bl)) : oAny [a] mh = some (.bl (bs.any id), mh) := by simp [oAny, h, blsD_map]
theorem o_all {a : D} {bs : List Bool} (h : lstD mh a = some (bs.map .bl)) : oAll [a] mh = some (.bl (bs.all id), mh) := by simp [oAll, h, blsD_map]
theorem o_sum {a : D} {ns : List Int} (h : lstD mh a = some (ns.map .int)) : oSum [a] mh = some (.int ns.sum, mh) := by simp [oSum, h, intsD_map]
@[simp] theorem wp_dcp {fi : MI} {p : Pat} {ft : MT} {ek ev : ME} {vs : List Nat} : (dcp fi p ft ek ev vs env mh).wp Q E ↔ (fi env mh).wp (fun it h => (loopX h.length it.chk p ft ek ev (wipeD env vs) it.items (h ++ [.dk []])).wp Q E) E := by
  unfold dcp; rw [wp_bind]
@[simp] theorem wp_astar {f : ME} {g : MA} {Ql : List D → MH → Prop} : (astar f g env mh).wp Ql E ↔ (f env mh).wp (fun d h => ∃ xs, itemsD h d = some xs ∧ (g env h).wp (fun ys h2 => Ql (xs ++ ys) h2) E) E := wp_bind_iff fun d h => by
  cases itemsD h d <;> simp
end
end Det
/-! Det, part Sd: tables (dicts) by what they answer, isinstance of values, loops by what is left. -/
namespace Det
open PySem
/-! ### tables -/
theorem find_none {kds : List (L2.Key × D)} {k : L2.Key} : (valD kds k).isSome = decide (k ∈ kds.map (·.1)) := by
  unfold valD
  rw [Option.isSome_map]
  by_cases h : k ∈ kds.map (·.1)
  · rw [decide_eq_true h]
    obtain ⟨kv, h1, h2⟩ := List.mem_map.mp h
    rw [List.find?_isSome]
    exact ⟨kv, h1, decide_eq_true h2⟩
  · rw [decide_eq_false h]
    cases hf : kds.find? (fun kv => decide (kv.1 = k)) with
    | none => rfl
    | some kv => exact absurd (List.mem_map.mpr ⟨kv, List.mem_of_find?_eq_some hf, by simpa using List.find?_some hf⟩) h
theorem putD_keys {kds : List (L2.Key × D)} {k x : L2.Key} {d : D} : x ∈ (putD kds k d).map (·.1) ↔ x ∈ kds.map (·.1) ∨ x = k := by
  unfold putD
  by_cases h : (kds.any fun kv => decide (kv.1 = k)) = true
  · rw [if_pos h]
    have e : (kds.map (fun kv => if kv.1 = k then (kv.1, d) else kv)).map (·.1) = kds.map (·.1) := by
      rw [List.map_map]
      refine List.map_congr_left fun kv _ => ?_
      simp only [Function.comp]
      split <;> rfl
    rw [e]
    refine ⟨.inl, fun q => q.elim id fun e => ?_⟩
    obtain ⟨kv, h1, h2⟩ := List.any_eq_true.mp h
    rw [e]
    exact List.mem_map.mpr ⟨kv, h1, of_decide_eq_true h2⟩
  · rw [if_neg h, List.map_append]
    simp
theorem putD_len {kds : List (L2.Key × D)} {k : L2.Key} {d : D} : (putD kds k d).length ≤ kds.length + 1 := by
  unfold putD
  split
  · rw [List.length_map]; omega
  · simp
theorem valD_cons {a k : L2.Key} {b : D} {kds : List (L2.Key × D)} : valD ((a, b) :: kds) k = if a = k then some b else valD kds k := by
  unfold valD
  rw [List.find?_cons]
  by_cases h : a = k
  · simp [h]
  · simp [h]
theorem valD_map {k k' : L2.Key} {d : D} : ∀ kds : List (L2.Key × D), valD (kds.map fun kv => if kv.1 = k then (kv.1, d) else kv) k' = if k = k' then (valD kds k').map (fun _ => d) else valD kds k'
  | [] => by simp [valD]
  | (a, b) :: kds => by
    have ih := valD_map (k := k) (k' := k') (d := d) kds
    rw [List.map_cons]
    simp only
    by_cases h1 : a = k
    · rw [if_pos h1, valD_cons, valD_cons, ih]
      subst h1
      by_cases h2 : a = k'
      · simp [h2]
      · simp [h2]
    · rw [if_neg h1, valD_cons, valD_cons, ih]
      by_cases h2 : a = k'
      · subst h2; simp [Ne.symm h1]
      · simp [h2]
theorem valD_snoc {k k' : L2.Key} {d : D} : ∀ kds : List (L2.Key × D), valD (kds ++ [(k, d)]) k' = match valD kds k' with | some v => some v | none => if k = k' then some d else none
  | [] => by simp [valD_cons]; simp [valD]
  | (a, b) :: kds => by
    rw [List.cons_append, valD_cons, valD_cons, valD_snoc kds]
    by_cases h : a = k' <;> simp [h]
theorem valD_any {k : L2.Key} : ∀ kds : List (L2.Key × D), (valD kds k).isSome = kds.any fun kv => decide (kv.1 = k)
  | [] => by simp [valD]
  | (a, b) :: kds => by
    rw [valD_cons, List.any_cons, ← valD_any kds]
    by_cases h : a = k <;> simp [h]
theorem valD_put {kds : List (L2.Key × D)} {k k' : L2.Key} {d : D} : valD (putD kds k d) k' = if k = k' then some d else valD kds k' := by
  unfold putD
  have ha := valD_any (k := k) kds
  by_cases h : (kds.any fun kv => decide (kv.1 = k)) = true
  · rw [if_pos h, valD_map]
    by_cases h2 : k = k'
    · subst h2
      rw [h] at ha
      simp only [if_true]
      cases hv : valD kds k with
      | none => rw [hv] at ha; cases ha
      | some _ => rfl
    · simp [h2]
  · rw [if_neg h, valD_snoc]
    by_cases h2 : k = k'
    · subst h2
      have : valD kds k = none := by
        cases hv : valD kds k with
        | none => rfl
        | some _ => rw [hv] at ha; exact absurd ha.symm h
      simp [this]
    · simp [h2]
      cases valD kds k' <;> rfl
def putS {α : Type} (key : α → Str) (val : α → D) (kds : List (L2.Key × D)) (a : α) : List (L2.Key × D) := putD kds (.inr (key a)) (val a)
theorem valD_puts {α : Type} (key : α → Str) (val : α → D) (x : Str) : ∀ (as : List α) (kds : List (L2.Key × D)), (as.map key).Nodup → valD (as.foldl (putS key val) kds) (.inr x) = match as.find? fun a => decide (key a = x) with | some a => some (val a) | none => valD kds (.inr x)
  | [], kds, _ => rfl
  | a :: as, kds, hn => by
    rw [List.map_cons, List.nodup_cons] at hn
    rw [List.foldl_cons, valD_puts key val x as _ hn.2, List.find?_cons]
    by_cases h : key a = x
    · have : (as.find? fun a => decide (key a = x)) = none := by
        rw [List.find?_eq_none]
        intro b hb
        simp only [decide_eq_true_eq]
        exact fun e => hn.1 (List.mem_map.mpr ⟨b, hb, by rw [e, h]⟩)
      simp [this, putS, valD_put, h]
    · simp only [h, decide_false]
      cases as.find? fun a => decide (key a = x) with
      | some b => rfl
      | none =>
        simp only [putS, valD_put]
        rw [if_neg fun e => h (by injection e)]
section
variable {mh : MH} {Q : D → MH → Prop} {E : Exn → MH → Prop} {env : Nv} {f ek ev : ME} {ft : MT} {chk : MH → Bool} {p : Pat} {n : Nat}
theorem puts_len {α : Type} (key : α → Str) (val : α → D) : ∀ (as : List α) (kds : List (L2.Key × D)), (as.foldl (putS key val) kds).length ≤ kds.length + as.length
  | [], kds => by simp
  | a :: as, kds => by
    have h1 := puts_len key val as (putS key val kds a)
    have h2 := putD_len (kds := kds) (k := .inr (key a)) (d := val a)
    rw [List.foldl_cons, List.length_cons]
    unfold putS at h1 ⊢
    omega
theorem loopX_put {α : Type} (g : α → D) (key : α → Str) (val : α → D) (hchk : ∀ o, chk (mh ++ [o]) = true) : ∀ (as : List α) (kds : List (L2.Key × D)), kds.length + as.length ≤ sizeLine →
    (∀ a ∈ as, ∀ o, ∃ e, setP p (g a) env = some e ∧ (ek e (mh ++ [o])).wp (fun y h => h = mh ++ [o] ∧ y = .str (key a)) (fun _ _ => False) ∧ (ev e (mh ++ [o])).wp (fun y h => h = mh ++ [o] ∧ y = val a) (fun _ _ => False)) →
    Q (.ref mh.length) (mh ++ [.dk (as.foldl (putS key val) kds)]) →
    (loopX mh.length chk p yes ek ev env (as.map g) (mh ++ [.dk kds])).wp Q E
  | [], kds, _, _, hq => by
    unfold loopX
    rw [List.map_nil]
    simp only
    rw [if_pos (hchk _), wp_ok]
    exact hq
  | a :: as, kds, hl, hs, hq => by
    have hl2 : kds.length < sizeLine := by simp at hl; omega
    rw [List.map_cons]
    unfold loopX
    rw [if_pos (hchk _)]
    obtain ⟨e, h1, h2, h3⟩ := hs a List.mem_cons_self (.dk kds)
    rw [h1]
    simp only
    rw [wp_bind, wp_nox, wp_yes]
    simp only [if_true]
    rw [wp_bind, wp_nox]
    refine Res.wp_mono h2 (fun y h q => ?_) fun _ _ q => q.elim
    obtain ⟨rfl, rfl⟩ := q
    rw [wp_bind, wp_nox]
    refine Res.wp_mono h3 (fun z h q => ?_) fun _ _ q => q.elim
    obtain ⟨rfl, rfl⟩ := q
    have e1 : (mh ++ [Ob.dk kds])[mh.length]? = some (.dk kds) := by simp
    simp only [e1, dKey]
    rw [if_pos hl2]
    have e2 : (mh ++ [Ob.dk kds]).set mh.length (.dk (putD kds (.inr (key a)) (val a))) = mh ++ [.dk (putD kds (.inr (key a)) (val a))] := by simp
    rw [e2]
    exact loopX_put g key val hchk as _ (by have := putD_len (kds := kds) (k := .inr (key a)) (d := val a); simp at hl; omega) (fun b hb => hs b (List.mem_cons_of_mem _ hb)) hq
theorem ixX_dk {kds : List (L2.Key × D)} {x : Str} {d : D} (hx : mh[n]? = some (.dk kds)) (hv : valD kds (.inr x) = some d) : oIxX (.ref n) (.str x) mh = some (d, mh) := by
  simp [oIxX, dctD, hx, dKey, hv]
theorem notInX_dk {kds : List (L2.Key × D)} {x : Str} (hx : mh[n]? = some (.dk kds)) : oNotInX (.str x) (.ref n) mh = some (.bl (!(valD kds (.inr x)).isSome), mh) := by
  simp [oNotInX, dctD, hx, dKey]
@[simp] theorem ixX_tup {xs : List D} {i : D} : oIxX (.tup xs) i mh = oIx (.tup xs) i mh := rfl
@[simp] theorem ixX_rol {xs : List D} {i : D} : oIxX (.rol xs) i mh = oIx (.rol xs) i mh := rfl
@[simp] theorem o_neg_i {i : Int} : oNeg (.int i) mh = some (.int (-i), mh) := rfl
end
theorem atI_last {α : Type} {l : List α} : L2.atI l (-1) = l.getLast? := by
  unfold L2.atI L2.ixN
  cases l with
  | nil => simp
  | cons a l =>
    rw [if_neg (by omega), if_pos (by simp; omega), List.getLast?_eq_getElem?]
    simp only [Option.bind_some]
    congr 1
    simp
    omega
theorem enF_idx : ∀ (k : Nat) (xs : List D), enF k xs = (xs.zipIdx k).map fun q => .tup [.int (q.2 : Nat), q.1]
  | _, [] => rfl
  | k, x :: xs => by rw [enF, enF_idx (k + 1) xs, List.zipIdx_cons, List.map_cons]
/-! ### isinstance of values -/
section
variable {mh : MH} {xs : List D} {x : Str} {i : Int} {b : Bool}
theorem kitB_is (s t : String) (b : Bool) (h : L2.kitB s t = some b) {d : D} (hd : tyD mh d = some s) : oIsi [d, .ty t] mh = some (.bl b, mh) := by
  simp [oIsi, hd, h]
@[simp] theorem i_tt : oIsi [.tup xs, .ty "tuple"] mh = some (.bl true, mh) := kitB_is "tuple" "tuple" true (by decide +kernel) rfl
@[simp] theorem i_tl : oIsi [.tup xs, .ty "list"] mh = some (.bl false, mh) := kitB_is "tuple" "list" false (by decide +kernel) rfl
@[simp] theorem i_ts : oIsi [.tup xs, .ty "str"] mh = some (.bl false, mh) := kitB_is "tuple" "str" false (by decide +kernel) rfl
@[simp] theorem i_ti : oIsi [.tup xs, .ty "int"] mh = some (.bl false, mh) := kitB_is "tuple" "int" false (by decide +kernel) rfl
@[simp] theorem i_tb : oIsi [.tup xs, .ty "bool"] mh = some (.bl false, mh) := kitB_is "tuple" "bool" false (by decide +kernel) rfl
@[simp] theorem i_rt : oIsi [.rol xs, .ty "tuple"] mh = some (.bl false, mh) := kitB_is "list" "tuple" false (by decide +kernel) rfl
@[simp] theorem i_rl : oIsi [.rol xs, .ty "list"] mh = some (.bl true, mh) := kitB_is "list" "list" true (by decide +kernel) rfl
@[simp] theorem i_rs : oIsi [.rol xs, .ty "str"] mh = some (.bl false, mh) := kitB_is "list" "str" false (by decide +kernel) rfl
@[simp] theorem i_ri : oIsi [.rol xs, .ty "int"] mh = some (.bl false, mh) := kitB_is "list" "int" false (by decide +kernel) rfl
@[simp] theorem i_rb : oIsi [.rol xs, .ty "bool"] mh = some (.bl false, mh) := kitB_is "list" "bool" false (by decide +kernel) rfl
@[simp] theorem i_st : oIsi [.str x, .ty "tuple"] mh = some (.bl false, mh) := kitB_is "str" "tuple" false (by decide +kernel) rfl
@[simp] theorem i_sl : oIsi [.str x, .ty "list"] mh = some (.bl false, mh) := kitB_is "str" "list" false (by decide +kernel) rfl
@[simp] theorem i_ss : oIsi [.str x, .ty "str"] mh = some (.bl true, mh) := kitB_is "str" "str" true (by decide +kernel) rfl
@[simp] theorem i_si : oIsi [.str x, .ty "int"] mh = some (.bl false, mh) := kitB_is "str" "int" false (by decide +kernel) rfl
@[simp] theorem i_sb : oIsi [.str x, .ty "bool"] mh = some (.bl false, mh) := kitB_is "str" "bool" false (by decide +kernel) rfl
@[simp] theorem i_it : oIsi [.int i, .ty "tuple"] mh = some (.bl false, mh) := kitB_is "int" "tuple" false (by decide +kernel) rfl
@[simp] theorem i_il : oIsi [.int i, .ty "list"] mh = some (.bl false, mh) := kitB_is "int" "list" false (by decide +kernel) rfl
@[simp] theorem i_is : oIsi [.int i, .ty "str"] mh = some (.bl false, mh) := kitB_is "int" "str" false (by decide +kernel) rfl
@[simp] theorem i_ii : oIsi [.int i, .ty "int"] mh = some (.bl true, mh) := kitB_is "int" "int" true (by decide +kernel) rfl
@[simp] theorem i_ib : oIsi [.int i, .ty "bool"] mh = some (.bl false, mh) := kitB_is "int" "bool" false (by decide +kernel) rfl
@[simp] theorem i_bt : oIsi [.bl b, .ty "tuple"] mh = some (.bl false, mh) := kitB_is "bool" "tuple" false (by decide +kernel) rfl
@[simp] theorem i_bl : oIsi [.bl b, .ty "list"] mh = some (.bl false, mh) := kitB_is "bool" "list" false (by decide +kernel) rfl
@[simp] theorem i_bs : oIsi [.bl b, .ty "str"] mh = some (.bl false, mh) := kitB_is "bool" "str" false (by decide +kernel) rfl
@[simp] theorem i_bi : oIsi [.bl b, .ty "int"] mh = some (.bl true, mh) := kitB_is "bool" "int" true (by decide +kernel) rfl
@[simp] theorem i_bb : oIsi [.bl b, .ty "bool"] mh = some (.bl true, mh) := kitB_is "bool" "bool" true (by decide +kernel) rfl
@[simp] theorem i_nt : oIsi [.non, .ty "tuple"] mh = some (.bl false, mh) := kitB_is "NoneType" "tuple" false (by decide +kernel) rfl
@[simp] theorem i_nl : oIsi [.non, .ty "list"] mh = some (.bl false, mh) := kitB_is "NoneType" "list" false (by decide +kernel) rfl
@[simp] theorem i_ns : oIsi [.non, .ty "str"] mh = some (.bl false, mh) := kitB_is "NoneType" "str" false (by decide +kernel) rfl
@[simp] theorem i_ni : oIsi [.non, .ty "int"] mh = some (.bl false, mh) := kitB_is "NoneType" "int" false (by decide +kernel) rfl
@[simp] theorem i_nb : oIsi [.non, .ty "bool"] mh = some (.bl false, mh) := kitB_is "NoneType" "bool" false (by decide +kernel) rfl
end
/-! ### loops by what is left -/
section
variable {mh : MH} {env : Nv} {O : Po} {s : MS} {chk : MH → Bool} {p : Pat}
theorem loop_gen {α : Type} (as : List α) (G : Nat → α → D) {ds : List D} (hds : ∀ i, ds[i]? = (as[i]?).map (G i)) (I : Nat → List α → Nv → MH → Prop) (h0 : I 0 as env mh)
    (hs : ∀ i x xs env mh, as.drop i = x :: xs → i < as.length → as[i]? = some x → I i (x :: xs) env mh → chk mh = true ∧ ∃ e, setP p (G i x) env = some e ∧ (s e mh).wp { nx := I (i + 1) xs, ct := I (i + 1) xs, bk := O.nx, rt := O.rt, ex := O.ex })
    (hd : ∀ env mh, I as.length [] env mh → chk mh = true ∧ O.nx env mh) : (loopF chk p s ds env mh).wp O := by
  have hlen : ds.length = as.length := by
    apply Nat.le_antisymm
    · have := hds as.length
      rw [List.getElem?_eq_none (Nat.le_refl _)] at this
      exact List.getElem?_eq_none_iff.mp this
    · have := hds ds.length
      rw [List.getElem?_eq_none (Nat.le_refl _)] at this
      cases h : as[ds.length]? with
      | none => exact List.getElem?_eq_none_iff.mp h
      | some _ => rw [h] at this; cases this
  refine loop_wp (fun i e h => I i (as.drop i) e h) (by simpa using h0) ?_ ?_
  · intro i d env mh hd hi
    rw [hds i] at hd
    cases hx : as[i]? with
    | none => rw [hx] at hd; cases hd
    | some x =>
      rw [hx] at hd
      cases hd
      have hi2 := (List.getElem?_eq_some_iff.mp hx).1
      have e : as.drop i = x :: as.drop (i + 1) := by
        rw [List.drop_eq_getElem_cons hi2, (List.getElem?_eq_some_iff.mp hx).2]
      rw [e] at hi
      exact hs i x _ env mh e hi2 hx hi
  · intro env mh hi
    rw [hlen, List.drop_length] at hi
    exact hd env mh hi
theorem loop_as {α : Type} (as : List α) (g : α → D) (I : Nat → List α → Nv → MH → Prop) (h0 : I 0 as env mh)
    (hs : ∀ i x xs env mh, as.drop i = x :: xs → i < as.length → as[i]? = some x → I i (x :: xs) env mh → chk mh = true ∧ ∃ e, setP p (g x) env = some e ∧ (s e mh).wp { nx := I (i + 1) xs, ct := I (i + 1) xs, bk := O.nx, rt := O.rt, ex := O.ex })
    (hd : ∀ env mh, I as.length [] env mh → chk mh = true ∧ O.nx env mh) : (loopF chk p s (as.map g) env mh).wp O :=
  loop_gen as (fun _ x => g x) (fun i => by rw [List.getElem?_map]) I h0 hs hd
theorem loop_en {α : Type} (as : List α) (g : α → D) (I : Nat → List α → Nv → MH → Prop) (h0 : I 0 as env mh)
    (hs : ∀ i x xs env mh, as.drop i = x :: xs → i < as.length → as[i]? = some x → I i (x :: xs) env mh → chk mh = true ∧ ∃ e, setP p (.tup [.int (i : Nat), g x]) env = some e ∧ (s e mh).wp { nx := I (i + 1) xs, ct := I (i + 1) xs, bk := O.nx, rt := O.rt, ex := O.ex })
    (hd : ∀ env mh, I as.length [] env mh → chk mh = true ∧ O.nx env mh) : (loopF chk p s (enF 0 (as.map g)) env mh).wp O :=
  loop_gen as (fun i x => .tup [.int (i : Nat), g x]) (fun i => by rw [enF_get, List.getElem?_map, Nat.zero_add]; cases as[i]? <;> rfl) I h0 hs hd
theorem loop_rg {α : Type} (as : List α) {n : Nat} (hn : n = as.length) (I : Nat → List α → Nv → MH → Prop) (h0 : I 0 as env mh)
    (hs : ∀ i x xs env mh, as.drop i = x :: xs → i < as.length → as[i]? = some x → I i (x :: xs) env mh → chk mh = true ∧ ∃ e, setP p (.int (i : Nat)) env = some e ∧ (s e mh).wp { nx := I (i + 1) xs, ct := I (i + 1) xs, bk := O.nx, rt := O.rt, ex := O.ex })
    (hd : ∀ env mh, I as.length [] env mh → chk mh = true ∧ O.nx env mh) : (loopF chk p s (rgD 0 n) env mh).wp O :=
  loop_gen as (fun i _ => .int (i : Nat)) (fun i => by
    subst hn
    by_cases h : i < as.length
    · simp [rgD, h]
    · rw [List.getElem?_eq_none (by simp; omega), List.getElem?_eq_none (by omega)]; rfl) I h0 hs hd
/-- a loop of so many laps -/
theorem loop_n {n : Nat} (I : Nat → Nv → MH → Prop) (h0 : I 0 env mh)
    (hs : ∀ i env mh, i < n → I i env mh → chk mh = true ∧ ∃ e, setP p (.int (i : Nat)) env = some e ∧ (s e mh).wp { nx := I (i + 1), ct := I (i + 1), bk := O.nx, rt := O.rt, ex := O.ex })
    (hd : ∀ env mh, I n env mh → chk mh = true ∧ O.nx env mh) : (loopF chk p s (rgD 0 n) env mh).wp O := by
  refine loop_rg (List.range n) (by simp) (fun i _ => I i) h0 ?_ ?_
  · intro i x xs env mh _ hi _ h
    exact hs i env mh (by simpa using hi) h
  · intro env mh h
    exact hd env mh (by simpa using h)
end
end Det
/-! Det, part Se: rows of a net (name, end, end), sorted; comprehensions of pure parts. -/
namespace Det
open PySem
abbrev Row := Str × Str × Str
def rowD (l : Row) : D := .tup [.str l.1, .str l.2.1, .str l.2.2]
def netD (a : List Str) (rows : List Row) (c d : List Str) : D := .tup [.tup (a.map .str), .tup (rows.map rowD), .tup (c.map .str), .tup (d.map .str)]
/-! ### rows -/
theorem dat_row (l : Row) : datD [] 60 (rowD l) = some (.tuple [.str l.1, .str l.2.1, .str l.2.2]) := by
  show (List.mapM (datD [] 59) [D.str l.1, D.str l.2.1, D.str l.2.2]).map PyData.tuple = _
  simp [datD]
theorem datP_row (l : Row) : datP (rowD l) = .tuple [.str l.1, .str l.2.1, .str l.2.2] := by
  unfold datP; rw [dat_row]; rfl
def leR (a b : Row) : Bool := leD (rowD a) (rowD b)
theorem leR_trans {a b c : Row} (h : leR a b = true) (k : leR b c = true) : leR a c = true := leD_total.trans _ _ _ h k
theorem leR_total (a b : Row) : (leR a b || leR b a) = true := by have := leD_total.total (rowD a) (rowD b); simpa [leR] using this
theorem leR_name {a b : Row} (h : a.1 ≠ b.1) : leR a b = leS a.1 b.1 := by
  show (!PySem.W.dataLt (datP (rowD b)) (datP (rowD a))) = _
  rw [datP_row, datP_row, PySem.W.dataLt_tuple, PySem.W.dataLt_cons (by simp [PySem.W.alike])]
  have e : ¬ (PyData.eqv (.str b.1) (.str a.1) = true) := by
    simp only [PyData.eqv, beq_iff_eq]
    exact fun e => h e.symm
  rw [if_neg e, PySem.W.dataLt_str, PySem.W.not_lt_str]
  rfl
theorem okSort_rows (ls : List Row) (h : ls.length ≤ sizeLine) : okSort (ls.map rowD) = true := by
  unfold okSort
  rw [Bool.and_eq_true, Bool.and_eq_true, Bool.and_eq_true]
  refine ⟨⟨⟨?_, ?_⟩, ?_⟩, by rw [List.length_map]; exact decide_eq_true h⟩
  · rw [List.all_map]
    refine List.all_eq_true.mpr fun x _ => ?_
    show ((datD [] 60 (rowD x)).isSome && decide ((datP (rowD x)).depth ≤ 60)) = true
    rw [dat_row, datP_row]
    simp [PyData.depth, PyData.depthAll]
  · rw [List.all_map]
    refine List.all_eq_true.mpr fun x _ => ?_
    show (ls.map rowD).all _ = true
    rw [List.all_map]
    refine List.all_eq_true.mpr fun y _ => ?_
    show PySem.W.alike (datP (rowD x)) (datP (rowD y)) = true
    rw [datP_row, datP_row]
    simp [PySem.W.alike, PySem.W.alikeAll]
  · rw [Bool.or_eq_true]
    refine .inl ?_
    rw [List.all_map]
    refine List.all_eq_true.mpr fun x _ => ?_
    show tupNE (datP (rowD x)) = true
    rw [datP_row]; rfl
theorem o_sorted_r {c : D} {mh : MH} {ls : List Row} (h : itemsD mh c = some (ls.map rowD)) (hl : ls.length ≤ sizeLine) : oSorted [c] mh = some (.ref mh.length, mh ++ [.lst ((isort leR ls).map rowD)]) := by
  unfold oSorted
  simp only [h, okSort_rows ls hl, if_true, isort_map]
  rfl
/-- by name, each name once -/
def Up (l : List Row) : Prop := l.Pairwise fun a b => leS a.1 b.1 = true ∧ a.1 ≠ b.1
theorem Up.le {l : List Row} (h : Up l) : l.Pairwise fun a b => leR a b = true := h.imp fun {a b} q => by rw [leR_name q.2]; exact q.1
theorem Up.nodup {l : List Row} (h : Up l) : l.Nodup := List.nodup_iff_pairwise_ne.mpr (h.imp fun {a b} q e => q.2 (by rw [e]))
theorem Up.srt {l : List Row} (h : Up l) : isort leR l = l := isort_of_sorted l h.le
theorem name_eq {l : List Row} (h : (l.map (·.1)).Nodup) {a b : Row} (ha : a ∈ l) (hb : b ∈ l) (e : a.1 = b.1) : a = b := by
  induction l with
  | nil => cases ha
  | cons c l ih =>
    rw [List.map_cons, List.nodup_cons] at h
    rcases List.mem_cons.mp ha with e1 | ha2
    · rcases List.mem_cons.mp hb with e2 | hb2
      · rw [e1, e2]
      · exact absurd (show c.1 ∈ l.map (·.1) from List.mem_map.mpr ⟨b, hb2, by rw [← e, e1]⟩) h.1
    · rcases List.mem_cons.mp hb with e2 | hb2
      · exact absurd (show c.1 ∈ l.map (·.1) from List.mem_map.mpr ⟨a, ha2, by rw [e, e2]⟩) h.1
      · exact ih h.2 ha2 hb2
theorem rows_anti {l : List Row} (h : (l.map (·.1)).Nodup) : ∀ a ∈ l, ∀ b ∈ l, leR a b = true → leR b a = true → a = b := fun a ha b hb h1 h2 => by
  by_cases e : a.1 = b.1
  · exact name_eq h ha hb e
  · rw [leR_name e] at h1
    rw [leR_name (Ne.symm e)] at h2
    exact absurd (leS_anti h1 h2) e
/-- what goes up and is made of the rows of ls is ls sorted -/
theorem Up.one {l ls : List Row} (h : Up l) (hn : (ls.map (·.1)).Nodup) (hm : ∀ a, a ∈ l ↔ a ∈ ls) : l = isort leR ls := by
  have n2 : ls.Nodup := by
    rw [List.nodup_iff_pairwise_ne] at hn ⊢
    rw [List.pairwise_map] at hn
    exact hn.imp fun {a b} q e => q (by rw [e])
  have p : l.Perm ls := (List.perm_ext_iff_of_nodup h.nodup n2).mpr hm
  rw [← isort_perm (le := leR) (fun a b c h k => leR_trans h k) leR_total p fun a ha b hb h1 h2 => rows_anti hn a (p.mem_iff.mp ha) b (p.mem_iff.mp hb) h1 h2]
  exact h.srt.symm
theorem isort_up {ls : List Row} (hn : (ls.map (·.1)).Nodup) : Up (isort leR ls) := by
  have p := isort_perm_self (le := leR) ls
  have hs := isort_sorted (le := leR) (fun a b c h k => leR_trans h k) leR_total ls
  have hn2 : ((isort leR ls).map (·.1)).Nodup := (p.map (·.1)).nodup_iff.mpr hn
  rw [List.nodup_iff_pairwise_ne, List.pairwise_map] at hn2
  exact (hs.and hn2).imp fun {a b} q => ⟨by rw [← leR_name q.2]; exact q.1, q.2⟩
theorem isort_rows_perm {l₁ l₂ : List Row} (p : l₁.Perm l₂) (hn : (l₁.map (·.1)).Nodup) : isort leR l₁ = isort leR l₂ :=
  isort_perm (le := leR) (fun a b c h k => leR_trans h k) leR_total p (rows_anti hn)
/-! ### ends in their order -/
def nrm (l : Row) : Row := (l.1, mnS l.2.1 l.2.2, mxS l.2.1 l.2.2)
def swp (l : Row) : Row := (l.1, l.2.2, l.2.1)
theorem mn_comm (a b : Str) : mnS a b = mnS b a ∧ mxS a b = mxS b a := by
  unfold mnS mxS
  rw [ltS_iff, ltS_iff]
  cases h1 : leS a b with
  | true => cases h2 : leS b a with
    | true => have := leS_anti h1 h2; subst this; simp
    | false => simp
  | false => cases h2 : leS b a with
    | true => simp
    | false =>
      have := leS_total a b
      rw [h1, h2] at this; cases this
theorem nrm_swp (l : Row) : nrm (swp l) = nrm l := by
  unfold nrm swp
  simp only
  rw [(mn_comm l.2.2 l.2.1).1, (mn_comm l.2.2 l.2.1).2]
theorem nrm_nrm (l : Row) : nrm (nrm l) = nrm l := by
  unfold nrm
  simp only [mnS, mxS, ltS_iff]
  cases h1 : leS l.2.1 l.2.2 with
  | true => cases h2 : leS l.2.2 l.2.1 with
    | true => have := leS_anti h1 h2; rw [this]; simp
    | false => simp [h1, h2]
  | false => cases h2 : leS l.2.2 l.2.1 with
    | true => simp [h1, h2]
    | false =>
      have := leS_total l.2.1 l.2.2
      rw [h1, h2] at this; cases this
theorem nrm_names (ls : List Row) : (ls.map nrm).map (·.1) = ls.map (·.1) := by rw [List.map_map]; rfl
/-! ### comprehensions of pure parts -/
section
variable {mh : MH} {Q : D → MH → Prop} {E : Exn → MH → Prop} {env : Nv} {f ek ev : ME} {ft : MT} {chk : MH → Bool} {p : Pat}
theorem lc_map {α : Type} (as : List α) (g : α → D) (sel : α → Bool) (out : α → D) (hlen : as.length ≤ sizeLine) (hchk : ∀ acc, chk (mh ++ [.lst acc]) = true)
    (hs : ∀ a ∈ as, ∀ acc, ∃ e, setP p (g a) env = some e ∧ (ft e (mh ++ [.lst acc])).wp (fun b h => h = mh ++ [.lst acc] ∧ b = sel a) (fun _ _ => False) ∧ (sel a = true → (f e (mh ++ [.lst acc])).wp (fun y h => h = mh ++ [.lst acc] ∧ y = out a) (fun _ _ => False)))
    (hd : Q (.ref mh.length) (mh ++ [.lst ((as.filter sel).map out)])) : (loopC mh.length chk p ft f env (as.map g) (mh ++ [.lst []])).wp Q E := by
  have hl : ∀ i, (((as.take i).filter sel).map out).length ≤ i := fun i => by
    rw [List.length_map]
    exact Nat.le_trans (List.length_filter_le _ _) (by rw [List.length_take]; omega)
  refine comp_pure (fun i => ((as.take i).filter sel).map out) (by simp) (by simpa using hlen) hl ?_ (hchk _) (by simpa using hd)
  intro i d acc hd
  obtain ⟨a, ha, rfl⟩ : ∃ w, as[i]? = some w ∧ g w = d := by
    rw [List.getElem?_map] at hd
    cases hx : as[i]? with
    | none => rw [hx] at hd; cases hd
    | some w => rw [hx] at hd; exact ⟨w, rfl, Option.some.inj hd⟩
  obtain ⟨e, h1, h2, h3⟩ := hs a (List.mem_of_getElem? ha) acc
  refine ⟨hchk _, e, h1, Res.wp_mono h2 (fun b h q => ?_) fun _ _ q => q⟩
  obtain ⟨rfl, rfl⟩ := q
  have tk : as.take (i + 1) = as.take i ++ [a] := by rw [List.take_add_one, ha]; rfl
  refine ⟨rfl, fun hb => Res.wp_mono (h3 hb) (fun y h q => ?_) fun _ _ q => q, fun hb => ?_⟩
  · obtain ⟨rfl, rfl⟩ := q
    refine ⟨rfl, ?_⟩
    simp [tk, hb]
  · simp [tk, hb]
theorem lc_map2 {α : Type} {n : Nat} {m0 : MH} (mh : MH) (as : List α) (g : α → D) (sel : α → Bool) (out : α → D) (hn : n = mh.length) (hm : m0 = mh ++ [.lst []]) (hlen : as.length ≤ sizeLine) (hchk : ∀ acc, chk (mh ++ [.lst acc]) = true)
    (hs : ∀ a ∈ as, ∀ acc, ∃ e, setP p (g a) env = some e ∧ (ft e (mh ++ [.lst acc])).wp (fun b h => h = mh ++ [.lst acc] ∧ b = sel a) (fun _ _ => False) ∧ (sel a = true → (f e (mh ++ [.lst acc])).wp (fun y h => h = mh ++ [.lst acc] ∧ y = out a) (fun _ _ => False)))
    (hd : Q (.ref mh.length) (mh ++ [.lst ((as.filter sel).map out)])) : (loopC n chk p ft f env (as.map g) m0).wp Q E := by
  subst hn; subst hm
  exact lc_map as g sel out hlen hchk hs hd
theorem loopX_names {α : Type} (g : α → D) (key : α → Str) (hchk : ∀ o, chk (mh ++ [o]) = true) : ∀ (as : List α) (kds : List (L2.Key × D)), kds.length + as.length ≤ sizeLine →
    (∀ a ∈ as, ∀ o, ∃ e, setP p (g a) env = some e ∧ (ek e (mh ++ [o])).wp (fun y h => h = mh ++ [o] ∧ y = .str (key a)) (fun _ _ => False) ∧ (ev e (mh ++ [o])).wp (fun y h => h = mh ++ [o] ∧ y = .bl true) (fun _ _ => False)) →
    (∀ kds', (∀ x : Str, (Sum.inr x : L2.Key) ∈ kds'.map (·.1) ↔ (Sum.inr x : L2.Key) ∈ kds.map (·.1) ∨ x ∈ as.map key) → Q (.ref mh.length) (mh ++ [.dk kds'])) →
    (loopX mh.length chk p yes ek ev env (as.map g) (mh ++ [.dk kds])).wp Q E
  | [], kds, _, _, hq => by
    unfold loopX
    rw [List.map_nil]
    simp only
    rw [if_pos (hchk _), wp_ok]
    exact hq kds fun x => by simp
  | a :: as, kds, hl, hs, hq => by
    have hl2 : kds.length < sizeLine := by simp at hl; omega
    rw [List.map_cons]
    unfold loopX
    rw [if_pos (hchk _)]
    obtain ⟨e, h1, h2, h3⟩ := hs a List.mem_cons_self (.dk kds)
    rw [h1]
    simp only
    rw [wp_bind, wp_nox, wp_yes]
    simp only [if_true]
    rw [wp_bind, wp_nox]
    refine Res.wp_mono h2 (fun y h q => ?_) fun _ _ q => q.elim
    obtain ⟨rfl, rfl⟩ := q
    rw [wp_bind, wp_nox]
    refine Res.wp_mono h3 (fun z h q => ?_) fun _ _ q => q.elim
    obtain ⟨rfl, rfl⟩ := q
    have e1 : (mh ++ [Ob.dk kds])[mh.length]? = some (.dk kds) := by simp
    simp only [e1, dKey]
    rw [if_pos hl2]
    have e2 : (mh ++ [Ob.dk kds]).set mh.length (.dk (putD kds (.inr (key a)) (.bl true))) = mh ++ [.dk (putD kds (.inr (key a)) (.bl true))] := by simp
    rw [e2]
    refine loopX_names g key hchk as _ (by have := putD_len (kds := kds) (k := .inr (key a)) (d := .bl true); simp at hl; omega) (fun b hb => hs b (List.mem_cons_of_mem _ hb)) fun kds' hk => ?_
    refine hq kds' fun x => ?_
    rw [hk x, putD_keys]
    simp [or_assoc]
end
end Det
/-! Det, part Sf: more words: insert, + of lists, slices, x * k. -/
namespace Det
open PySem
theorem repS_len (k : Nat) (x : Str) : (repS k x).length = k * x.length := by
  unfold repS
  show (List.flatten _).toArray.size = _
  simp
  rfl
theorem o_mul_s {x : Str} {k : Int} {mh : MH} (h0 : 0 ≤ k) (h1 : k ≤ 1000) (h2 : x.length ≤ 1000) : oMulX (.str x) (.int k) mh = some (.str (repS k.toNat x), mh) := by
  have h3 : x.length * k.toNat ≤ 1000 * 1000 := Nat.mul_le_mul h2 (by omega)
  simp only [oMulX]
  rw [if_pos ⟨by omega, by omega, by omega⟩]
theorem fq_pl_lst2 {p p' : Pl} {loc : MH} {Q : D → MH → Prop} {o : Ob} {xs : List D} (hb : D.blws (loc.length + 1) xs = true) (q : Q (.rol xs) (p'.ob :: loc)) : FQ (p.ob :: loc) Q (.ref (p'.ob :: loc ++ [o]).length) (p'.ob :: loc ++ [o] ++ [.lst xs]) := by
  rw [fq_new (mh := p.ob :: loc) (xs := xs) (by simp) (by simp)]
  refine ⟨by simpa using hb, ?_, ?_⟩
  · have := kept_pls (p := p) (p' := p') (loc := loc) (g := [o, .lst xs])
    simpa using this
  · simpa using q
theorem wp_insAt_of {fo fi f : ME} {env : Nv} {mh : MH} {Q : D → MH → Prop} {E : Exn → MH → Prop} (h : (fo env mh).wp (fun o h => ∃ n, o = .ref n ∧ (∃ ys, h[n]? = some (.lst ys)) ∧ (fi env h).wp (fun i h2 => (f env h2).wp (fun d h3 => ∃ k xs, i = .int k ∧ h3[n]? = some (.lst xs) ∧ (xs.length < sizeLine ∧ 0 ≤ k ∧ k < 2 ^ 63) ∧ Q .non (h3.set n (.lst (xs.take k.toNat ++ [d] ++ xs.drop k.toNat)))) E) E) E) : (insAt fo fi f env mh).wp Q E := by
  unfold insAt
  rw [wp_bind]
  refine Res.wp_mono h (fun o h q => ?_) fun _ _ q => q
  obtain ⟨n, rfl, ⟨ys, hy⟩, q⟩ := q
  simp only [hy]
  rw [wp_bind]
  refine Res.wp_mono q (fun i h2 q => ?_) fun _ _ q => q
  rw [wp_bind]
  refine Res.wp_mono q (fun d h3 q => ?_) fun _ _ q => q
  obtain ⟨k, xs, rfl, hx, hc, q⟩ := q
  simp only [hx]
  rw [if_pos hc]
  exact wp_ok.mpr q
section
variable {mh : MH}
theorem addX_l {u v : D} {xs ys : List D} (h1 : lstD mh u = some xs) (h2 : lstD mh v = some ys) (hu : (∃ zs, u = .rol zs) ∨ ∃ k, u = .ref k) (hl : xs.length + ys.length ≤ sizeLine) : oAddX u v mh = some (.ref mh.length, mh ++ [.lst (xs ++ ys)]) := by
  unfold oAddX
  rcases hu with ⟨zs, rfl⟩ | ⟨k, rfl⟩
  · simp only [h1, h2, if_pos hl]
  · simp only [h1, h2, if_pos hl]
theorem fq_next {Q : D → MH → Prop} {o : Ob} {xs : List D} : FQ mh Q (.ref (mh ++ [o]).length) (mh ++ [o] ++ [.lst xs]) ↔ D.blws mh.length xs = true ∧ Q (.rol xs) mh := by
  rw [fq_new (xs := xs) (by simp) (by simp)]
  simp

theorem o_sl_ref {n : Nat} {xs : List D} {lo hi : Option Int} (h : mh[n]? = some (.lst xs)) : oSl (.ref n) lo hi mh = some (.ref mh.length, mh ++ [.lst (cutD xs lo hi)]) := by
  simp [oSl, itemsD, h]
end
/-- a cut, what is wanted behind it out of simp's sight -/
theorem seq_cutJ {s t : MS} {O : Po} {env : Nv} {mh : MH} (I : Nv → MH → Prop) (h1 : ∀ J : Nv → MH → Prop, (∀ e h, I e h → J e h) → (s env mh).wp { O with nx := J }) (h2 : ∀ e h, I e h → (t e h).wp O) : (sq s t env mh).wp O :=
  seq_cut I (h1 I fun _ _ q => q) h2
/-- the same at the end of a stretch -/
theorem end_cutJ {s : MS} {O : Po} {env : Nv} {mh : MH} (I : Nv → MH → Prop) (h1 : ∀ J : Nv → MH → Prop, (∀ e h, I e h → J e h) → (s env mh).wp { O with nx := J }) (h2 : ∀ e h, I e h → O.nx e h) : (s env mh).wp O :=
  SRes.wp_mono (h1 I fun _ _ q => q) h2 (fun _ _ q => q) (fun _ _ q => q) (fun _ _ q => q) fun _ _ _ q => q
end Det
namespace K07
open PySem PySem.Spec PyProof.Rows L2 Det
def top (i : Nat) : Stmt := PySem.Challenge.pw_endstell_k07_way_checks.main.body.getD i (.Pass ⟨0, 0, 0, 0⟩)
abbrev st_places_of : Stmt := top 20
abbrev st_link_ends : Stmt := top 21
abbrev st_way_nodes : Stmt := top 23
abbrev st_way_fault : Stmt := top 25
abbrev st_check_way : Stmt := top 26
abbrev st_is_route : Stmt := top 27
abbrev st_is_short : Stmt := top 28
abbrev st_is_probe : Stmt := top 29
abbrev st_reading_of : Stmt := top 30
abbrev st__law_pool : Stmt := top 32
abbrev st__law_pick : Stmt := top 33
abbrev st__law_words : Stmt := top 34
abbrev st__law_net : Stmt := top 35
abbrev st__law_other : Stmt := top 36
abbrev st__law_walk : Stmt := top 37
abbrev st__law_steps : Stmt := top 38
abbrev st__law_kinds : Stmt := top 39
abbrev st__law_told : Stmt := top 40
abbrev st__law_good : Stmt := top 41
abbrev st__law_route : Stmt := top 42
abbrev st__law_yes : Stmt := top 43
abbrev st__law_good_way : Stmt := top 44
abbrev st__law_delays : Stmt := top 45
abbrev st__law_odd : Stmt := top 46
abbrev st__law_bent : Stmt := top 47
abbrev st__law_good_net : Stmt := top 48
abbrev st__law_fixed : Stmt := top 49
abbrev st_law : Stmt := top 50
abbrev st_i_BadWay : Stmt := inClass (top 8) 0
/-! ### the mirrors -/
abbrev N_places_of : List Str := ["net", "nodes", "names", "at", "node", "link"]
noncomputable def m_places_of : Fn := runF 6 <|
    sq (sst 1 (dcp (enm (bi oIx (vr 0) (kn (.int 0)))) (.tp [3, 4]) (yes) (vr 4) (vr 3) [3, 4])) <|
    sq (sst 2 (dcp (enm (bi oIx (vr 0) (kn (.int 1)))) (.tp [3, 5]) (yes) (bi oIx (vr 5) (kn (.int 0))) (vr 3) [3, 5])) <|
    ret (dtup (acons (vr 1) (acons (vr 2) (anil))))
abbrev N_link_ends : List Str := ["net", "name", "low", "high"]
noncomputable def m_link_ends : Fn := runF 4 <|
    ret (dcp (iter (bi oIx (vr 0) (kn (.int 1)))) (.tp [1, 2, 3]) (yes) (vr 1) (dtup (acons (vr 2) (acons (vr 3) (anil)))) [1, 2, 3])
abbrev N_way_nodes : List Str := ["net", "way", "ends", "one", "other", "nodes", "name", "low", "high"]
noncomputable def m_way_nodes : Fn := zF <| runF 9 <|
    sq (sst 2 (cal 1 m_link_ends (acons (vr 0) (anil)))) <|
    sq (asg (.tp [3, 4]) (bi oIxX (vr 2) (bi oIx (vr 1) (kn (.int 0))))) <|
    sq (sif (tand (tb (bi oGt (ap oLen (acons (vr 1) (anil))) (kn (.int 1)))) (tb (bi oIn (vr 3) (bi oIxX (vr 2) (bi oIx (vr 1) (kn (.int 1))))))) (par2 3 4 (acons (vr 4) (acons (vr 3) (anil)))) (nop)) <|
    sq (sst 5 (dlst (acons (vr 3) (acons (vr 4) (anil))))) <|
    sq (sfor (iter (sl (vr 1) (osome (kn (.int 1))) (onone))) (.nm 6) (sq (asg (.tp [7, 8]) (bi oIxX (vr 2) (vr 6))) <|
    drp (app (vr 5) (eif (tb (bi oEq (vr 7) (bi oIx (vr 5) (un oNeg (kn (.int 1)))))) (vr 8) (vr 7))))) <|
    ret (ap oTuple (acons (vr 5) (anil)))
abbrev N_way_fault : List Str := ["net", "thing", "part", "ends", "nodes", "at", "name", "pair", "onward"]
noncomputable def m_way_fault : Fn := zF <| runF 9 <|
    sq (sif (tor (tnot (tru (ap oIsi (acons (vr 1) (acons (kn (.ty "tuple")) (anil)))))) (tb (bi oEq (ap oLen (acons (vr 1) (anil))) (kn (.int 0))))) (ret (un oNeg (kn (.int 1)))) (nop)) <|
    sq (sfor (iter (vr 1)) (.nm 2) (sif (tnot (tru (ap oIsi (acons (vr 2) (acons (kn (.ty "str")) (anil)))))) (ret (un oNeg (kn (.int 1)))) (nop))) <|
    sq (sst 3 (cal 1 m_link_ends (acons (vr 0) (anil)))) <|
    sq (sst 4 (dlst (anil))) <|
    sq (sfor (enm (vr 1)) (.tp [5, 6]) (sq (sif (tb (bi oNotInX (vr 6) (vr 3))) (ret (vr 5)) (nop)) <|
    sq (sst 7 (bi oIxX (vr 3) (vr 6))) <|
    sif (tb (bi oEq (vr 5) (kn (.int 0)))) (sst 4 (dlst (acons (bi oIx (vr 7) (kn (.int 0))) (acons (bi oIx (vr 7) (kn (.int 1))) (anil))))) (sq (sif (tand (tb (bi oEq (vr 5) (kn (.int 1)))) (tb (bi oIn (bi oIx (vr 4) (kn (.int 0))) (vr 7)))) (sst 4 (dlst (acons (bi oIx (vr 4) (kn (.int 1))) (acons (bi oIx (vr 4) (kn (.int 0))) (anil))))) (nop)) <|
    sq (sif (tb (bi oNotIn (bi oIx (vr 4) (un oNeg (kn (.int 1)))) (vr 7))) (ret (vr 5)) (nop)) <|
    sq (sst 8 (eif (tb (bi oEq (bi oIx (vr 7) (kn (.int 0))) (bi oIx (vr 4) (un oNeg (kn (.int 1)))))) (bi oIx (vr 7) (kn (.int 1))) (bi oIx (vr 7) (kn (.int 0))))) <|
    sq (sif (tb (bi oIn (vr 8) (vr 4))) (ret (vr 5)) (nop)) <|
    drp (app (vr 4) (vr 8))))) <|
    ret (kn .non)
abbrev N_check_way : List Str := ["net", "thing", "at"]
noncomputable def m_check_way : Fn := zF <| runF 3 <|
    sq (sst 2 (cal 2 m_way_fault (acons (vr 0) (acons (vr 1) (anil))))) <|
    sif (tb (bi oIsNot (vr 2) (kn .non))) (rse "BadWay" ["at"] (acons (vr 2) (anil))) (nop)
abbrev N_is_route : List Str := ["net", "way", "nodes"]
noncomputable def m_is_route : Fn := zF <| runF 3 <|
    sq (sst 2 (cal 2 m_way_nodes (acons (vr 0) (acons (vr 1) (anil))))) <|
    ret (eand (bi oIn (bi oIx (vr 2) (kn (.int 0))) (bi oIx (vr 0) (kn (.int 2)))) (eand (bi oIn (bi oIx (vr 2) (un oNeg (kn (.int 1)))) (bi oIx (vr 0) (kn (.int 2)))) (bi oLt (bi oIx (vr 2) (kn (.int 0))) (bi oIx (vr 2) (un oNeg (kn (.int 1)))))))
abbrev N_is_short : List Str := ["net", "route", "node"]
noncomputable def m_is_short : Fn := zF <| runF 3 <|
    sq (sfor (iter (sl (cal 2 m_way_nodes (acons (vr 0) (acons (vr 1) (anil)))) (osome (kn (.int 1))) (osome (un oNeg (kn (.int 1)))))) (.nm 2) (sif (tb (bi oIn (vr 2) (bi oIx (vr 0) (kn (.int 2))))) (ret (kn (.bl false))) (nop))) <|
    ret (kn (.bl true))
abbrev N_is_probe : List Str := ["net", "way"]
noncomputable def m_is_probe : Fn := zF <| runF 2 <|
    sq (sif (tb (bi oIsNot (cal 2 m_way_fault (acons (vr 0) (acons (vr 1) (anil)))) (kn .non))) (ret (kn (.bl false))) (nop)) <|
    sq (sif (tand (tb (bi oEq (ap oLen (acons (vr 1) (anil))) (kn (.int 1)))) (tb (bi oIn (bi oIx (vr 1) (kn (.int 0))) (bi oIx (vr 0) (kn (.int 3)))))) (ret (kn (.bl true))) (nop)) <|
    ret (cal 2 m_is_route (acons (vr 0) (acons (vr 1) (anil))))
abbrev N_reading_of : List Str := ["net", "way", "delays", "places", "name"]
noncomputable def m_reading_of : Fn := zF <| runF 5 <|
    sq (sst 3 (bi oIx (cal 1 m_places_of (acons (vr 0) (anil))) (kn (.int 1)))) <|
    ret (ap oSum (acons (fz (lc (iter (vr 1)) (.nm 4) (yes) (bi oIx (vr 2) (bi oIxX (vr 3) (vr 4))) [4])) (anil)))
abbrev N__law_pool : List Str := ["script", "cell"]
noncomputable def m__law_pool : Fn := runF 2 <|
    ret (dlst (acons (kn (.int 0)) (acons (kn (.int 73)) (acons (kn (.int 0)) (acons (fz (lc (iter (sl (vr 0) (onone) (osome (kn (.int 63))))) (.nm 1) (yes) (bi oMod (ap oInt (acons (vr 1) (anil))) (bi oShl (kn (.int 1)) (kn (.int 2800)))) [1])) (anil))))))
abbrev N__law_pick : List Str := ["pool", "many", "cells", "cell", "got"]
noncomputable def m__law_pick : Fn := zF <| runF 5 <|
    sq (sst 2 (bi oIx (vr 0) (kn (.int 3)))) <|
    sq (sif (tand (tb (bi oEq (bi oIx (vr 0) (kn (.int 0))) (kn (.int 0)))) (tb (bi oLt (bi oIx (vr 0) (kn (.int 2))) (ap oLen (acons (vr 2) (anil)))))) (sq (sst 3 (bi oIx (vr 2) (bi oIx (vr 0) (kn (.int 2))))) <|
    sq (setIx (vr 0) (kn (.int 2)) (bi oAdd (bi oIx (vr 0) (kn (.int 2))) (kn (.int 1)))) <|
    sq (sif (tb (bi oGe (vr 3) (bi oPow (kn (.int 10)) (kn (.int 18))))) (setIx (vr 0) (kn (.int 0)) (vr 3)) (nop)) <|
    setIx (vr 0) (kn (.int 1)) (bi oMod (ap oInt (acons (bi oAdd (bi oAdd (bi oMulX (bi oIx (vr 0) (kn (.int 1))) (kn (.int 27011))) (bi oMod (ap oInt (acons (vr 3) (anil))) (kn (.int 1000099)))) (kn (.int 23))) (anil))) (kn (.int 1000099)))) (nop)) <|
    sq (sif (tb (bi oGt (bi oIx (vr 0) (kn (.int 0))) (kn (.int 0)))) (sq (sst 4 (bi oMod (ap oInt (acons (bi oIx (vr 0) (kn (.int 0))) (anil))) (vr 1))) <|
    sq (setIx (vr 0) (kn (.int 0)) (bi oFdiv (bi oIx (vr 0) (kn (.int 0))) (vr 1))) <|
    ret (vr 4)) (nop)) <|
    sq (setIx (vr 0) (kn (.int 1)) (bi oMod (ap oInt (acons (bi oAdd (bi oMulX (bi oIx (vr 0) (kn (.int 1))) (kn (.int 6569))) (kn (.int 43))) (anil))) (kn (.int 1000099)))) <|
    ret (bi oMod (ap oInt (acons (bi oFdiv (bi oIx (vr 0) (kn (.int 1))) (kn (.int 17))) (anil))) (vr 1))
abbrev N__law_words : List Str := ["pool", "many", "letters", "words", "lap", "word", "more", "number"]
noncomputable def m__law_words : Fn := zF <| runF 8 <|
    sq (sst 2 (kn (.str "abcdefghijklmnopqrstuvwxyz"))) <|
    sq (sst 3 (dlst (anil))) <|
    sq (sfor (range1 (vr 1)) (.nm 4) (sq (sst 5 (bi oIx (vr 2) (cal 2 m__law_pick (acons (vr 0) (acons (kn (.int 26)) (anil)))))) <|
    sq (sfor (range1 (cal 2 m__law_pick (acons (vr 0) (acons (kn (.int 3)) (anil))))) (.nm 6) (sst 5 (bi oAdd (vr 5) (bi oIx (kn (.str "7b3y")) (cal 2 m__law_pick (acons (vr 0) (acons (kn (.int 4)) (anil)))))))) <|
    sq (sif (tb (bi oEq (cal 2 m__law_pick (acons (vr 0) (acons (kn (.int 5)) (anil)))) (kn (.int 0)))) (sst 5 (bi oAdd (bi oAdd (vr 5) (kn (.str "."))) (bi oIx (vr 2) (cal 2 m__law_pick (acons (vr 0) (acons (kn (.int 26)) (anil))))))) (nop)) <|
    sq (sif (tor (tb (bi oIn (vr 5) (vr 3))) (tb (bi oIn (vr 5) (dtup (acons (kn (.str "o")) (acons (kn (.str "w")) (anil))))))) (sfor (range1 (bi oAdd (vr 1) (kn (.int 1)))) (.nm 7) (sq (sst 5 (bi oAdd (bi oAdd (kn (.str "p")) (ap oStr (acons (vr 7) (anil)))) (kn (.str "p")))) <|
    sif (tb (bi oNotIn (vr 5) (vr 3))) (brk) (nop))) (nop)) <|
    drp (app (vr 3) (vr 5)))) <|
    ret (vr 3)
abbrev N__law_net : List Str := ["pool", "many", "count", "chain", "nodes", "ends", "lap", "one", "two", "names", "links", "at", "monitors", "given", "node", "name"]
noncomputable def m__law_net : Fn := zF <| runF 16 <|
    sq (sst 4 (cal 2 m__law_words (acons (vr 0) (acons (vr 1) (anil))))) <|
    sq (sst 5 (dlst (anil))) <|
    sq (sif (tru (vr 3)) (sst 5 (lc (range1 (bi oSub (vr 1) (kn (.int 1)))) (.nm 11) (yes) (dtup (acons (bi oIx (vr 4) (vr 11)) (acons (bi oIx (vr 4) (bi oAdd (vr 11) (kn (.int 1)))) (anil)))) [11])) (nop)) <|
    sq (sfor (range1 (bi oSub (vr 2) (ap oLen (acons (vr 5) (anil))))) (.nm 6) (sq (sst 7 (cal 2 m__law_pick (acons (vr 0) (acons (vr 1) (anil))))) <|
    sq (sst 8 (cal 2 m__law_pick (acons (vr 0) (acons (bi oSub (vr 1) (kn (.int 1))) (anil))))) <|
    sq (sif (tb (bi oGe (vr 8) (vr 7))) (sst 8 (bi oAdd (vr 8) (kn (.int 1)))) (nop)) <|
    sif (tand (tb (bi oGt (ap oLen (acons (vr 5) (anil))) (kn (.int 0)))) (tb (bi oEq (cal 2 m__law_pick (acons (vr 0) (acons (kn (.int 5)) (anil)))) (kn (.int 0))))) (drp (app (vr 5) (bi oIx (vr 5) (cal 2 m__law_pick (acons (vr 0) (acons (ap oLen (acons (vr 5) (anil))) (anil))))))) (drp (app (vr 5) (dtup (acons (bi oIx (vr 4) (vr 7)) (acons (bi oIx (vr 4) (vr 8)) (anil)))))))) <|
    sq (sst 9 (cal 2 m__law_words (acons (vr 0) (acons (ap oLen (acons (vr 5) (anil))) (anil))))) <|
    sq (sst 10 (dlst (anil))) <|
    sq (sfor (range1 (ap oLen (acons (vr 5) (anil)))) (.nm 11) (drp (app (vr 10) (dtup (acons (bi oIx (vr 9) (vr 11)) (acons (ap oMin2 (acons (bi oIx (bi oIx (vr 5) (vr 11)) (kn (.int 0))) (acons (bi oIx (bi oIx (vr 5) (vr 11)) (kn (.int 1))) (anil)))) (acons (ap oMax2 (acons (bi oIx (bi oIx (vr 5) (vr 11)) (kn (.int 0))) (acons (bi oIx (bi oIx (vr 5) (vr 11)) (kn (.int 1))) (anil)))) (anil)))))))) <|
    sq (sst 12 (ap oTuple (acons (fz (lc (iter (fz (ap oSorted (acons (vr 4) (anil))))) (.nm 14) (tb (bi oEq (cal 2 m__law_pick (acons (vr 0) (acons (kn (.int 2)) (anil)))) (kn (.int 0)))) (vr 14) [14])) (anil)))) <|
    sq (sst 13 (ap oTuple (acons (fz (lc (iter (fz (ap oSorted (acons (vr 9) (anil))))) (.nm 15) (tb (bi oEq (cal 2 m__law_pick (acons (vr 0) (acons (kn (.int 3)) (anil)))) (kn (.int 0)))) (vr 15) [15])) (anil)))) <|
    ret (fz (dlst (acons (dtup (acons (ap oTuple (acons (fz (ap oSorted (acons (vr 4) (anil)))) (anil))) (acons (ap oTuple (acons (fz (ap oSorted (acons (vr 10) (anil)))) (anil))) (acons (vr 12) (acons (vr 13) (anil)))))) (acons (vr 9) (acons (vr 4) (anil))))))
abbrev N__law_other : List Str := ["link", "node"]
noncomputable def m__law_other : Fn := zF <| runF 2 <|
    sq (sif (tb (bi oEq (bi oIx (vr 0) (kn (.int 1))) (vr 1))) (ret (bi oIx (vr 0) (kn (.int 2)))) (nop)) <|
    ret (bi oIx (vr 0) (kn (.int 1)))
abbrev N__law_walk : List Str := ["pool", "net", "most", "nodes", "way", "lap", "here", "on", "link"]
noncomputable def m__law_walk : Fn := zF <| runF 9 <|
    sq (sst 3 (dlst (acons (bi oIx (bi oIx (vr 1) (kn (.int 0))) (cal 2 m__law_pick (acons (vr 0) (acons (ap oLen (acons (bi oIx (vr 1) (kn (.int 0))) (anil))) (anil))))) (anil)))) <|
    sq (sst 4 (dlst (anil))) <|
    sq (sfor (range1 (vr 2)) (.nm 5) (sq (sst 6 (bi oIx (vr 3) (bi oSub (ap oLen (acons (vr 3) (anil))) (kn (.int 1))))) <|
    sq (sst 7 (fz (lc (iter (bi oIx (vr 1) (kn (.int 1)))) (.nm 8) (tand (tb (bi oIn (vr 6) (dtup (acons (bi oIx (vr 8) (kn (.int 1))) (acons (bi oIx (vr 8) (kn (.int 2))) (anil)))))) (tb (bi oNotIn (cal 2 m__law_other (acons (vr 8) (acons (vr 6) (anil)))) (vr 3)))) (vr 8) [8]))) <|
    sq (sif (tb (bi oEq (ap oLen (acons (vr 7) (anil))) (kn (.int 0)))) (brk) (nop)) <|
    sq (sst 8 (bi oIx (vr 7) (cal 2 m__law_pick (acons (vr 0) (acons (ap oLen (acons (vr 7) (anil))) (anil)))))) <|
    sq (drp (app (vr 4) (bi oIx (vr 8) (kn (.int 0))))) <|
    drp (app (vr 3) (cal 2 m__law_other (acons (vr 8) (acons (vr 6) (anil))))))) <|
    ret (vr 4)
abbrev N__law_steps : List Str := ["net", "thing", "name", "nodes", "at", "found", "link"]
noncomputable def m__law_steps : Fn := runF 7 <|
    sq (sif (tor (tnot (tru (ap oIsi (acons (vr 1) (acons (kn (.ty "tuple")) (anil)))))) (tb (bi oEq (ap oLen (acons (vr 1) (anil))) (kn (.int 0))))) (ret (dlst (acons (un oNeg (kn (.int 1))) (anil)))) (nop)) <|
    sq (sfor (iter (vr 1)) (.nm 2) (sif (tnot (tru (ap oIsi (acons (vr 2) (acons (kn (.ty "str")) (anil)))))) (ret (dlst (acons (un oNeg (kn (.int 1))) (anil)))) (nop))) <|
    sq (sst 3 (dlst (anil))) <|
    sq (sfor (range1 (ap oLen (acons (vr 1) (anil)))) (.nm 4) (sq (sst 5 (fz (lc (iter (bi oIx (vr 0) (kn (.int 1)))) (.nm 6) (tb (bi oEq (bi oIx (vr 6) (kn (.int 0))) (bi oIx (vr 1) (vr 4)))) (vr 6) [6]))) <|
    sq (sif (tb (bi oEq (ap oLen (acons (vr 5) (anil))) (kn (.int 0)))) (ret (dlst (acons (vr 4) (anil)))) (nop)) <|
    sq (sst 6 (bi oIx (vr 5) (kn (.int 0)))) <|
    sq (sif (tand (tb (bi oEq (vr 4) (kn (.int 1)))) (tb (bi oNotIn (bi oIx (vr 3) (kn (.int 1))) (dtup (acons (bi oIx (vr 6) (kn (.int 1))) (acons (bi oIx (vr 6) (kn (.int 2))) (anil))))))) (sst 3 (dlst (acons (bi oIx (vr 3) (kn (.int 1))) (acons (bi oIx (vr 3) (kn (.int 0))) (anil))))) (nop)) <|
    sif (tb (bi oEq (vr 4) (kn (.int 0)))) (sst 3 (dlst (acons (bi oIx (vr 6) (kn (.int 1))) (acons (bi oIx (vr 6) (kn (.int 2))) (anil))))) (sif (tor (tb (bi oNotIn (bi oIx (vr 3) (vr 4)) (dtup (acons (bi oIx (vr 6) (kn (.int 1))) (acons (bi oIx (vr 6) (kn (.int 2))) (anil)))))) (tb (bi oIn (cal 2 m__law_other (acons (vr 6) (acons (bi oIx (vr 3) (vr 4)) (anil)))) (vr 3)))) (ret (dlst (acons (vr 4) (anil)))) (drp (app (vr 3) (cal 2 m__law_other (acons (vr 6) (acons (bi oIx (vr 3) (vr 4)) (anil))))))))) <|
    ret (dlst (acons (kn .non) (acons (vr 3) (anil))))
abbrev N__law_kinds : List Str := ["bad", "found"]
noncomputable def m__law_kinds : Fn := zF <| runF 2 <|
    sq (sst 1 (dlst (anil))) <|
    sq (sif (tru (isE [("BadWay", true)] (vr 0))) (drp (app (vr 1) (kn (.str "ValueError")))) (nop)) <|
    sq (sif (tru (isE [("BadWay", true)] (vr 0))) (drp (app (vr 1) (kn (.str "NetError")))) (nop)) <|
    sq (sif (tru (isE [("BadWay", true)] (vr 0))) (drp (app (vr 1) (kn (.str "DataError")))) (nop)) <|
    sq (sif (tru (isE [("BadWay", false)] (vr 0))) (drp (app (vr 1) (kn (.str "BadName")))) (nop)) <|
    sq (sif (tru (isE [("BadWay", false)] (vr 0))) (drp (app (vr 1) (kn (.str "BadNet")))) (nop)) <|
    sq (sif (tru (isE [("BadWay", true)] (vr 0))) (drp (app (vr 1) (kn (.str "BadWay")))) (nop)) <|
    sq (sif (tru (isE [("BadWay", false)] (vr 0))) (drp (app (vr 1) (kn (.str "BadNumbers")))) (nop)) <|
    sq (sif (tru (isE [("BadWay", false)] (vr 0))) (drp (app (vr 1) (kn (.str "BadBook")))) (nop)) <|
    sq (sif (tru (isE [("BadWay", false)] (vr 0))) (drp (app (vr 1) (kn (.str "BadBounds")))) (nop)) <|
    sq (sif (tru (isE [("BadWay", false)] (vr 0))) (drp (app (vr 1) (kn (.str "BadWood")))) (nop)) <|
    sq (sif (tru (isE [("BadWay", false)] (vr 0))) (drp (app (vr 1) (kn (.str "CallError")))) (nop)) <|
    sq (sif (tru (isE [("BadWay", false)] (vr 0))) (drp (app (vr 1) (kn (.str "BadStep")))) (nop)) <|
    sq (sif (tru (isE [("BadWay", false)] (vr 0))) (drp (app (vr 1) (kn (.str "NoDelays")))) (nop)) <|
    sq (sif (tru (isE [("BadWay", false)] (vr 0))) (drp (app (vr 1) (kn (.str "TextError")))) (nop)) <|
    sq (sif (tru (isE [("BadWay", false)] (vr 0))) (drp (app (vr 1) (kn (.str "BadText")))) (nop)) <|
    sq (sif (tru (isE [("BadWay", false)] (vr 0))) (drp (app (vr 1) (kn (.str "BadCommand")))) (nop)) <|
    sq (sif (tru (isE [("BadWay", false)] (vr 0))) (drp (app (vr 1) (kn (.str "DeskError")))) (nop)) <|
    sq (sif (tru (isE [("BadWay", false)] (vr 0))) (drp (app (vr 1) (kn (.str "NoSuch")))) (nop)) <|
    sq (sif (tru (isE [("BadWay", false)] (vr 0))) (drp (app (vr 1) (kn (.str "Taken")))) (nop)) <|
    ret (vr 1)
abbrev N__law_told : List Str := ["net", "thing", "told", "bad", "row"]
noncomputable def m__law_told : Fn := zF <| runF 5 <|
    sq (tri [("BadWay", true)] 3 (sst 2 (cal 2 m_check_way (acons (vr 0) (acons (vr 1) (anil))))) (sq (sst 4 (dlst (acons (kn (.int 1)) (acons (cal 1 m__law_kinds (acons (vr 3) (anil))) (anil))))) <|
    sq (sif (tru (isE [("BadWay", true)] (vr 3))) (drp (app (vr 4) (fld ["BadWay"] "at" (vr 3)))) (nop)) <|
    ret (vr 4))) <|
    ret (fz (dlst (acons (kn (.int 0)) (acons (vr 2) (anil)))))
abbrev N__law_good : List Str := ["net", "thing", "due", "row"]
noncomputable def m__law_good : Fn := zF <| runF 4 <|
    sq (sst 2 (bi oIx (cal 2 m__law_steps (acons (vr 0) (acons (vr 1) (anil)))) (kn (.int 0)))) <|
    sq (sst 3 (cal 2 m__law_told (acons (vr 0) (acons (vr 1) (anil))))) <|
    sq (sif (tb (bi oIs (vr 2) (kn .non))) (ret (eand (bi oEq (bi oIx (vr 3) (kn (.int 0))) (kn (.int 0))) (bi oIs (bi oIx (vr 3) (kn (.int 1))) (kn .non)))) (nop)) <|
    sq (sif (tor (tb (bi oEq (bi oIx (vr 3) (kn (.int 0))) (kn (.int 0)))) (tb (bi oNe (bi oIx (vr 3) (kn (.int 1))) (fz (dlst (acons (kn (.str "ValueError")) (acons (kn (.str "NetError")) (acons (kn (.str "DataError")) (acons (kn (.str "BadWay")) (anil)))))))))) (ret (kn (.bl false))) (nop)) <|
    ret (eand (ap oIsi (acons (bi oIx (vr 3) (kn (.int 2))) (acons (kn (.ty "int")) (anil)))) (eand (enot (ap oIsi (acons (bi oIx (vr 3) (kn (.int 2))) (acons (kn (.ty "bool")) (anil))))) (bi oEq (bi oIx (vr 3) (kn (.int 2))) (vr 2))))
abbrev N__law_route : List Str := ["net", "way", "nodes"]
noncomputable def m__law_route : Fn := zF <| runF 3 <|
    sq (sst 2 (bi oIx (cal 2 m__law_steps (acons (vr 0) (acons (vr 1) (anil)))) (kn (.int 1)))) <|
    ret (eand (bi oIn (bi oIx (vr 2) (kn (.int 0))) (bi oIx (vr 0) (kn (.int 2)))) (eand (bi oIn (bi oIx (vr 2) (bi oSub (ap oLen (acons (vr 2) (anil))) (kn (.int 1)))) (bi oIx (vr 0) (kn (.int 2)))) (bi oLt (bi oIx (vr 2) (kn (.int 0))) (bi oIx (vr 2) (bi oSub (ap oLen (acons (vr 2) (anil))) (kn (.int 1)))))))
abbrev N__law_yes : List Str := ["told", "due"]
noncomputable def m__law_yes : Fn := zF <| runF 2 <|
    sq (sif (tru (vr 1)) (ret (bi oIs (vr 0) (kn (.bl true)))) (nop)) <|
    ret (bi oIs (vr 0) (kn (.bl false)))
abbrev N__law_good_way : List Str := ["net", "way", "delays", "nodes", "route", "within", "due", "at", "told", "node"]
noncomputable def m__law_good_way : Fn := zF <| runF 10 <|
    sq (sst 3 (bi oIx (cal 2 m__law_steps (acons (vr 0) (acons (vr 1) (anil)))) (kn (.int 1)))) <|
    sq (sst 4 (cal 2 m__law_route (acons (vr 0) (acons (vr 1) (anil))))) <|
    sq (sif (tor (tnot (tru (cal 2 m__law_good (acons (vr 0) (acons (vr 1) (anil)))))) (tnot (tru (cal 2 m__law_yes (acons (cal 2 m_is_route (acons (vr 0) (acons (vr 1) (anil)))) (acons (vr 4) (anil))))))) (ret (kn (.bl false))) (nop)) <|
    sq (sif (tnot (tru (cal 2 m__law_yes (acons (cal 2 m_is_probe (acons (vr 0) (acons (vr 1) (anil)))) (acons (eor (vr 4) (eand (bi oEq (ap oLen (acons (vr 1) (anil))) (kn (.int 1))) (bi oIn (bi oIx (vr 1) (kn (.int 0))) (bi oIx (vr 0) (kn (.int 3)))))) (anil)))))) (ret (kn (.bl false))) (nop)) <|
    sq (sif (tru (vr 4)) (sq (sst 5 (fz (lc (iter (sl (vr 3) (osome (kn (.int 1))) (osome (bi oSub (ap oLen (acons (vr 3) (anil))) (kn (.int 1)))))) (.nm 9) (tb (bi oIn (vr 9) (bi oIx (vr 0) (kn (.int 2))))) (vr 9) [9]))) <|
    sif (tnot (tru (cal 2 m__law_yes (acons (cal 2 m_is_short (acons (vr 0) (acons (vr 1) (anil)))) (acons (bi oEq (ap oLen (acons (vr 5) (anil))) (kn (.int 0))) (anil)))))) (ret (kn (.bl false))) (nop)) (nop)) <|
    sq (sst 6 (kn (.int 0))) <|
    sq (sfor (range1 (ap oLen (acons (bi oIx (vr 0) (kn (.int 1))) (anil)))) (.nm 7) (sif (tb (bi oIn (bi oIx (bi oIx (bi oIx (vr 0) (kn (.int 1))) (vr 7)) (kn (.int 0))) (vr 1))) (sst 6 (bi oAdd (vr 6) (bi oIx (vr 2) (vr 7)))) (nop))) <|
    sq (sst 8 (cal 3 m_reading_of (acons (vr 0) (acons (vr 1) (acons (vr 2) (anil)))))) <|
    ret (eand (ap oIsi (acons (vr 8) (acons (kn (.ty "int")) (anil)))) (eand (enot (ap oIsi (acons (vr 8) (acons (kn (.ty "bool")) (anil))))) (bi oEq (vr 8) (vr 6))))
abbrev N__law_delays : List Str := ["pool", "many", "row", "lap", "way"]
noncomputable def m__law_delays : Fn := zF <| runF 5 <|
    sq (sst 2 (dlst (anil))) <|
    sq (sfor (range1 (vr 1)) (.nm 3) (sq (sst 4 (cal 2 m__law_pick (acons (vr 0) (acons (kn (.int 5)) (anil))))) <|
    sif (tb (bi oEq (vr 4) (kn (.int 0)))) (drp (app (vr 2) (bi oPow (kn (.int 10)) (kn (.int 9))))) (sif (tb (bi oEq (vr 4) (kn (.int 1)))) (drp (app (vr 2) (un oNeg (bi oPow (kn (.int 10)) (kn (.int 9)))))) (sif (tb (bi oEq (vr 4) (kn (.int 2)))) (drp (app (vr 2) (cal 2 m__law_pick (acons (vr 0) (acons (kn (.int 10)) (anil)))))) (drp (app (vr 2) (bi oSub (bi oMulX (cal 2 m__law_pick (acons (vr 0) (acons (kn (.int 31607)) (anil)))) (cal 2 m__law_pick (acons (vr 0) (acons (kn (.int 31607)) (anil))))) (bi oMulX (kn (.int 5)) (bi oPow (kn (.int 10)) (kn (.int 8))))))))))) <|
    ret (ap oTuple (acons (vr 2) (anil)))
abbrev N__law_odd : List Str := ["pool", "net", "name", "rows"]
noncomputable def m__law_odd : Fn := zF <| runF 4 <|
    sq (sst 2 (bi oIx (bi oIx (bi oIx (vr 1) (kn (.int 1))) (cal 2 m__law_pick (acons (vr 0) (acons (ap oLen (acons (bi oIx (vr 1) (kn (.int 1))) (anil))) (anil))))) (kn (.int 0)))) <|
    sq (sst 3 (dlst (acons (kn (.str "")) (acons (kn (.str "A")) (acons (bi oAdd (vr 2) (kn (.str "x"))) (acons (bi oAdd (vr 2) (kn (.str "."))) (acons (bi oIx (bi oIx (vr 1) (kn (.int 0))) (kn (.int 0))) (acons (bi oAdd (kn (.str " ")) (vr 2)) (acons (kn (.str "zz9")) (acons (kn .non) (acons (kn (.bl true)) (acons (kn (.int 0)) (acons (dtup (acons (vr 2) (anil))) (acons (fz (dlst (acons (vr 2) (anil)))) (acons (bi oPow (kn (.int 10)) (kn (.int 60))) (acons (dtup (anil)) (anil))))))))))))))))) <|
    sq (drp (app (vr 3) (vr 2))) <|
    ret (bi oIx (vr 3) (cal 2 m__law_pick (acons (vr 0) (acons (ap oLen (acons (vr 3) (anil))) (anil)))))
abbrev N__law_bent : List Str := ["pool", "net", "way", "row", "at", "kind", "name"]
noncomputable def m__law_bent : Fn := zF <| runF 7 <|
    sq (sst 3 (ap oList (acons (vr 2) (anil)))) <|
    sq (sst 4 (cal 2 m__law_pick (acons (vr 0) (acons (bi oAdd (ap oLen (acons (vr 3) (anil))) (kn (.int 1))) (anil))))) <|
    sq (sst 5 (cal 2 m__law_pick (acons (vr 0) (acons (kn (.int 7)) (anil))))) <|
    sq (sst 6 (bi oIx (bi oIx (bi oIx (vr 1) (kn (.int 1))) (cal 2 m__law_pick (acons (vr 0) (acons (ap oLen (acons (bi oIx (vr 1) (kn (.int 1))) (anil))) (anil))))) (kn (.int 0)))) <|
    sq (sif (tb (bi oEq (vr 5) (kn (.int 0)))) (drp (insAt (vr 3) (vr 4) (cal 2 m__law_odd (acons (vr 0) (acons (vr 1) (anil)))))) (sif (tand (tb (bi oEq (vr 5) (kn (.int 1)))) (tb (bi oLt (vr 4) (ap oLen (acons (vr 3) (anil)))))) (setIx (vr 3) (vr 4) (cal 2 m__law_odd (acons (vr 0) (acons (vr 1) (anil))))) (sif (tand (tb (bi oEq (vr 5) (kn (.int 2)))) (tb (bi oLt (vr 4) (ap oLen (acons (vr 3) (anil)))))) (drp (insAt (vr 3) (cal 2 m__law_pick (acons (vr 0) (acons (bi oAdd (ap oLen (acons (vr 3) (anil))) (kn (.int 1))) (anil)))) (bi oIx (vr 3) (vr 4)))) (sif (tand (tb (bi oEq (vr 5) (kn (.int 3)))) (tb (bi oLt (vr 4) (ap oLen (acons (vr 3) (anil)))))) (setIx (vr 3) (vr 4) (vr 6)) (sif (tand (tb (bi oEq (vr 5) (kn (.int 4)))) (tb (bi oLt (vr 4) (ap oLen (acons (vr 3) (anil)))))) (drp (popAt (vr 3) (vr 4))) (sif (tand (tb (bi oEq (vr 5) (kn (.int 5)))) (tb (bi oLt (bi oAdd (vr 4) (kn (.int 1))) (ap oLen (acons (vr 3) (anil)))))) (sst 3 (bi oAddX (fz (bi oAddX (fz (sl (vr 3) (onone) (osome (vr 4)))) (dlst (acons (bi oIx (vr 3) (bi oAdd (vr 4) (kn (.int 1)))) (acons (bi oIx (vr 3) (vr 4)) (anil)))))) (fz (sl (vr 3) (osome (bi oAdd (vr 4) (kn (.int 2)))) (onone))))) (drp (insAt (vr 3) (vr 4) (vr 6))))))))) <|
    ret (ap oTuple (acons (vr 3) (anil)))
abbrev N__law_good_net : List Str := ["pool", "net", "laps", "lap", "way", "delays", "back", "bent", "at"]
noncomputable def m__law_good_net : Fn := zF <| runF 9 <|
    sq (sfor (range1 (vr 2)) (.nm 3) (sq (sst 4 (cal 3 m__law_walk (acons (vr 0) (acons (vr 1) (acons (bi oAdd (kn (.int 1)) (cal 2 m__law_pick (acons (vr 0) (acons (kn (.int 7)) (anil))))) (anil)))))) <|
    sq (sst 5 (cal 2 m__law_delays (acons (vr 0) (acons (ap oLen (acons (bi oIx (vr 1) (kn (.int 1))) (anil))) (anil))))) <|
    sq (sst 6 (ap oTuple (acons (fz (lc (range1 (ap oLen (acons (vr 4) (anil)))) (.nm 8) (yes) (bi oIx (vr 4) (bi oSub (bi oSub (ap oLen (acons (vr 4) (anil))) (kn (.int 1))) (vr 8))) [8])) (anil)))) <|
    sq (sif (tand (tb (bi oGt (ap oLen (acons (vr 4) (anil))) (kn (.int 0)))) (tor (tnot (tru (cal 3 m__law_good_way (acons (vr 1) (acons (ap oTuple (acons (vr 4) (anil))) (acons (vr 5) (anil))))))) (tnot (tru (cal 3 m__law_good_way (acons (vr 1) (acons (vr 6) (acons (vr 5) (anil))))))))) (ret (kn (.bl false))) (nop)) <|
    sq (sif (tnot (tru (cal 3 m__law_good_way (acons (vr 1) (acons (dtup (acons (bi oIx (bi oIx (bi oIx (vr 1) (kn (.int 1))) (cal 2 m__law_pick (acons (vr 0) (acons (ap oLen (acons (bi oIx (vr 1) (kn (.int 1))) (anil))) (anil))))) (kn (.int 0))) (anil))) (acons (vr 5) (anil))))))) (ret (kn (.bl false))) (nop)) <|
    sq (sst 7 (cal 3 m__law_bent (acons (vr 0) (acons (vr 1) (acons (vr 4) (anil)))))) <|
    sif (tor (tnot (tru (cal 2 m__law_good (acons (vr 1) (acons (vr 7) (anil)))))) (tor (tnot (tru (cal 2 m__law_good (acons (vr 1) (acons (cal 3 m__law_bent (acons (vr 0) (acons (vr 1) (acons (vr 7) (anil))))) (anil)))))) (tnot (tru (cal 2 m__law_good (acons (vr 1) (acons (fz (ap oList (acons (vr 4) (anil)))) (anil)))))))) (ret (kn (.bl false))) (nop))) <|
    ret (kn (.bl true))
abbrev N__law_fixed : List Str := ["pool", "nodes", "names", "plan", "links", "net", "rows", "delays", "row", "wrong", "way", "name", "things", "thing", "at"]
noncomputable def m__law_fixed : Fn := zF <| runF 15 <|
    sq (sst 1 (fz (ap oSorted (acons (cal 2 m__law_words (acons (vr 0) (acons (kn (.int 5)) (anil)))) (anil))))) <|
    sq (sst 2 (cal 2 m__law_words (acons (vr 0) (acons (kn (.int 7)) (anil))))) <|
    sq (sst 3 (fz (dlst (acons (dtup (acons (kn (.int 0)) (acons (kn (.int 1)) (anil)))) (acons (dtup (acons (kn (.int 1)) (acons (kn (.int 4)) (anil)))) (acons (dtup (acons (kn (.int 1)) (acons (kn (.int 2)) (anil)))) (acons (dtup (acons (kn (.int 2)) (acons (kn (.int 4)) (anil)))) (acons (dtup (acons (kn (.int 0)) (acons (kn (.int 4)) (anil)))) (acons (dtup (acons (kn (.int 3)) (acons (kn (.int 4)) (anil)))) (acons (dtup (acons (kn (.int 0)) (acons (kn (.int 1)) (anil)))) (anil))))))))))) <|
    sq (sst 4 (fz (lc (range1 (kn (.int 7))) (.nm 14) (yes) (dtup (acons (bi oIx (vr 2) (vr 14)) (acons (bi oIx (vr 1) (bi oIx (bi oIx (vr 3) (vr 14)) (kn (.int 0)))) (acons (bi oIx (vr 1) (bi oIx (bi oIx (vr 3) (vr 14)) (kn (.int 1)))) (anil))))) [14]))) <|
    sq (sst 5 (dtup (acons (ap oTuple (acons (vr 1) (anil))) (acons (ap oTuple (acons (fz (ap oSorted (acons (vr 4) (anil)))) (anil))) (acons (dtup (acons (bi oIx (vr 1) (kn (.int 0))) (acons (bi oIx (vr 1) (kn (.int 2))) (acons (bi oIx (vr 1) (kn (.int 4))) (anil))))) (acons (ap oTuple (acons (fz (ap oSorted (acons (fz (dlst (acons (bi oIx (vr 2) (kn (.int 4))) (acons (bi oIx (vr 2) (kn (.int 5))) (anil))))) (anil)))) (anil))) (anil))))))) <|
    sq (sst 6 (fz (dlst (acons (dtup (acons (kn (.int 0)) (acons (kn (.int 1)) (anil)))) (acons (dtup (acons (kn (.int 1)) (acons (kn (.int 0)) (anil)))) (acons (dtup (acons (kn (.int 0)) (acons (kn (.int 2)) (acons (kn (.int 3)) (anil))))) (acons (dtup (acons (kn (.int 3)) (acons (kn (.int 2)) (acons (kn (.int 0)) (anil))))) (acons (dtup (acons (kn (.int 4)) (anil))) (acons (dtup (acons (kn (.int 5)) (anil))) (acons (dtup (acons (kn (.int 0)) (anil))) (acons (dtup (acons (kn (.int 2)) (acons (kn (.int 3)) (anil)))) (acons (dtup (acons (kn (.int 3)) (acons (kn (.int 2)) (anil)))) (acons (dtup (acons (kn (.int 2)) (anil))) (acons (dtup (acons (kn (.int 3)) (anil))) (acons (dtup (acons (kn (.int 6)) (acons (kn (.int 2)) (anil)))) (acons (dtup (acons (kn (.int 2)) (acons (kn (.int 6)) (anil)))) (acons (dtup (acons (kn (.int 4)) (acons (kn (.int 5)) (anil)))) (anil)))))))))))))))))) <|
    sq (sst 6 (fz (bi oAddX (vr 6) (dlst (acons (dtup (acons (kn (.int 5)) (acons (kn (.int 4)) (anil)))) (acons (dtup (acons (kn (.int 6)) (acons (kn (.int 1)) (acons (kn (.int 5)) (anil))))) (acons (dtup (acons (kn (.int 6)) (acons (kn (.int 1)) (anil)))) (acons (dtup (acons (kn (.int 6)) (acons (kn (.int 2)) (acons (kn (.int 3)) (acons (kn (.int 5)) (anil)))))) (acons (dtup (acons (kn (.int 5)) (acons (kn (.int 3)) (acons (kn (.int 2)) (acons (kn (.int 0)) (anil)))))) (acons (dtup (acons (kn (.int 5)) (acons (kn (.int 1)) (anil)))) (acons (dtup (acons (kn (.int 6)) (anil))) (acons (dtup (acons (kn (.int 1)) (anil))) (anil))))))))))))) <|
    sq (sst 7 (cal 2 m__law_delays (acons (vr 0) (acons (kn (.int 7)) (anil))))) <|
    sq (sfor (iter (vr 6)) (.nm 8) (sif (tnot (tru (cal 3 m__law_good_way (acons (vr 5) (acons (ap oTuple (acons (fz (lc (iter (vr 8)) (.nm 14) (yes) (bi oIx (vr 2) (vr 14)) [14])) (anil))) (acons (vr 7) (anil))))))) (ret (kn (.bl false))) (nop))) <|
    sq (sst 9 (dlst (acons (dtup (acons (kn (.int 0)) (acons (kn (.int 6)) (anil)))) (acons (dtup (acons (kn (.int 0)) (acons (kn (.int 0)) (anil)))) (acons (dtup (acons (kn (.int 0)) (acons (kn (.int 3)) (anil)))) (acons (dtup (acons (kn (.int 0)) (acons (kn (.int 1)) (acons (kn (.int 4)) (anil))))) (acons (dtup (acons (kn (.int 0)) (acons (kn (.int 2)) (acons (kn (.int 3)) (acons (kn (.int 4)) (anil)))))) (acons (dtup (acons (kn (.int 0)) (acons (kn (.int 2)) (acons (kn (.int 3)) (acons (kn (.int 1)) (anil)))))) (acons (dtup (acons (kn (.int 4)) (acons (kn (.int 1)) (acons (kn (.int 0)) (anil))))) (acons (dtup (acons (kn (.int 2)) (acons (kn (.int 3)) (acons (kn (.int 1)) (anil))))) (acons (dtup (acons (kn (.int 1)) (acons (kn (.int 0)) (acons (kn (.int 6)) (anil))))) (anil)))))))))))) <|
    sq (drp (app (vr 9) (dtup (acons (kn (.int 0)) (acons (kn (.int 1)) (acons (kn (.int 5)) (acons (kn (.int 5)) (anil)))))))) <|
    sq (sfor (iter (vr 9)) (.nm 8) (sq (sst 10 (ap oTuple (acons (fz (lc (iter (vr 8)) (.nm 14) (yes) (bi oIx (vr 2) (vr 14)) [14])) (anil)))) <|
    sif (tor (tb (bi oIs (bi oIx (cal 2 m__law_steps (acons (vr 5) (acons (vr 10) (anil)))) (kn (.int 0))) (kn .non))) (tor (tnot (tru (cal 2 m__law_good (acons (vr 5) (acons (vr 10) (anil)))))) (tnot (tru (cal 2 m__law_good (acons (vr 5) (acons (bi oAdd (vr 10) (dtup (acons (kn .non) (anil)))) (anil)))))))) (ret (kn (.bl false))) (nop))) <|
    sq (sst 11 (bi oIx (vr 2) (kn (.int 0)))) <|
    sq (sst 12 (fz (dlst (acons (kn .non) (acons (dtup (anil)) (acons (fz (dlst (anil))) (acons (fz (dlst (acons (vr 11) (anil)))) (acons (vr 11) (acons (kn (.int 7)) (acons (kn (.bl true)) (acons (dtup (acons (kn (.int 1)) (anil))) (acons (dtup (acons (kn (.bl true)) (anil))) (acons (dtup (acons (kn .non) (anil))) (acons (dtup (acons (dtup (acons (vr 11) (anil))) (anil))) (acons (dtup (acons (vr 11) (acons (kn (.int 0)) (anil)))) (acons (dtup (acons (kn (.str "")) (anil))) (acons (dtup (acons (fz (dlst (acons (vr 11) (anil)))) (anil))) (anil)))))))))))))))))) <|
    sq (sfor (iter (fz (bi oAddX (vr 12) (dlst (acons (dtup (acons (vr 11) (acons (bi oIx (vr 2) (kn (.int 1))) (acons (bi oAdd (bi oIx (vr 1) (kn (.int 0))) (kn (.str "-"))) (anil))))) (acons (dtup (acons (vr 11) (acons (kn (.str "")) (acons (kn (.int 1)) (anil))))) (acons (dtup (acons (bi oAdd (bi oIx (vr 1) (kn (.int 0))) (kn (.str "-"))) (anil))) (anil)))))))) (.nm 13) (sif (tor (tb (bi oIs (bi oIx (cal 2 m__law_steps (acons (vr 5) (acons (vr 13) (anil)))) (kn (.int 0))) (kn .non))) (tnot (tru (cal 2 m__law_good (acons (vr 5) (acons (vr 13) (anil))))))) (ret (kn (.bl false))) (nop))) <|
    sq (sif (tor (tb (bi oIsNot (calK 2 [1, 0] m_check_way (acons (dtup (acons (vr 11) (anil))) (acons (vr 5) (anil)))) (kn .non))) (tb (bi oIsNot (calK 2 [1, 0] m_is_route (acons (dtup (acons (bi oIx (vr 2) (kn (.int 4))) (anil))) (acons (vr 5) (anil)))) (kn (.bl true))))) (ret (kn (.bl false))) (nop)) <|
    sq (sif (tor (tb (bi oIsNot (calK 2 [1, 0] m_is_short (acons (dtup (acons (vr 11) (acons (bi oIx (vr 2) (kn (.int 1))) (anil)))) (acons (vr 5) (anil)))) (kn (.bl true)))) (tb (bi oIsNot (cal 2 m_is_short (acons (vr 5) (acons (dtup (acons (vr 11) (acons (bi oIx (vr 2) (kn (.int 2))) (acons (bi oIx (vr 2) (kn (.int 3))) (anil))))) (anil)))) (kn (.bl false))))) (ret (kn (.bl false))) (nop)) <|
    sq (sif (tb (bi oIsNot (calK 2 [1, 0] m_is_probe (acons (dtup (acons (bi oIx (vr 2) (kn (.int 5))) (anil))) (acons (vr 5) (anil)))) (kn (.bl true)))) (ret (kn (.bl false))) (nop)) <|
    ret (bi oEq (calK 3 [2, 1, 0] m_reading_of (acons (bi oMulX (dtup (acons (kn (.int 1)) (anil))) (kn (.int 7))) (acons (dtup (acons (vr 11) (acons (bi oIx (vr 2) (kn (.int 1))) (anil)))) (acons (vr 5) (anil))))) (kn (.int 2)))
abbrev N_law : List Str := ["script", "pool", "lap", "many", "made", "net", "low", "high", "way", "back", "thing", "at"]
noncomputable def m_law : Fn := zF <| runF 12 <|
    sq (sst 1 (cal 1 m__law_pool (acons (vr 0) (anil)))) <|
    sq (sif (tnot (tru (cal 1 m__law_fixed (acons (vr 1) (anil))))) (ret (kn (.bl false))) (nop)) <|
    sq (sfor (range1 (kn (.int 2))) (.nm 2) (sq (sst 3 (bi oAdd (kn (.int 2)) (cal 2 m__law_pick (acons (vr 1) (acons (kn (.int 6)) (anil)))))) <|
    sq (sst 4 (cal 4 m__law_net (acons (vr 1) (acons (vr 3) (acons (bi oAdd (kn (.int 1)) (cal 2 m__law_pick (acons (vr 1) (acons (kn (.int 10)) (anil))))) (acons (bi oEq (cal 2 m__law_pick (acons (vr 1) (acons (kn (.int 3)) (anil)))) (kn (.int 0))) (anil))))))) <|
    sif (tnot (tru (cal 3 m__law_good_net (acons (vr 1) (acons (bi oIx (vr 4) (kn (.int 0))) (acons (kn (.int 4)) (anil))))))) (ret (kn (.bl false))) (nop))) <|
    sq (sif (tb (bi oEq (cal 2 m__law_pick (acons (vr 1) (acons (kn (.int 7)) (anil)))) (kn (.int 0)))) (sq (sst 4 (cal 4 m__law_net (acons (vr 1) (acons (kn (.int 30)) (acons (kn (.int 60)) (acons (kn (.bl true)) (anil))))))) <|
    sq (sst 5 (bi oIx (vr 4) (kn (.int 0)))) <|
    sq (sst 6 (ap oMin2 (acons (bi oIx (bi oIx (vr 4) (kn (.int 2))) (kn (.int 0))) (acons (bi oIx (bi oIx (vr 4) (kn (.int 2))) (kn (.int 29))) (anil))))) <|
    sq (sst 7 (ap oMax2 (acons (bi oIx (bi oIx (vr 4) (kn (.int 2))) (kn (.int 0))) (acons (bi oIx (bi oIx (vr 4) (kn (.int 2))) (kn (.int 29))) (anil))))) <|
    sq (sst 5 (dtup (acons (bi oIx (vr 5) (kn (.int 0))) (acons (bi oIx (vr 5) (kn (.int 1))) (acons (dtup (acons (vr 6) (acons (vr 7) (anil)))) (acons (bi oIx (vr 5) (kn (.int 3))) (anil))))))) <|
    sq (sst 8 (ap oTuple (acons (sl (bi oIx (vr 4) (kn (.int 1))) (onone) (osome (kn (.int 29)))) (anil)))) <|
    sq (sst 9 (ap oTuple (acons (fz (lc (range1 (kn (.int 29))) (.nm 11) (yes) (bi oIx (vr 8) (bi oSub (kn (.int 28)) (vr 11))) [11])) (anil)))) <|
    sq (sfor (iter (dtup (acons (vr 8) (acons (vr 9) (anil))))) (.nm 10) (sq (sif (tnot (tru (cal 3 m__law_good_way (acons (vr 5) (acons (vr 10) (acons (bi oMulX (dtup (acons (bi oPow (kn (.int 10)) (kn (.int 9))) (anil))) (kn (.int 60))) (anil))))))) (ret (kn (.bl false))) (nop)) <|
    sif (tor (tnot (tru (cal 2 m__law_good (acons (vr 5) (acons (bi oAdd (vr 10) (dtup (acons (bi oIx (bi oIx (vr 4) (kn (.int 1))) (kn (.int 29))) (anil)))) (anil)))))) (tnot (tru (cal 2 m__law_good (acons (vr 5) (acons (bi oAdd (vr 10) (dtup (acons (kn (.str "zz9")) (anil)))) (anil))))))) (ret (kn (.bl false))) (nop))) <|
    sif (tnot (tru (cal 3 m__law_good_net (acons (vr 1) (acons (bi oIx (vr 4) (kn (.int 0))) (acons (kn (.int 2)) (anil))))))) (ret (kn (.bl false))) (nop)) (nop)) <|
    ret (kn (.bl true))
/-! ### what the top has made -/
structure Pk (K : PySem.W.Frag) (mg : MGl) where
  d_places_of : DefAt K mg "places_of" "places_of" st_places_of ["net"]
  d_link_ends : DefAt K mg "link_ends" "link_ends" st_link_ends ["net"]
  d_way_nodes : DefAt K mg "way_nodes" "way_nodes" st_way_nodes ["net", "way"]
  d_way_fault : DefAt K mg "way_fault" "way_fault" st_way_fault ["net", "thing"]
  d_check_way : DefAt K mg "check_way" "check_way" st_check_way ["net", "thing"]
  d_is_route : DefAt K mg "is_route" "is_route" st_is_route ["net", "way"]
  d_is_short : DefAt K mg "is_short" "is_short" st_is_short ["net", "route"]
  d_is_probe : DefAt K mg "is_probe" "is_probe" st_is_probe ["net", "way"]
  d_reading_of : DefAt K mg "reading_of" "reading_of" st_reading_of ["net", "way", "delays"]
  d__law_pool : DefAt K mg "_law_pool" "_law_pool" st__law_pool ["script"]
  d__law_pick : DefAt K mg "_law_pick" "_law_pick" st__law_pick ["pool", "many"]
  d__law_words : DefAt K mg "_law_words" "_law_words" st__law_words ["pool", "many"]
  d__law_net : DefAt K mg "_law_net" "_law_net" st__law_net ["pool", "many", "count", "chain"]
  d__law_other : DefAt K mg "_law_other" "_law_other" st__law_other ["link", "node"]
  d__law_walk : DefAt K mg "_law_walk" "_law_walk" st__law_walk ["pool", "net", "most"]
  d__law_steps : DefAt K mg "_law_steps" "_law_steps" st__law_steps ["net", "thing"]
  d__law_kinds : DefAt K mg "_law_kinds" "_law_kinds" st__law_kinds ["bad"]
  d__law_told : DefAt K mg "_law_told" "_law_told" st__law_told ["net", "thing"]
  d__law_good : DefAt K mg "_law_good" "_law_good" st__law_good ["net", "thing"]
  d__law_route : DefAt K mg "_law_route" "_law_route" st__law_route ["net", "way"]
  d__law_yes : DefAt K mg "_law_yes" "_law_yes" st__law_yes ["told", "due"]
  d__law_good_way : DefAt K mg "_law_good_way" "_law_good_way" st__law_good_way ["net", "way", "delays"]
  d__law_delays : DefAt K mg "_law_delays" "_law_delays" st__law_delays ["pool", "many"]
  d__law_odd : DefAt K mg "_law_odd" "_law_odd" st__law_odd ["pool", "net"]
  d__law_bent : DefAt K mg "_law_bent" "_law_bent" st__law_bent ["pool", "net", "way"]
  d__law_good_net : DefAt K mg "_law_good_net" "_law_good_net" st__law_good_net ["pool", "net", "laps"]
  d__law_fixed : DefAt K mg "_law_fixed" "_law_fixed" st__law_fixed ["pool"]
  d_law : DefAt K mg "law" "law" st_law ["script"]
  z_ValueError : mg "ValueError" = none
  z_bool : mg "bool" = none
  z_enumerate : mg "enumerate" = none
  z_int : mg "int" = none
  z_isinstance : mg "isinstance" = none
  z_len : mg "len" = none
  z_list : mg "list" = none
  z_max : mg "max" = none
  z_min : mg "min" = none
  z_range : mg "range" = none
  z_sorted : mg "sorted" = none
  z_str : mg "str" = none
  z_sum : mg "sum" = none
  z_tuple : mg "tuple" = none
  e_NetError : ClsD K mg "NetError"
  e_DataError : ClsD K mg "DataError"
  e_CallError : ClsD K mg "CallError"
  e_TextError : ClsD K mg "TextError"
  e_DeskError : ClsD K mg "DeskError"
  e_BadName : ClsD K mg "BadName"
  e_BadNet : ClsD K mg "BadNet"
  e_BadWay : ClsD K mg "BadWay"
  e_BadNumbers : ClsD K mg "BadNumbers"
  e_BadBook : ClsD K mg "BadBook"
  e_BadBounds : ClsD K mg "BadBounds"
  e_BadWood : ClsD K mg "BadWood"
  e_BadStep : ClsD K mg "BadStep"
  e_NoDelays : ClsD K mg "NoDelays"
  e_BadText : ClsD K mg "BadText"
  e_BadCommand : ClsD K mg "BadCommand"
  e_NoSuch : ClsD K mg "NoSuch"
  e_Taken : ClsD K mg "Taken"
  r_BadWay : RaiseD K e_BadWay.a ["at"] "BadWay.__init__" st_i_BadWay
  s_BadWay_BadBook : PySem.W.subIn K (.ref e_BadWay.a) (.ref e_BadBook.a) = some false
  s_BadWay_BadBounds : PySem.W.subIn K (.ref e_BadWay.a) (.ref e_BadBounds.a) = some false
  s_BadWay_BadCommand : PySem.W.subIn K (.ref e_BadWay.a) (.ref e_BadCommand.a) = some false
  s_BadWay_BadName : PySem.W.subIn K (.ref e_BadWay.a) (.ref e_BadName.a) = some false
  s_BadWay_BadNet : PySem.W.subIn K (.ref e_BadWay.a) (.ref e_BadNet.a) = some false
  s_BadWay_BadNumbers : PySem.W.subIn K (.ref e_BadWay.a) (.ref e_BadNumbers.a) = some false
  s_BadWay_BadStep : PySem.W.subIn K (.ref e_BadWay.a) (.ref e_BadStep.a) = some false
  s_BadWay_BadText : PySem.W.subIn K (.ref e_BadWay.a) (.ref e_BadText.a) = some false
  s_BadWay_BadWay : PySem.W.subIn K (.ref e_BadWay.a) (.ref e_BadWay.a) = some true
  s_BadWay_BadWood : PySem.W.subIn K (.ref e_BadWay.a) (.ref e_BadWood.a) = some false
  s_BadWay_CallError : PySem.W.subIn K (.ref e_BadWay.a) (.ref e_CallError.a) = some false
  s_BadWay_DataError : PySem.W.subIn K (.ref e_BadWay.a) (.ref e_DataError.a) = some true
  s_BadWay_DeskError : PySem.W.subIn K (.ref e_BadWay.a) (.ref e_DeskError.a) = some false
  s_BadWay_NetError : PySem.W.subIn K (.ref e_BadWay.a) (.ref e_NetError.a) = some true
  s_BadWay_NoDelays : PySem.W.subIn K (.ref e_BadWay.a) (.ref e_NoDelays.a) = some false
  s_BadWay_NoSuch : PySem.W.subIn K (.ref e_BadWay.a) (.ref e_NoSuch.a) = some false
  s_BadWay_Taken : PySem.W.subIn K (.ref e_BadWay.a) (.ref e_Taken.a) = some false
  s_BadWay_TextError : PySem.W.subIn K (.ref e_BadWay.a) (.ref e_TextError.a) = some false
  s_BadWay_ValueError : PySem.W.subIn K (.ref e_BadWay.a) (.type "ValueError") = some true
section
variable {P : Program} {w : World} {K : PySem.W.Frag} {mg : MGl} {base : Heap}
theorem kb_check_way_1_0 (T : Pk K mg) : ∀ (s : Shared) (ws : List Value), ws.length = (["thing", "net"] : List Str).length → BindsTo s T.d_check_way.fd ⟨[], (["thing", "net"] : List Str).zip ws⟩ ((["net", "thing"] : List Str).zip (([1, 0] : List Nat).map fun i => ws.getD i .none)) := by
  obtain ⟨oc, od, kV, doc, pmm, an, cdv, ct, osl, e, lk, hcd⟩ := T.d_check_way.fn.ex
  rw [e]
  intro s ws hl
  match ws, hl with
  | [u0, u1], _ => exact .of_eq rfl
theorem kb_is_probe_1_0 (T : Pk K mg) : ∀ (s : Shared) (ws : List Value), ws.length = (["way", "net"] : List Str).length → BindsTo s T.d_is_probe.fd ⟨[], (["way", "net"] : List Str).zip ws⟩ ((["net", "way"] : List Str).zip (([1, 0] : List Nat).map fun i => ws.getD i .none)) := by
  obtain ⟨oc, od, kV, doc, pmm, an, cdv, ct, osl, e, lk, hcd⟩ := T.d_is_probe.fn.ex
  rw [e]
  intro s ws hl
  match ws, hl with
  | [u0, u1], _ => exact .of_eq rfl
theorem kb_is_route_1_0 (T : Pk K mg) : ∀ (s : Shared) (ws : List Value), ws.length = (["way", "net"] : List Str).length → BindsTo s T.d_is_route.fd ⟨[], (["way", "net"] : List Str).zip ws⟩ ((["net", "way"] : List Str).zip (([1, 0] : List Nat).map fun i => ws.getD i .none)) := by
  obtain ⟨oc, od, kV, doc, pmm, an, cdv, ct, osl, e, lk, hcd⟩ := T.d_is_route.fn.ex
  rw [e]
  intro s ws hl
  match ws, hl with
  | [u0, u1], _ => exact .of_eq rfl
theorem kb_is_short_1_0 (T : Pk K mg) : ∀ (s : Shared) (ws : List Value), ws.length = (["route", "net"] : List Str).length → BindsTo s T.d_is_short.fd ⟨[], (["route", "net"] : List Str).zip ws⟩ ((["net", "route"] : List Str).zip (([1, 0] : List Nat).map fun i => ws.getD i .none)) := by
  obtain ⟨oc, od, kV, doc, pmm, an, cdv, ct, osl, e, lk, hcd⟩ := T.d_is_short.fn.ex
  rw [e]
  intro s ws hl
  match ws, hl with
  | [u0, u1], _ => exact .of_eq rfl
theorem kb_reading_of_2_1_0 (T : Pk K mg) : ∀ (s : Shared) (ws : List Value), ws.length = (["delays", "way", "net"] : List Str).length → BindsTo s T.d_reading_of.fd ⟨[], (["delays", "way", "net"] : List Str).zip ws⟩ ((["net", "way", "delays"] : List Str).zip (([2, 1, 0] : List Nat).map fun i => ws.getD i .none)) := by
  obtain ⟨oc, od, kV, doc, pmm, an, cdv, ct, osl, e, lk, hcd⟩ := T.d_reading_of.fn.ex
  rw [e]
  intro s ws hl
  match ws, hl with
  | [u0, u1, u2], _ => exact .of_eq rfl
theorem sc_i_BadWay : FnScope ["self", "at"] ["self", "at"] (defScope st_i_BadWay) := ⟨rfl, rfl, rfl, by decide +kernel, rfl, by decide +kernel, by decide +kernel⟩
theorem ok_i_BadWay (T : Pk K mg) : FnOk P w K mg base (L2.CX P w) 1 T.r_BadWay.fI T.r_BadWay.fd ["self", "at"] (spIni K ["at"]) := okI1 T.r_BadWay.fn sc_i_BadWay fun cdv A outer s H E => pss_one (ps_ost (pv 0) (pv 1))
theorem sc_places_of : FnScope N_places_of ["net"] (defScope st_places_of) := ⟨rfl, rfl, rfl, by decide +kernel, rfl, by decide +kernel, by decide +kernel⟩
theorem ok_places_of (T : Pk K mg) : DOk P w K mg base 1 T.d_places_of.a T.d_places_of.fd ["net"] m_places_of := by
  refine okF T.d_places_of.fn sc_places_of (by decide) fun cdv A outer s H E hr => ?_
  have hu : (A.deeper (envOfC "places_of" (defScope st_places_of) s.heap.objs.size T.d_places_of.a cdv)).units + 64 < cLine := by have := hr.un; omega
  have hu5 : (A.deeper (envOfC "places_of" (defScope st_places_of) s.heap.objs.size T.d_places_of.a cdv)).units + 65 < cLine := by have := hr.un; omega
  have tk := takes_of (X := cxOf (L2.CX P w) P w K mg base N_places_of "places_of" (defScope st_places_of) T.d_places_of.a cdv A outer s H E) rfl rfl rfl rfl
  exact ss_cons (ss_setDc (i := 1) (own := [("at", 3), ("node", 4)]) rfl sc_places_of.nd (si_enum T.z_enumerate (se_ix (sv 0) (sint))) (blkOk_of (show blkB N_places_of (defScope st_places_of) _ [("at", 3), ("node", 4)] = true by decide +kernel)) (by decide) (fun s1 H1 C1 cl1 fp1 => sg_tup rfl (sgs_cons (i := 3) (sgs_cons (i := 4) (sgs_nil) sc_places_of.nd) sc_places_of.nd)) (fun s1 H1 C1 cl1 fp1 => sts_nil) (fun s1 H1 C1 cl1 fp1 => sv 4) (fun s1 H1 C1 cl1 fp1 => sv 3) (hsw := by rfl)) (
    ss_cons (ss_setDc (i := 2) (own := [("at", 3), ("link", 5)]) rfl sc_places_of.nd (si_enum T.z_enumerate (se_ix (sv 0) (sint))) (blkOk_of (show blkB N_places_of (defScope st_places_of) _ [("at", 3), ("link", 5)] = true by decide +kernel)) (by decide) (fun s1 H1 C1 cl1 fp1 => sg_tup rfl (sgs_cons (i := 3) (sgs_cons (i := 5) (sgs_nil) sc_places_of.nd) sc_places_of.nd)) (fun s1 H1 C1 cl1 fp1 => sts_nil) (fun s1 H1 C1 cl1 fp1 => se_ix (sv 5) (sint)) (fun s1 H1 C1 cl1 fp1 => sv 3) (hsw := by rfl)) (
    ss_one (ss_ret (se_tup (sa_cons (sv 1) (sa_cons (sv 2) (sa_nil)))))))
theorem sc_link_ends : FnScope N_link_ends ["net"] (defScope st_link_ends) := ⟨rfl, rfl, rfl, by decide +kernel, rfl, by decide +kernel, by decide +kernel⟩
theorem ok_link_ends (T : Pk K mg) : DOk P w K mg base 1 T.d_link_ends.a T.d_link_ends.fd ["net"] m_link_ends := by
  refine okF T.d_link_ends.fn sc_link_ends (by decide) fun cdv A outer s H E hr => ?_
  have hu : (A.deeper (envOfC "link_ends" (defScope st_link_ends) s.heap.objs.size T.d_link_ends.a cdv)).units + 64 < cLine := by have := hr.un; omega
  have hu5 : (A.deeper (envOfC "link_ends" (defScope st_link_ends) s.heap.objs.size T.d_link_ends.a cdv)).units + 65 < cLine := by have := hr.un; omega
  have tk := takes_of (X := cxOf (L2.CX P w) P w K mg base N_link_ends "link_ends" (defScope st_link_ends) T.d_link_ends.a cdv A outer s H E) rfl rfl rfl rfl
  exact ss_one (ss_ret (se_dcp (own := [("name", 1), ("low", 2), ("high", 3)]) rfl sc_link_ends.nd (si_any (se_ix (sv 0) (sint))) (blkOk_of (show blkB N_link_ends (defScope st_link_ends) _ [("name", 1), ("low", 2), ("high", 3)] = true by decide +kernel)) (by decide) (fun s1 H1 C1 cl1 fp1 => sg_tup rfl (sgs_cons (i := 1) (sgs_cons (i := 2) (sgs_cons (i := 3) (sgs_nil) sc_link_ends.nd) sc_link_ends.nd) sc_link_ends.nd)) (fun s1 H1 C1 cl1 fp1 => sts_nil) (fun s1 H1 C1 cl1 fp1 => sv 1) (fun s1 H1 C1 cl1 fp1 => se_tup (sa_cons (sv 2) (sa_cons (sv 3) (sa_nil))))))
theorem sc_way_nodes : FnScope N_way_nodes ["net", "way"] (defScope st_way_nodes) := ⟨rfl, rfl, rfl, by decide +kernel, rfl, by decide +kernel, by decide +kernel⟩
theorem ok_way_nodes (T : Pk K mg) : DOk P w K mg base 2 T.d_way_nodes.a T.d_way_nodes.fd ["net", "way"] m_way_nodes := by
  refine okZ <| okF T.d_way_nodes.fn sc_way_nodes (by decide) fun cdv A outer s H E hr => ?_
  have hu : (A.deeper (envOfC "way_nodes" (defScope st_way_nodes) s.heap.objs.size T.d_way_nodes.a cdv)).units + 64 < cLine := by have := hr.un; omega
  have hu5 : (A.deeper (envOfC "way_nodes" (defScope st_way_nodes) s.heap.objs.size T.d_way_nodes.a cdv)).units + 65 < cLine := by have := hr.un; omega
  have tk := takes_of (X := cxOf (L2.CX P w) P w K mg base N_way_nodes "way_nodes" (defScope st_way_nodes) T.d_way_nodes.a cdv A outer s H E) rfl rfl rfl rfl
  exact ss_cons (ss_set (i := 2) (se_call tk ((ok_link_ends T).mono (by decide)) hr T.d_link_ends.hm T.d_link_ends.hk T.d_link_ends.bi (sa_cons (sv 0) (sa_nil))) sc_way_nodes.nd) (
    ss_cons (ss_asg (se_ixX hu (sv 2) (se_ix (sv 1) (sint))) (sg_tup rfl (sgs_cons (i := 3) (sgs_cons (i := 4) (sgs_nil) sc_way_nodes.nd) sc_way_nodes.nd))) (
    ss_cons (ss_if ((sw_and (tcmp r_gt (fun _ _ _ _ h => h) (se_blt r_len T.z_len (sa_cons (sv 1) (sa_nil))) (sint) (nomark _)) (sw_and1 (tcmp (r_in hu5) (fun _ _ _ _ h => h) (sv 3) (se_ixX hu (sv 2) (se_ix (sv 1) (sint))) (by rfl)))).pt) (ss_one (ss_par2 (i := 3) (j := 4) rfl sc_way_nodes.nd (sa_cons (sv 4) (sa_cons (sv 3) (sa_nil))) (by decide))) (ss_nil)) (
    ss_cons (ss_set (i := 5) (se_lst (sa_cons (sv 3) (sa_cons (sv 4) (sa_nil)))) sc_way_nodes.nd) (
    ss_cons (ss_for (passes_of rfl) rfl (si_any (se_sl (sv 1) (so_some (sint)) (so_none))) (sg_name (i := 6) sc_way_nodes.nd) (ss_cons (ss_asg (se_ixX hu (sv 2) (sv 6)) (sg_tup rfl (sgs_cons (i := 7) (sgs_cons (i := 8) (sgs_nil) sc_way_nodes.nd) sc_way_nodes.nd))) (
    ss_one (ss_drop (se_app (sv 5) (se_if (tcmp (r_eq hu) (fun _ _ _ _ h => h) (sv 7) (se_ix (sv 5) (sun r_neg (fun _ _ _ h => h) (sint))) (nomark _)) (sv 8) (sv 7))))))) (
    ss_one (ss_ret (se_typ r_tuple T.z_tuple (sa_cons (sv 5) (sa_nil)))))))))
theorem sc_way_fault : FnScope N_way_fault ["net", "thing"] (defScope st_way_fault) := ⟨rfl, rfl, rfl, by decide +kernel, rfl, by decide +kernel, by decide +kernel⟩
theorem ok_way_fault (T : Pk K mg) : DOk P w K mg base 2 T.d_way_fault.a T.d_way_fault.fd ["net", "thing"] m_way_fault := by
  refine okZ <| okF T.d_way_fault.fn sc_way_fault (by decide) fun cdv A outer s H E hr => ?_
  have hu : (A.deeper (envOfC "way_fault" (defScope st_way_fault) s.heap.objs.size T.d_way_fault.a cdv)).units + 64 < cLine := by have := hr.un; omega
  have hu5 : (A.deeper (envOfC "way_fault" (defScope st_way_fault) s.heap.objs.size T.d_way_fault.a cdv)).units + 65 < cLine := by have := hr.un; omega
  have tk := takes_of (X := cxOf (L2.CX P w) P w K mg base N_way_fault "way_fault" (defScope st_way_fault) T.d_way_fault.a cdv A outer s H E) rfl rfl rfl rfl
  exact ss_cons (ss_if ((sw_or (st_not (stru (se_blt r_isi T.z_isinstance (sa_cons (sv 1) (sa_cons (s_ty T.z_tuple) (sa_nil)))))) (sw_or1 (tcmp (r_eq hu) (fun _ _ _ _ h => h) (se_blt r_len T.z_len (sa_cons (sv 1) (sa_nil))) (sint) (nomark _)))).pt) (ss_one (ss_ret (sun r_neg (fun _ _ _ h => h) (sint)))) (ss_nil)) (
    ss_cons (ss_for (passes_of rfl) rfl (si_any (sv 1)) (sg_name (i := 2) sc_way_fault.nd) (ss_one (ss_if (st_not (stru (se_blt r_isi T.z_isinstance (sa_cons (sv 2) (sa_cons (s_ty T.z_str) (sa_nil)))))) (ss_one (ss_ret (sun r_neg (fun _ _ _ h => h) (sint)))) (ss_nil)))) (
    ss_cons (ss_set (i := 3) (se_call tk ((ok_link_ends T).mono (by decide)) hr T.d_link_ends.hm T.d_link_ends.hk T.d_link_ends.bi (sa_cons (sv 0) (sa_nil))) sc_way_fault.nd) (
    ss_cons (ss_set (i := 4) (se_lst (sa_nil)) sc_way_fault.nd) (
    ss_cons (ss_for (passes_of rfl) rfl (si_enum T.z_enumerate (sv 1)) (sg_tup rfl (sgs_cons (i := 5) (sgs_cons (i := 6) (sgs_nil) sc_way_fault.nd) sc_way_fault.nd)) (ss_cons (ss_if (tcmp (r_notInX hu5) (fun _ _ _ _ h => h) (sv 6) (sv 3) (by rfl)) (ss_one (ss_ret (sv 5))) (ss_nil)) (
    ss_cons (ss_set (i := 7) (se_ixX hu (sv 3) (sv 6)) sc_way_fault.nd) (
    ss_one (ss_if (tcmp (r_eq hu) (fun _ _ _ _ h => h) (sv 5) (sint) (nomark _)) (ss_one (ss_set (i := 4) (se_lst (sa_cons (se_ix (sv 7) (sint)) (sa_cons (se_ix (sv 7) (sint)) (sa_nil)))) sc_way_fault.nd)) (ss_cons (ss_if ((sw_and (tcmp (r_eq hu) (fun _ _ _ _ h => h) (sv 5) (sint) (nomark _)) (sw_and1 (tcmp (r_in hu5) (fun _ _ _ _ h => h) (se_ix (sv 4) (sint)) (sv 7) (by rfl)))).pt) (ss_one (ss_set (i := 4) (se_lst (sa_cons (se_ix (sv 4) (sint)) (sa_cons (se_ix (sv 4) (sint)) (sa_nil)))) sc_way_fault.nd)) (ss_nil)) (
    ss_cons (ss_if (tcmp (r_notIn hu5) (fun _ _ _ _ h => h) (se_ix (sv 4) (sun r_neg (fun _ _ _ h => h) (sint))) (sv 7) (by rfl)) (ss_one (ss_ret (sv 5))) (ss_nil)) (
    ss_cons (ss_set (i := 8) (se_if (tcmp (r_eq hu) (fun _ _ _ _ h => h) (se_ix (sv 7) (sint)) (se_ix (sv 4) (sun r_neg (fun _ _ _ h => h) (sint))) (nomark _)) (se_ix (sv 7) (sint)) (se_ix (sv 7) (sint))) sc_way_fault.nd) (
    ss_cons (ss_if (tcmp (r_in hu5) (fun _ _ _ _ h => h) (sv 8) (sv 4) (by rfl)) (ss_one (ss_ret (sv 5))) (ss_nil)) (
    ss_one (ss_drop (se_app (sv 4) (sv 8))))))))))))) (
    ss_one (ss_ret (snon)))))))
theorem sc_check_way : FnScope N_check_way ["net", "thing"] (defScope st_check_way) := ⟨rfl, rfl, rfl, by decide +kernel, rfl, by decide +kernel, by decide +kernel⟩
theorem ok_check_way (T : Pk K mg) : DOk P w K mg base 3 T.d_check_way.a T.d_check_way.fd ["net", "thing"] m_check_way := by
  refine okZ <| okF T.d_check_way.fn sc_check_way (by decide) fun cdv A outer s H E hr => ?_
  have hu : (A.deeper (envOfC "check_way" (defScope st_check_way) s.heap.objs.size T.d_check_way.a cdv)).units + 64 < cLine := by have := hr.un; omega
  have hu5 : (A.deeper (envOfC "check_way" (defScope st_check_way) s.heap.objs.size T.d_check_way.a cdv)).units + 65 < cLine := by have := hr.un; omega
  have tk := takes_of (X := cxOf (L2.CX P w) P w K mg base N_check_way "check_way" (defScope st_check_way) T.d_check_way.a cdv A outer s H E) rfl rfl rfl rfl
  exact ss_cons (ss_set (i := 2) (se_call tk ((ok_way_fault T).mono (by decide)) hr T.d_way_fault.hm T.d_way_fault.hk T.d_way_fault.bi (sa_cons (sv 0) (sa_cons (sv 1) (sa_nil)))) sc_check_way.nd) (
    ss_one (ss_if (tcmp r_isNot (fun _ _ _ _ h => h) (sv 2) (snon) (nomark _)) (ss_one (ss_rse rfl tk T.r_BadWay.T T.r_BadWay.iC T.r_BadWay.tI (ok_i_BadWay T) (hr.mono (by decide)) T.r_BadWay.bi T.e_BadWay.mgc T.e_BadWay.ns T.r_BadWay.nf (by decide) (by decide) (sa_cons (sv 2) (sa_nil)))) (ss_nil)))
theorem sc_is_route : FnScope N_is_route ["net", "way"] (defScope st_is_route) := ⟨rfl, rfl, rfl, by decide +kernel, rfl, by decide +kernel, by decide +kernel⟩
theorem ok_is_route (T : Pk K mg) : DOk P w K mg base 3 T.d_is_route.a T.d_is_route.fd ["net", "way"] m_is_route := by
  refine okZ <| okF T.d_is_route.fn sc_is_route (by decide) fun cdv A outer s H E hr => ?_
  have hu : (A.deeper (envOfC "is_route" (defScope st_is_route) s.heap.objs.size T.d_is_route.a cdv)).units + 64 < cLine := by have := hr.un; omega
  have hu5 : (A.deeper (envOfC "is_route" (defScope st_is_route) s.heap.objs.size T.d_is_route.a cdv)).units + 65 < cLine := by have := hr.un; omega
  have tk := takes_of (X := cxOf (L2.CX P w) P w K mg base N_is_route "is_route" (defScope st_is_route) T.d_is_route.a cdv A outer s H E) rfl rfl rfl rfl
  exact ss_cons (ss_set (i := 2) (se_call tk ((ok_way_nodes T).mono (by decide)) hr T.d_way_nodes.hm T.d_way_nodes.hk T.d_way_nodes.bi (sa_cons (sv 0) (sa_cons (sv 1) (sa_nil)))) sc_is_route.nd) (
    ss_one (ss_ret (se_and (scmp (r_in hu5) (fun _ _ _ _ h => h) (se_ix (sv 2) (sint)) (se_ix (sv 0) (sint)) (by rfl)) (se_and (scmp (r_in hu5) (fun _ _ _ _ h => h) (se_ix (sv 2) (sun r_neg (fun _ _ _ h => h) (sint))) (se_ix (sv 0) (sint)) (by rfl)) (se_one (scmp r_lt (fun _ _ _ _ h => h) (se_ix (sv 2) (sint)) (se_ix (sv 2) (sun r_neg (fun _ _ _ h => h) (sint))) (nomark _)))))))
theorem sc_is_short : FnScope N_is_short ["net", "route"] (defScope st_is_short) := ⟨rfl, rfl, rfl, by decide +kernel, rfl, by decide +kernel, by decide +kernel⟩
theorem ok_is_short (T : Pk K mg) : DOk P w K mg base 3 T.d_is_short.a T.d_is_short.fd ["net", "route"] m_is_short := by
  refine okZ <| okF T.d_is_short.fn sc_is_short (by decide) fun cdv A outer s H E hr => ?_
  have hu : (A.deeper (envOfC "is_short" (defScope st_is_short) s.heap.objs.size T.d_is_short.a cdv)).units + 64 < cLine := by have := hr.un; omega
  have hu5 : (A.deeper (envOfC "is_short" (defScope st_is_short) s.heap.objs.size T.d_is_short.a cdv)).units + 65 < cLine := by have := hr.un; omega
  have tk := takes_of (X := cxOf (L2.CX P w) P w K mg base N_is_short "is_short" (defScope st_is_short) T.d_is_short.a cdv A outer s H E) rfl rfl rfl rfl
  exact ss_cons (ss_for (passes_of rfl) rfl (si_any (se_sl (se_call tk ((ok_way_nodes T).mono (by decide)) hr T.d_way_nodes.hm T.d_way_nodes.hk T.d_way_nodes.bi (sa_cons (sv 0) (sa_cons (sv 1) (sa_nil)))) (so_some (sint)) (so_some (sun r_neg (fun _ _ _ h => h) (sint))))) (sg_name (i := 2) sc_is_short.nd) (ss_one (ss_if (tcmp (r_in hu5) (fun _ _ _ _ h => h) (sv 2) (se_ix (sv 0) (sint)) (by rfl)) (ss_one (ss_ret (sbl))) (ss_nil)))) (
    ss_one (ss_ret (sbl)))
theorem sc_is_probe : FnScope N_is_probe ["net", "way"] (defScope st_is_probe) := ⟨rfl, rfl, rfl, by decide +kernel, rfl, by decide +kernel, by decide +kernel⟩
theorem ok_is_probe (T : Pk K mg) : DOk P w K mg base 4 T.d_is_probe.a T.d_is_probe.fd ["net", "way"] m_is_probe := by
  refine okZ <| okF T.d_is_probe.fn sc_is_probe (by decide) fun cdv A outer s H E hr => ?_
  have hu : (A.deeper (envOfC "is_probe" (defScope st_is_probe) s.heap.objs.size T.d_is_probe.a cdv)).units + 64 < cLine := by have := hr.un; omega
  have hu5 : (A.deeper (envOfC "is_probe" (defScope st_is_probe) s.heap.objs.size T.d_is_probe.a cdv)).units + 65 < cLine := by have := hr.un; omega
  have tk := takes_of (X := cxOf (L2.CX P w) P w K mg base N_is_probe "is_probe" (defScope st_is_probe) T.d_is_probe.a cdv A outer s H E) rfl rfl rfl rfl
  exact ss_cons (ss_if (tcmp r_isNot (fun _ _ _ _ h => h) (se_call tk ((ok_way_fault T).mono (by decide)) hr T.d_way_fault.hm T.d_way_fault.hk T.d_way_fault.bi (sa_cons (sv 0) (sa_cons (sv 1) (sa_nil)))) (snon) (nomark _)) (ss_one (ss_ret (sbl))) (ss_nil)) (
    ss_cons (ss_if ((sw_and (tcmp (r_eq hu) (fun _ _ _ _ h => h) (se_blt r_len T.z_len (sa_cons (sv 1) (sa_nil))) (sint) (nomark _)) (sw_and1 (tcmp (r_in hu5) (fun _ _ _ _ h => h) (se_ix (sv 1) (sint)) (se_ix (sv 0) (sint)) (by rfl)))).pt) (ss_one (ss_ret (sbl))) (ss_nil)) (
    ss_one (ss_ret (se_call tk ((ok_is_route T).mono (by decide)) hr T.d_is_route.hm T.d_is_route.hk T.d_is_route.bi (sa_cons (sv 0) (sa_cons (sv 1) (sa_nil)))))))
theorem sc_reading_of : FnScope N_reading_of ["net", "way", "delays"] (defScope st_reading_of) := ⟨rfl, rfl, rfl, by decide +kernel, rfl, by decide +kernel, by decide +kernel⟩
theorem ok_reading_of (T : Pk K mg) : DOk P w K mg base 2 T.d_reading_of.a T.d_reading_of.fd ["net", "way", "delays"] m_reading_of := by
  refine okZ <| okF T.d_reading_of.fn sc_reading_of (by decide) fun cdv A outer s H E hr => ?_
  have hu : (A.deeper (envOfC "reading_of" (defScope st_reading_of) s.heap.objs.size T.d_reading_of.a cdv)).units + 64 < cLine := by have := hr.un; omega
  have hu5 : (A.deeper (envOfC "reading_of" (defScope st_reading_of) s.heap.objs.size T.d_reading_of.a cdv)).units + 65 < cLine := by have := hr.un; omega
  have tk := takes_of (X := cxOf (L2.CX P w) P w K mg base N_reading_of "reading_of" (defScope st_reading_of) T.d_reading_of.a cdv A outer s H E) rfl rfl rfl rfl
  exact ss_cons (ss_set (i := 3) (se_ix (se_call tk ((ok_places_of T).mono (by decide)) hr T.d_places_of.hm T.d_places_of.hk T.d_places_of.bi (sa_cons (sv 0) (sa_nil))) (sint)) sc_reading_of.nd) (
    ss_one (ss_ret (se_blt (r_sum rfl) T.z_sum (sa_cons (se_fz (se_lc (own := [("name", 4)]) rfl sc_reading_of.nd (si_any (sv 1)) (blkOk_of (show blkB N_reading_of (defScope st_reading_of) _ [("name", 4)] = true by decide +kernel)) (by decide) (fun s1 H1 C1 cl1 fp1 => sg_name (i := 4) sc_reading_of.nd) (fun s1 H1 C1 cl1 fp1 => sts_nil) (fun s1 H1 C1 cl1 fp1 => se_ix (sv 2) (se_ixX hu (sv 3) (sv 4))))) (sa_nil)))))
theorem sc__law_pool : FnScope N__law_pool ["script"] (defScope st__law_pool) := ⟨rfl, rfl, rfl, by decide +kernel, rfl, by decide +kernel, by decide +kernel⟩
theorem ok__law_pool (T : Pk K mg) : DOk P w K mg base 1 T.d__law_pool.a T.d__law_pool.fd ["script"] m__law_pool := by
  refine okF T.d__law_pool.fn sc__law_pool (by decide) fun cdv A outer s H E hr => ?_
  have hu : (A.deeper (envOfC "_law_pool" (defScope st__law_pool) s.heap.objs.size T.d__law_pool.a cdv)).units + 64 < cLine := by have := hr.un; omega
  have hu5 : (A.deeper (envOfC "_law_pool" (defScope st__law_pool) s.heap.objs.size T.d__law_pool.a cdv)).units + 65 < cLine := by have := hr.un; omega
  have tk := takes_of (X := cxOf (L2.CX P w) P w K mg base N__law_pool "_law_pool" (defScope st__law_pool) T.d__law_pool.a cdv A outer s H E) rfl rfl rfl rfl
  exact ss_one (ss_ret (se_lst (sa_cons (sint) (sa_cons (sint) (sa_cons (sint) (sa_cons (se_fz (se_lc (own := [("cell", 1)]) rfl sc__law_pool.nd (si_any (se_sl (sv 0) (so_none) (so_some (sint)))) (blkOk_of (show blkB N__law_pool (defScope st__law_pool) _ [("cell", 1)] = true by decide +kernel)) (by decide) (fun s1 H1 C1 cl1 fp1 => sg_name (i := 1) sc__law_pool.nd) (fun s1 H1 C1 cl1 fp1 => sts_nil) (fun s1 H1 C1 cl1 fp1 => sbin r_mod (fun _ _ _ _ h => h) (se_typ r_intc T.z_int (sa_cons (sv 1) (sa_nil))) (sbin r_shl (fun _ _ _ _ h => h) (sint) (sint))))) (sa_nil)))))))
theorem sc__law_pick : FnScope N__law_pick ["pool", "many"] (defScope st__law_pick) := ⟨rfl, rfl, rfl, by decide +kernel, rfl, by decide +kernel, by decide +kernel⟩
theorem ok__law_pick (T : Pk K mg) : DOk P w K mg base 1 T.d__law_pick.a T.d__law_pick.fd ["pool", "many"] m__law_pick := by
  refine okZ <| okF T.d__law_pick.fn sc__law_pick (by decide) fun cdv A outer s H E hr => ?_
  have hu : (A.deeper (envOfC "_law_pick" (defScope st__law_pick) s.heap.objs.size T.d__law_pick.a cdv)).units + 64 < cLine := by have := hr.un; omega
  have hu5 : (A.deeper (envOfC "_law_pick" (defScope st__law_pick) s.heap.objs.size T.d__law_pick.a cdv)).units + 65 < cLine := by have := hr.un; omega
  have tk := takes_of (X := cxOf (L2.CX P w) P w K mg base N__law_pick "_law_pick" (defScope st__law_pick) T.d__law_pick.a cdv A outer s H E) rfl rfl rfl rfl
  exact ss_cons (ss_set (i := 2) (se_ix (sv 0) (sint)) sc__law_pick.nd) (
    ss_cons (ss_if ((sw_and (tcmp (r_eq hu) (fun _ _ _ _ h => h) (se_ix (sv 0) (sint)) (sint) (nomark _)) (sw_and1 (tcmp r_lt (fun _ _ _ _ h => h) (se_ix (sv 0) (sint)) (se_blt r_len T.z_len (sa_cons (sv 2) (sa_nil))) (nomark _)))).pt) (ss_cons (ss_set (i := 3) (se_ix (sv 2) (se_ix (sv 0) (sint))) sc__law_pick.nd) (
    ss_cons (ss_setIx (sbin r_add (fun _ _ _ _ h => h) (se_ix (sv 0) (sint)) (sint)) (sv 0) (sint)) (
    ss_cons (ss_if (tcmp r_ge (fun _ _ _ _ h => h) (sv 3) (sbin r_pow (fun _ _ _ _ h => h) (sint) (sint)) (nomark _)) (ss_one (ss_setIx (sv 3) (sv 0) (sint))) (ss_nil)) (
    ss_one (ss_setIx (sbin r_mod (fun _ _ _ _ h => h) (se_typ r_intc T.z_int (sa_cons (sbin r_add (fun _ _ _ _ h => h) (sbin r_add (fun _ _ _ _ h => h) (sbin r_mulX (fun _ _ _ _ h => h) (se_ix (sv 0) (sint)) (sint)) (sbin r_mod (fun _ _ _ _ h => h) (se_typ r_intc T.z_int (sa_cons (sv 3) (sa_nil))) (sint))) (sint)) (sa_nil))) (sint)) (sv 0) (sint)))))) (ss_nil)) (
    ss_cons (ss_if (tcmp r_gt (fun _ _ _ _ h => h) (se_ix (sv 0) (sint)) (sint) (nomark _)) (ss_cons (ss_set (i := 4) (sbin r_mod (fun _ _ _ _ h => h) (se_typ r_intc T.z_int (sa_cons (se_ix (sv 0) (sint)) (sa_nil))) (sv 1)) sc__law_pick.nd) (
    ss_cons (ss_setIx (sbin r_fdiv (fun _ _ _ _ h => h) (se_ix (sv 0) (sint)) (sv 1)) (sv 0) (sint)) (
    ss_one (ss_ret (sv 4))))) (ss_nil)) (
    ss_cons (ss_setIx (sbin r_mod (fun _ _ _ _ h => h) (se_typ r_intc T.z_int (sa_cons (sbin r_add (fun _ _ _ _ h => h) (sbin r_mulX (fun _ _ _ _ h => h) (se_ix (sv 0) (sint)) (sint)) (sint)) (sa_nil))) (sint)) (sv 0) (sint)) (
    ss_one (ss_ret (sbin r_mod (fun _ _ _ _ h => h) (se_typ r_intc T.z_int (sa_cons (sbin r_fdiv (fun _ _ _ _ h => h) (se_ix (sv 0) (sint)) (sint)) (sa_nil))) (sv 1)))))))
theorem sc__law_words : FnScope N__law_words ["pool", "many"] (defScope st__law_words) := ⟨rfl, rfl, rfl, by decide +kernel, rfl, by decide +kernel, by decide +kernel⟩
theorem ok__law_words (T : Pk K mg) : DOk P w K mg base 2 T.d__law_words.a T.d__law_words.fd ["pool", "many"] m__law_words := by
  refine okZ <| okF T.d__law_words.fn sc__law_words (by decide) fun cdv A outer s H E hr => ?_
  have hu : (A.deeper (envOfC "_law_words" (defScope st__law_words) s.heap.objs.size T.d__law_words.a cdv)).units + 64 < cLine := by have := hr.un; omega
  have hu5 : (A.deeper (envOfC "_law_words" (defScope st__law_words) s.heap.objs.size T.d__law_words.a cdv)).units + 65 < cLine := by have := hr.un; omega
  have tk := takes_of (X := cxOf (L2.CX P w) P w K mg base N__law_words "_law_words" (defScope st__law_words) T.d__law_words.a cdv A outer s H E) rfl rfl rfl rfl
  exact ss_cons (ss_set (i := 2) (sstr) sc__law_words.nd) (
    ss_cons (ss_set (i := 3) (se_lst (sa_nil)) sc__law_words.nd) (
    ss_cons (ss_for (passes_of rfl) rfl (si_range1 T.z_range (sv 1)) (sg_name (i := 4) sc__law_words.nd) (ss_cons (ss_set (i := 5) (se_ix (sv 2) (se_call tk ((ok__law_pick T).mono (by decide)) hr T.d__law_pick.hm T.d__law_pick.hk T.d__law_pick.bi (sa_cons (sv 0) (sa_cons (sint) (sa_nil))))) sc__law_words.nd) (
    ss_cons (ss_for (passes_of rfl) rfl (si_range1 T.z_range (se_call tk ((ok__law_pick T).mono (by decide)) hr T.d__law_pick.hm T.d__law_pick.hk T.d__law_pick.bi (sa_cons (sv 0) (sa_cons (sint) (sa_nil))))) (sg_name (i := 6) sc__law_words.nd) (ss_one (ss_set (i := 5) (sbin r_add (fun _ _ _ _ h => h) (sv 5) (se_ix (sstr) (se_call tk ((ok__law_pick T).mono (by decide)) hr T.d__law_pick.hm T.d__law_pick.hk T.d__law_pick.bi (sa_cons (sv 0) (sa_cons (sint) (sa_nil)))))) sc__law_words.nd))) (
    ss_cons (ss_if (tcmp (r_eq hu) (fun _ _ _ _ h => h) (se_call tk ((ok__law_pick T).mono (by decide)) hr T.d__law_pick.hm T.d__law_pick.hk T.d__law_pick.bi (sa_cons (sv 0) (sa_cons (sint) (sa_nil)))) (sint) (nomark _)) (ss_one (ss_set (i := 5) (sbin r_add (fun _ _ _ _ h => h) (sbin r_add (fun _ _ _ _ h => h) (sv 5) (sstr)) (se_ix (sv 2) (se_call tk ((ok__law_pick T).mono (by decide)) hr T.d__law_pick.hm T.d__law_pick.hk T.d__law_pick.bi (sa_cons (sv 0) (sa_cons (sint) (sa_nil)))))) sc__law_words.nd)) (ss_nil)) (
    ss_cons (ss_if ((sw_or (tcmp (r_in hu5) (fun _ _ _ _ h => h) (sv 5) (sv 3) (by rfl)) (sw_or1 (tcmp (r_in hu5) (fun _ _ _ _ h => h) (sv 5) (se_tup (sa_cons (sstr) (sa_cons (sstr) (sa_nil)))) (by rfl)))).pt) (ss_one (ss_for (passes_of rfl) rfl (si_range1 T.z_range (sbin r_add (fun _ _ _ _ h => h) (sv 1) (sint))) (sg_name (i := 7) sc__law_words.nd) (ss_cons (ss_set (i := 5) (sbin r_add (fun _ _ _ _ h => h) (sbin r_add (fun _ _ _ _ h => h) (sstr) (se_typ r_strc T.z_str (sa_cons (sv 7) (sa_nil)))) (sstr)) sc__law_words.nd) (
    ss_one (ss_if (tcmp (r_notIn hu5) (fun _ _ _ _ h => h) (sv 5) (sv 3) (by rfl)) (ss_one (ss_brk)) (ss_nil)))))) (ss_nil)) (
    ss_one (ss_drop (se_app (sv 3) (sv 5))))))))) (
    ss_one (ss_ret (sv 3)))))
theorem sc__law_net : FnScope N__law_net ["pool", "many", "count", "chain"] (defScope st__law_net) := ⟨rfl, rfl, rfl, by decide +kernel, rfl, by decide +kernel, by decide +kernel⟩
theorem ok__law_net (T : Pk K mg) : DOk P w K mg base 3 T.d__law_net.a T.d__law_net.fd ["pool", "many", "count", "chain"] m__law_net := by
  refine okZ <| okF T.d__law_net.fn sc__law_net (by decide) fun cdv A outer s H E hr => ?_
  have hu : (A.deeper (envOfC "_law_net" (defScope st__law_net) s.heap.objs.size T.d__law_net.a cdv)).units + 64 < cLine := by have := hr.un; omega
  have hu5 : (A.deeper (envOfC "_law_net" (defScope st__law_net) s.heap.objs.size T.d__law_net.a cdv)).units + 65 < cLine := by have := hr.un; omega
  have tk := takes_of (X := cxOf (L2.CX P w) P w K mg base N__law_net "_law_net" (defScope st__law_net) T.d__law_net.a cdv A outer s H E) rfl rfl rfl rfl
  exact ss_cons (ss_set (i := 4) (se_call tk ((ok__law_words T).mono (by decide)) hr T.d__law_words.hm T.d__law_words.hk T.d__law_words.bi (sa_cons (sv 0) (sa_cons (sv 1) (sa_nil)))) sc__law_net.nd) (
    ss_cons (ss_set (i := 5) (se_lst (sa_nil)) sc__law_net.nd) (
    ss_cons (ss_if (stru (sv 3)) (ss_one (ss_setLc (i := 5) (own := [("at", 11)]) rfl sc__law_net.nd (si_range1 T.z_range (sbin r_sub (fun _ _ _ _ h => h) (sv 1) (sint))) (blkOk_of (show blkB N__law_net (defScope st__law_net) _ [("at", 11)] = true by decide +kernel)) (by decide) (fun s1 H1 C1 cl1 fp1 => sg_name (i := 11) sc__law_net.nd) (fun s1 H1 C1 cl1 fp1 => sts_nil) (fun s1 H1 C1 cl1 fp1 => se_tup (sa_cons (se_ix (sv 4) (sv 11)) (sa_cons (se_ix (sv 4) (sbin r_add (fun _ _ _ _ h => h) (sv 11) (sint))) (sa_nil)))) (hsw := by rfl))) (ss_nil)) (
    ss_cons (ss_for (passes_of rfl) rfl (si_range1 T.z_range (sbin r_sub (fun _ _ _ _ h => h) (sv 2) (se_blt r_len T.z_len (sa_cons (sv 5) (sa_nil))))) (sg_name (i := 6) sc__law_net.nd) (ss_cons (ss_set (i := 7) (se_call tk ((ok__law_pick T).mono (by decide)) hr T.d__law_pick.hm T.d__law_pick.hk T.d__law_pick.bi (sa_cons (sv 0) (sa_cons (sv 1) (sa_nil)))) sc__law_net.nd) (
    ss_cons (ss_set (i := 8) (se_call tk ((ok__law_pick T).mono (by decide)) hr T.d__law_pick.hm T.d__law_pick.hk T.d__law_pick.bi (sa_cons (sv 0) (sa_cons (sbin r_sub (fun _ _ _ _ h => h) (sv 1) (sint)) (sa_nil)))) sc__law_net.nd) (
    ss_cons (ss_if (tcmp r_ge (fun _ _ _ _ h => h) (sv 8) (sv 7) (nomark _)) (ss_one (ss_set (i := 8) (sbin r_add (fun _ _ _ _ h => h) (sv 8) (sint)) sc__law_net.nd)) (ss_nil)) (
    ss_one (ss_if ((sw_and (tcmp r_gt (fun _ _ _ _ h => h) (se_blt r_len T.z_len (sa_cons (sv 5) (sa_nil))) (sint) (nomark _)) (sw_and1 (tcmp (r_eq hu) (fun _ _ _ _ h => h) (se_call tk ((ok__law_pick T).mono (by decide)) hr T.d__law_pick.hm T.d__law_pick.hk T.d__law_pick.bi (sa_cons (sv 0) (sa_cons (sint) (sa_nil)))) (sint) (nomark _)))).pt) (ss_one (ss_drop (se_app (sv 5) (se_ix (sv 5) (se_call tk ((ok__law_pick T).mono (by decide)) hr T.d__law_pick.hm T.d__law_pick.hk T.d__law_pick.bi (sa_cons (sv 0) (sa_cons (se_blt r_len T.z_len (sa_cons (sv 5) (sa_nil))) (sa_nil)))))))) (ss_one (ss_drop (se_app (sv 5) (se_tup (sa_cons (se_ix (sv 4) (sv 7)) (sa_cons (se_ix (sv 4) (sv 8)) (sa_nil))))))))))))) (
    ss_cons (ss_set (i := 9) (se_call tk ((ok__law_words T).mono (by decide)) hr T.d__law_words.hm T.d__law_words.hk T.d__law_words.bi (sa_cons (sv 0) (sa_cons (se_blt r_len T.z_len (sa_cons (sv 5) (sa_nil))) (sa_nil)))) sc__law_net.nd) (
    ss_cons (ss_set (i := 10) (se_lst (sa_nil)) sc__law_net.nd) (
    ss_cons (ss_for (passes_of rfl) rfl (si_range1 T.z_range (se_blt r_len T.z_len (sa_cons (sv 5) (sa_nil)))) (sg_name (i := 11) sc__law_net.nd) (ss_one (ss_drop (se_app (sv 10) (se_tup (sa_cons (se_ix (sv 9) (sv 11)) (sa_cons (se_blt (r_min2 rfl) T.z_min (sa_cons (se_ix (se_ix (sv 5) (sv 11)) (sint)) (sa_cons (se_ix (se_ix (sv 5) (sv 11)) (sint)) (sa_nil)))) (sa_cons (se_blt (r_max2 rfl) T.z_max (sa_cons (se_ix (se_ix (sv 5) (sv 11)) (sint)) (sa_cons (se_ix (se_ix (sv 5) (sv 11)) (sint)) (sa_nil)))) (sa_nil))))))))) (
    ss_cons (ss_set (i := 12) (se_typ r_tuple T.z_tuple (sa_cons (se_fz (se_lc (own := [("node", 14)]) rfl sc__law_net.nd (si_any (se_fz (se_blt (r_sorted hu) T.z_sorted (sa_cons (sv 4) (sa_nil))))) (blkOk_of (show blkB N__law_net (defScope st__law_net) _ [("node", 14)] = true by decide +kernel)) (by decide) (fun s1 H1 C1 cl1 fp1 => sg_name (i := 14) sc__law_net.nd) (fun s1 H1 C1 cl1 fp1 => sts_one (tcmp (r_eq hu) (fun _ _ _ _ h => h) (se_call (takesN (X := Cx.blk (cxOf (L2.CX P w) P w K mg base N__law_net "_law_net" (defScope st__law_net) T.d__law_net.a cdv A outer s H E) s1 H1 _ (compEnvC _ cl1 C1 (cxOf (L2.CX P w) P w K mg base N__law_net "_law_net" (defScope st__law_net) T.d__law_net.a cdv A outer s H E).env) fp1)) ((ok__law_pick T).mono (by decide)) hr T.d__law_pick.hm T.d__law_pick.hk T.d__law_pick.bi (sa_cons (sv 0) (sa_cons (sint) (sa_nil)))) (sint) (nomark _))) (fun s1 H1 C1 cl1 fp1 => sv 14))) (sa_nil))) sc__law_net.nd) (
    ss_cons (ss_set (i := 13) (se_typ r_tuple T.z_tuple (sa_cons (se_fz (se_lc (own := [("name", 15)]) rfl sc__law_net.nd (si_any (se_fz (se_blt (r_sorted hu) T.z_sorted (sa_cons (sv 9) (sa_nil))))) (blkOk_of (show blkB N__law_net (defScope st__law_net) _ [("name", 15)] = true by decide +kernel)) (by decide) (fun s1 H1 C1 cl1 fp1 => sg_name (i := 15) sc__law_net.nd) (fun s1 H1 C1 cl1 fp1 => sts_one (tcmp (r_eq hu) (fun _ _ _ _ h => h) (se_call (takesN (X := Cx.blk (cxOf (L2.CX P w) P w K mg base N__law_net "_law_net" (defScope st__law_net) T.d__law_net.a cdv A outer s H E) s1 H1 _ (compEnvC _ cl1 C1 (cxOf (L2.CX P w) P w K mg base N__law_net "_law_net" (defScope st__law_net) T.d__law_net.a cdv A outer s H E).env) fp1)) ((ok__law_pick T).mono (by decide)) hr T.d__law_pick.hm T.d__law_pick.hk T.d__law_pick.bi (sa_cons (sv 0) (sa_cons (sint) (sa_nil)))) (sint) (nomark _))) (fun s1 H1 C1 cl1 fp1 => sv 15))) (sa_nil))) sc__law_net.nd) (
    ss_one (ss_ret (se_fz (se_lst (sa_cons (se_tup (sa_cons (se_typ r_tuple T.z_tuple (sa_cons (se_fz (se_blt (r_sorted hu) T.z_sorted (sa_cons (sv 4) (sa_nil)))) (sa_nil))) (sa_cons (se_typ r_tuple T.z_tuple (sa_cons (se_fz (se_blt (r_sorted hu) T.z_sorted (sa_cons (sv 10) (sa_nil)))) (sa_nil))) (sa_cons (sv 12) (sa_cons (sv 13) (sa_nil)))))) (sa_cons (sv 9) (sa_cons (sv 4) (sa_nil))))))))))))))))
theorem sc__law_other : FnScope N__law_other ["link", "node"] (defScope st__law_other) := ⟨rfl, rfl, rfl, by decide +kernel, rfl, by decide +kernel, by decide +kernel⟩
theorem ok__law_other (T : Pk K mg) : DOk P w K mg base 1 T.d__law_other.a T.d__law_other.fd ["link", "node"] m__law_other := by
  refine okZ <| okF T.d__law_other.fn sc__law_other (by decide) fun cdv A outer s H E hr => ?_
  have hu : (A.deeper (envOfC "_law_other" (defScope st__law_other) s.heap.objs.size T.d__law_other.a cdv)).units + 64 < cLine := by have := hr.un; omega
  have hu5 : (A.deeper (envOfC "_law_other" (defScope st__law_other) s.heap.objs.size T.d__law_other.a cdv)).units + 65 < cLine := by have := hr.un; omega
  have tk := takes_of (X := cxOf (L2.CX P w) P w K mg base N__law_other "_law_other" (defScope st__law_other) T.d__law_other.a cdv A outer s H E) rfl rfl rfl rfl
  exact ss_cons (ss_if (tcmp (r_eq hu) (fun _ _ _ _ h => h) (se_ix (sv 0) (sint)) (sv 1) (nomark _)) (ss_one (ss_ret (se_ix (sv 0) (sint)))) (ss_nil)) (
    ss_one (ss_ret (se_ix (sv 0) (sint))))
theorem sc__law_walk : FnScope N__law_walk ["pool", "net", "most"] (defScope st__law_walk) := ⟨rfl, rfl, rfl, by decide +kernel, rfl, by decide +kernel, by decide +kernel⟩
theorem ok__law_walk (T : Pk K mg) : DOk P w K mg base 2 T.d__law_walk.a T.d__law_walk.fd ["pool", "net", "most"] m__law_walk := by
  refine okZ <| okF T.d__law_walk.fn sc__law_walk (by decide) fun cdv A outer s H E hr => ?_
  have hu : (A.deeper (envOfC "_law_walk" (defScope st__law_walk) s.heap.objs.size T.d__law_walk.a cdv)).units + 64 < cLine := by have := hr.un; omega
  have hu5 : (A.deeper (envOfC "_law_walk" (defScope st__law_walk) s.heap.objs.size T.d__law_walk.a cdv)).units + 65 < cLine := by have := hr.un; omega
  have tk := takes_of (X := cxOf (L2.CX P w) P w K mg base N__law_walk "_law_walk" (defScope st__law_walk) T.d__law_walk.a cdv A outer s H E) rfl rfl rfl rfl
  exact ss_cons (ss_set (i := 3) (se_lst (sa_cons (se_ix (se_ix (sv 1) (sint)) (se_call tk ((ok__law_pick T).mono (by decide)) hr T.d__law_pick.hm T.d__law_pick.hk T.d__law_pick.bi (sa_cons (sv 0) (sa_cons (se_blt r_len T.z_len (sa_cons (se_ix (sv 1) (sint)) (sa_nil))) (sa_nil))))) (sa_nil))) sc__law_walk.nd) (
    ss_cons (ss_set (i := 4) (se_lst (sa_nil)) sc__law_walk.nd) (
    ss_cons (ss_for (passes_of rfl) rfl (si_range1 T.z_range (sv 2)) (sg_name (i := 5) sc__law_walk.nd) (ss_cons (ss_set (i := 6) (se_ix (sv 3) (sbin r_sub (fun _ _ _ _ h => h) (se_blt r_len T.z_len (sa_cons (sv 3) (sa_nil))) (sint))) sc__law_walk.nd) (
    ss_cons (ss_setLcF (i := 7) (own := [("link", 8)]) rfl sc__law_walk.nd (si_any (se_ix (sv 1) (sint))) (blkOk_of (show blkB N__law_walk (defScope st__law_walk) _ [("link", 8)] = true by decide +kernel)) (by decide) (fun s1 H1 C1 cl1 fp1 => sg_name (i := 8) sc__law_walk.nd) (fun s1 H1 C1 cl1 fp1 => sts_one ((sw_and (tcmp (r_in hu5) (fun _ _ _ _ h => h) (sv 6) (se_tup (sa_cons (se_ix (sv 8) (sint)) (sa_cons (se_ix (sv 8) (sint)) (sa_nil)))) (by rfl)) (sw_and1 (tcmp (r_notIn hu5) (fun _ _ _ _ h => h) (se_call (takesN (X := Cx.blk (cxOf (L2.CX P w) P w K mg base N__law_walk "_law_walk" (defScope st__law_walk) T.d__law_walk.a cdv A outer s H E) s1 H1 _ (compEnvC _ cl1 C1 (cxOf (L2.CX P w) P w K mg base N__law_walk "_law_walk" (defScope st__law_walk) T.d__law_walk.a cdv A outer s H E).env) fp1)) ((ok__law_other T).mono (by decide)) hr T.d__law_other.hm T.d__law_other.hk T.d__law_other.bi (sa_cons (sv 8) (sa_cons (sv 6) (sa_nil)))) (sv 3) (by rfl)))).pt)) (fun s1 H1 C1 cl1 fp1 => sv 8) (hsw := by rfl)) (
    ss_cons (ss_if (tcmp (r_eq hu) (fun _ _ _ _ h => h) (se_blt r_len T.z_len (sa_cons (sv 7) (sa_nil))) (sint) (nomark _)) (ss_one (ss_brk)) (ss_nil)) (
    ss_cons (ss_set (i := 8) (se_ix (sv 7) (se_call tk ((ok__law_pick T).mono (by decide)) hr T.d__law_pick.hm T.d__law_pick.hk T.d__law_pick.bi (sa_cons (sv 0) (sa_cons (se_blt r_len T.z_len (sa_cons (sv 7) (sa_nil))) (sa_nil))))) sc__law_walk.nd) (
    ss_cons (ss_drop (se_app (sv 4) (se_ix (sv 8) (sint)))) (
    ss_one (ss_drop (se_app (sv 3) (se_call tk ((ok__law_other T).mono (by decide)) hr T.d__law_other.hm T.d__law_other.hk T.d__law_other.bi (sa_cons (sv 8) (sa_cons (sv 6) (sa_nil))))))))))))) (
    ss_one (ss_ret (sv 4)))))
theorem sc__law_steps : FnScope N__law_steps ["net", "thing"] (defScope st__law_steps) := ⟨rfl, rfl, rfl, by decide +kernel, rfl, by decide +kernel, by decide +kernel⟩
theorem ok__law_steps (T : Pk K mg) : DOk P w K mg base 2 T.d__law_steps.a T.d__law_steps.fd ["net", "thing"] m__law_steps := by
  refine okF T.d__law_steps.fn sc__law_steps (by decide) fun cdv A outer s H E hr => ?_
  have hu : (A.deeper (envOfC "_law_steps" (defScope st__law_steps) s.heap.objs.size T.d__law_steps.a cdv)).units + 64 < cLine := by have := hr.un; omega
  have hu5 : (A.deeper (envOfC "_law_steps" (defScope st__law_steps) s.heap.objs.size T.d__law_steps.a cdv)).units + 65 < cLine := by have := hr.un; omega
  have tk := takes_of (X := cxOf (L2.CX P w) P w K mg base N__law_steps "_law_steps" (defScope st__law_steps) T.d__law_steps.a cdv A outer s H E) rfl rfl rfl rfl
  exact ss_cons (ss_if ((sw_or (st_not (stru (se_blt r_isi T.z_isinstance (sa_cons (sv 1) (sa_cons (s_ty T.z_tuple) (sa_nil)))))) (sw_or1 (tcmp (r_eq hu) (fun _ _ _ _ h => h) (se_blt r_len T.z_len (sa_cons (sv 1) (sa_nil))) (sint) (nomark _)))).pt) (ss_one (ss_ret (se_lst (sa_cons (sun r_neg (fun _ _ _ h => h) (sint)) (sa_nil))))) (ss_nil)) (
    ss_cons (ss_for (passes_of rfl) rfl (si_any (sv 1)) (sg_name (i := 2) sc__law_steps.nd) (ss_one (ss_if (st_not (stru (se_blt r_isi T.z_isinstance (sa_cons (sv 2) (sa_cons (s_ty T.z_str) (sa_nil)))))) (ss_one (ss_ret (se_lst (sa_cons (sun r_neg (fun _ _ _ h => h) (sint)) (sa_nil))))) (ss_nil)))) (
    ss_cons (ss_set (i := 3) (se_lst (sa_nil)) sc__law_steps.nd) (
    ss_cons (ss_for (passes_of rfl) rfl (si_range1 T.z_range (se_blt r_len T.z_len (sa_cons (sv 1) (sa_nil)))) (sg_name (i := 4) sc__law_steps.nd) (ss_cons (ss_setLcF (i := 5) (own := [("link", 6)]) rfl sc__law_steps.nd (si_any (se_ix (sv 0) (sint))) (blkOk_of (show blkB N__law_steps (defScope st__law_steps) _ [("link", 6)] = true by decide +kernel)) (by decide) (fun s1 H1 C1 cl1 fp1 => sg_name (i := 6) sc__law_steps.nd) (fun s1 H1 C1 cl1 fp1 => sts_one (tcmp (r_eq hu) (fun _ _ _ _ h => h) (se_ix (sv 6) (sint)) (se_ix (sv 1) (sv 4)) (nomark _))) (fun s1 H1 C1 cl1 fp1 => sv 6) (hsw := by rfl)) (
    ss_cons (ss_if (tcmp (r_eq hu) (fun _ _ _ _ h => h) (se_blt r_len T.z_len (sa_cons (sv 5) (sa_nil))) (sint) (nomark _)) (ss_one (ss_ret (se_lst (sa_cons (sv 4) (sa_nil))))) (ss_nil)) (
    ss_cons (ss_set (i := 6) (se_ix (sv 5) (sint)) sc__law_steps.nd) (
    ss_cons (ss_if ((sw_and (tcmp (r_eq hu) (fun _ _ _ _ h => h) (sv 4) (sint) (nomark _)) (sw_and1 (tcmp (r_notIn hu5) (fun _ _ _ _ h => h) (se_ix (sv 3) (sint)) (se_tup (sa_cons (se_ix (sv 6) (sint)) (sa_cons (se_ix (sv 6) (sint)) (sa_nil)))) (by rfl)))).pt) (ss_one (ss_set (i := 3) (se_lst (sa_cons (se_ix (sv 3) (sint)) (sa_cons (se_ix (sv 3) (sint)) (sa_nil)))) sc__law_steps.nd)) (ss_nil)) (
    ss_one (ss_if (tcmp (r_eq hu) (fun _ _ _ _ h => h) (sv 4) (sint) (nomark _)) (ss_one (ss_set (i := 3) (se_lst (sa_cons (se_ix (sv 6) (sint)) (sa_cons (se_ix (sv 6) (sint)) (sa_nil)))) sc__law_steps.nd)) (ss_one (ss_if ((sw_or (tcmp (r_notIn hu5) (fun _ _ _ _ h => h) (se_ix (sv 3) (sv 4)) (se_tup (sa_cons (se_ix (sv 6) (sint)) (sa_cons (se_ix (sv 6) (sint)) (sa_nil)))) (by rfl)) (sw_or1 (tcmp (r_in hu5) (fun _ _ _ _ h => h) (se_call tk ((ok__law_other T).mono (by decide)) hr T.d__law_other.hm T.d__law_other.hk T.d__law_other.bi (sa_cons (sv 6) (sa_cons (se_ix (sv 3) (sv 4)) (sa_nil)))) (sv 3) (by rfl)))).pt) (ss_one (ss_ret (se_lst (sa_cons (sv 4) (sa_nil))))) (ss_one (ss_drop (se_app (sv 3) (se_call tk ((ok__law_other T).mono (by decide)) hr T.d__law_other.hm T.d__law_other.hk T.d__law_other.bi (sa_cons (sv 6) (sa_cons (se_ix (sv 3) (sv 4)) (sa_nil)))))))))))))))) (
    ss_one (ss_ret (se_lst (sa_cons (snon) (sa_cons (sv 3) (sa_nil)))))))))
theorem sc__law_kinds : FnScope N__law_kinds ["bad"] (defScope st__law_kinds) := ⟨rfl, rfl, rfl, by decide +kernel, rfl, by decide +kernel, by decide +kernel⟩
theorem ok__law_kinds (T : Pk K mg) : DOk P w K mg base 1 T.d__law_kinds.a T.d__law_kinds.fd ["bad"] m__law_kinds := by
  refine okZ <| okF T.d__law_kinds.fn sc__law_kinds (by decide) fun cdv A outer s H E hr => ?_
  have hu : (A.deeper (envOfC "_law_kinds" (defScope st__law_kinds) s.heap.objs.size T.d__law_kinds.a cdv)).units + 64 < cLine := by have := hr.un; omega
  have hu5 : (A.deeper (envOfC "_law_kinds" (defScope st__law_kinds) s.heap.objs.size T.d__law_kinds.a cdv)).units + 65 < cLine := by have := hr.un; omega
  have tk := takes_of (X := cxOf (L2.CX P w) P w K mg base N__law_kinds "_law_kinds" (defScope st__law_kinds) T.d__law_kinds.a cdv A outer s H E) rfl rfl rfl rfl
  exact ss_cons (ss_set (i := 1) (se_lst (sa_nil)) sc__law_kinds.nd) (
    ss_cons (ss_if (stru (se_isE (v := .ty "ValueError") (cv := .type "ValueError") (fun _ h => h) (.cons T.e_BadWay.ns T.e_BadWay.F (kit_bt (by decide +kernel) T.s_BadWay_ValueError) (.nil)) (pe_bltn (by rfl) T.z_ValueError (by decide +kernel) rfl (by decide) (by decide)) T.z_isinstance (sv 0))) (ss_one (ss_drop (se_app (sv 1) (sstr)))) (ss_nil)) (
    ss_cons (ss_if (stru (se_isE (v := .ref T.e_NetError.a) (cv := .ref T.e_NetError.a) (fun _ h => h) (.cons T.e_BadWay.ns T.e_BadWay.F (kit_own T.e_NetError T.s_BadWay_NetError) (.nil)) (pe_glob (by rfl) T.e_NetError.mgc rfl (by decide)) T.z_isinstance (sv 0))) (ss_one (ss_drop (se_app (sv 1) (sstr)))) (ss_nil)) (
    ss_cons (ss_if (stru (se_isE (v := .ref T.e_DataError.a) (cv := .ref T.e_DataError.a) (fun _ h => h) (.cons T.e_BadWay.ns T.e_BadWay.F (kit_own T.e_DataError T.s_BadWay_DataError) (.nil)) (pe_glob (by rfl) T.e_DataError.mgc rfl (by decide)) T.z_isinstance (sv 0))) (ss_one (ss_drop (se_app (sv 1) (sstr)))) (ss_nil)) (
    ss_cons (ss_if (stru (se_isE (v := .ref T.e_BadName.a) (cv := .ref T.e_BadName.a) (fun _ h => h) (.cons T.e_BadWay.ns T.e_BadWay.F (kit_own T.e_BadName T.s_BadWay_BadName) (.nil)) (pe_glob (by rfl) T.e_BadName.mgc rfl (by decide)) T.z_isinstance (sv 0))) (ss_one (ss_drop (se_app (sv 1) (sstr)))) (ss_nil)) (
    ss_cons (ss_if (stru (se_isE (v := .ref T.e_BadNet.a) (cv := .ref T.e_BadNet.a) (fun _ h => h) (.cons T.e_BadWay.ns T.e_BadWay.F (kit_own T.e_BadNet T.s_BadWay_BadNet) (.nil)) (pe_glob (by rfl) T.e_BadNet.mgc rfl (by decide)) T.z_isinstance (sv 0))) (ss_one (ss_drop (se_app (sv 1) (sstr)))) (ss_nil)) (
    ss_cons (ss_if (stru (se_isE (v := .ref T.e_BadWay.a) (cv := .ref T.e_BadWay.a) (fun _ h => h) (.cons T.e_BadWay.ns T.e_BadWay.F (kit_own T.e_BadWay T.s_BadWay_BadWay) (.nil)) (pe_glob (by rfl) T.e_BadWay.mgc rfl (by decide)) T.z_isinstance (sv 0))) (ss_one (ss_drop (se_app (sv 1) (sstr)))) (ss_nil)) (
    ss_cons (ss_if (stru (se_isE (v := .ref T.e_BadNumbers.a) (cv := .ref T.e_BadNumbers.a) (fun _ h => h) (.cons T.e_BadWay.ns T.e_BadWay.F (kit_own T.e_BadNumbers T.s_BadWay_BadNumbers) (.nil)) (pe_glob (by rfl) T.e_BadNumbers.mgc rfl (by decide)) T.z_isinstance (sv 0))) (ss_one (ss_drop (se_app (sv 1) (sstr)))) (ss_nil)) (
    ss_cons (ss_if (stru (se_isE (v := .ref T.e_BadBook.a) (cv := .ref T.e_BadBook.a) (fun _ h => h) (.cons T.e_BadWay.ns T.e_BadWay.F (kit_own T.e_BadBook T.s_BadWay_BadBook) (.nil)) (pe_glob (by rfl) T.e_BadBook.mgc rfl (by decide)) T.z_isinstance (sv 0))) (ss_one (ss_drop (se_app (sv 1) (sstr)))) (ss_nil)) (
    ss_cons (ss_if (stru (se_isE (v := .ref T.e_BadBounds.a) (cv := .ref T.e_BadBounds.a) (fun _ h => h) (.cons T.e_BadWay.ns T.e_BadWay.F (kit_own T.e_BadBounds T.s_BadWay_BadBounds) (.nil)) (pe_glob (by rfl) T.e_BadBounds.mgc rfl (by decide)) T.z_isinstance (sv 0))) (ss_one (ss_drop (se_app (sv 1) (sstr)))) (ss_nil)) (
    ss_cons (ss_if (stru (se_isE (v := .ref T.e_BadWood.a) (cv := .ref T.e_BadWood.a) (fun _ h => h) (.cons T.e_BadWay.ns T.e_BadWay.F (kit_own T.e_BadWood T.s_BadWay_BadWood) (.nil)) (pe_glob (by rfl) T.e_BadWood.mgc rfl (by decide)) T.z_isinstance (sv 0))) (ss_one (ss_drop (se_app (sv 1) (sstr)))) (ss_nil)) (
    ss_cons (ss_if (stru (se_isE (v := .ref T.e_CallError.a) (cv := .ref T.e_CallError.a) (fun _ h => h) (.cons T.e_BadWay.ns T.e_BadWay.F (kit_own T.e_CallError T.s_BadWay_CallError) (.nil)) (pe_glob (by rfl) T.e_CallError.mgc rfl (by decide)) T.z_isinstance (sv 0))) (ss_one (ss_drop (se_app (sv 1) (sstr)))) (ss_nil)) (
    ss_cons (ss_if (stru (se_isE (v := .ref T.e_BadStep.a) (cv := .ref T.e_BadStep.a) (fun _ h => h) (.cons T.e_BadWay.ns T.e_BadWay.F (kit_own T.e_BadStep T.s_BadWay_BadStep) (.nil)) (pe_glob (by rfl) T.e_BadStep.mgc rfl (by decide)) T.z_isinstance (sv 0))) (ss_one (ss_drop (se_app (sv 1) (sstr)))) (ss_nil)) (
    ss_cons (ss_if (stru (se_isE (v := .ref T.e_NoDelays.a) (cv := .ref T.e_NoDelays.a) (fun _ h => h) (.cons T.e_BadWay.ns T.e_BadWay.F (kit_own T.e_NoDelays T.s_BadWay_NoDelays) (.nil)) (pe_glob (by rfl) T.e_NoDelays.mgc rfl (by decide)) T.z_isinstance (sv 0))) (ss_one (ss_drop (se_app (sv 1) (sstr)))) (ss_nil)) (
    ss_cons (ss_if (stru (se_isE (v := .ref T.e_TextError.a) (cv := .ref T.e_TextError.a) (fun _ h => h) (.cons T.e_BadWay.ns T.e_BadWay.F (kit_own T.e_TextError T.s_BadWay_TextError) (.nil)) (pe_glob (by rfl) T.e_TextError.mgc rfl (by decide)) T.z_isinstance (sv 0))) (ss_one (ss_drop (se_app (sv 1) (sstr)))) (ss_nil)) (
    ss_cons (ss_if (stru (se_isE (v := .ref T.e_BadText.a) (cv := .ref T.e_BadText.a) (fun _ h => h) (.cons T.e_BadWay.ns T.e_BadWay.F (kit_own T.e_BadText T.s_BadWay_BadText) (.nil)) (pe_glob (by rfl) T.e_BadText.mgc rfl (by decide)) T.z_isinstance (sv 0))) (ss_one (ss_drop (se_app (sv 1) (sstr)))) (ss_nil)) (
    ss_cons (ss_if (stru (se_isE (v := .ref T.e_BadCommand.a) (cv := .ref T.e_BadCommand.a) (fun _ h => h) (.cons T.e_BadWay.ns T.e_BadWay.F (kit_own T.e_BadCommand T.s_BadWay_BadCommand) (.nil)) (pe_glob (by rfl) T.e_BadCommand.mgc rfl (by decide)) T.z_isinstance (sv 0))) (ss_one (ss_drop (se_app (sv 1) (sstr)))) (ss_nil)) (
    ss_cons (ss_if (stru (se_isE (v := .ref T.e_DeskError.a) (cv := .ref T.e_DeskError.a) (fun _ h => h) (.cons T.e_BadWay.ns T.e_BadWay.F (kit_own T.e_DeskError T.s_BadWay_DeskError) (.nil)) (pe_glob (by rfl) T.e_DeskError.mgc rfl (by decide)) T.z_isinstance (sv 0))) (ss_one (ss_drop (se_app (sv 1) (sstr)))) (ss_nil)) (
    ss_cons (ss_if (stru (se_isE (v := .ref T.e_NoSuch.a) (cv := .ref T.e_NoSuch.a) (fun _ h => h) (.cons T.e_BadWay.ns T.e_BadWay.F (kit_own T.e_NoSuch T.s_BadWay_NoSuch) (.nil)) (pe_glob (by rfl) T.e_NoSuch.mgc rfl (by decide)) T.z_isinstance (sv 0))) (ss_one (ss_drop (se_app (sv 1) (sstr)))) (ss_nil)) (
    ss_cons (ss_if (stru (se_isE (v := .ref T.e_Taken.a) (cv := .ref T.e_Taken.a) (fun _ h => h) (.cons T.e_BadWay.ns T.e_BadWay.F (kit_own T.e_Taken T.s_BadWay_Taken) (.nil)) (pe_glob (by rfl) T.e_Taken.mgc rfl (by decide)) T.z_isinstance (sv 0))) (ss_one (ss_drop (se_app (sv 1) (sstr)))) (ss_nil)) (
    ss_one (ss_ret (sv 1))))))))))))))))))))))
theorem okq__law_kinds (T : Pk K mg) : DOkQ P w K mg base 1 T.d__law_kinds.a T.d__law_kinds.fd ["bad"] m__law_kinds := by
  refine okZQ <| okFQ T.d__law_kinds.fn sc__law_kinds (by decide) fun cdv A outer s H E hr => ?_
  have hu : (A.deeper (envOfC "_law_kinds" (defScope st__law_kinds) s.heap.objs.size T.d__law_kinds.a cdv)).units + 64 < cLine := by have := hr.un; omega
  have hu5 : (A.deeper (envOfC "_law_kinds" (defScope st__law_kinds) s.heap.objs.size T.d__law_kinds.a cdv)).units + 65 < cLine := by have := hr.un; omega
  have tk := takes_of (X := cxQ P w K mg base N__law_kinds "_law_kinds" (defScope st__law_kinds) T.d__law_kinds.a cdv A outer s H E) rfl rfl rfl rfl
  exact ss_cons (ss_set (i := 1) (se_lst (sa_nil)) sc__law_kinds.nd) (
    ss_cons (ss_if (stru (se_isE (v := .ty "ValueError") (cv := .type "ValueError") (fun _ h => h) (.cons T.e_BadWay.ns T.e_BadWay.F (kit_bt (by decide +kernel) T.s_BadWay_ValueError) (.nil)) (pe_bltn (by rfl) T.z_ValueError (by decide +kernel) rfl (by decide) (by decide)) T.z_isinstance (sv 0))) (ss_one (ss_drop (se_app (sv 1) (sstr)))) (ss_nil)) (
    ss_cons (ss_if (stru (se_isE (v := .ref T.e_NetError.a) (cv := .ref T.e_NetError.a) (fun _ h => h) (.cons T.e_BadWay.ns T.e_BadWay.F (kit_own T.e_NetError T.s_BadWay_NetError) (.nil)) (pe_glob (by rfl) T.e_NetError.mgc rfl (by decide)) T.z_isinstance (sv 0))) (ss_one (ss_drop (se_app (sv 1) (sstr)))) (ss_nil)) (
    ss_cons (ss_if (stru (se_isE (v := .ref T.e_DataError.a) (cv := .ref T.e_DataError.a) (fun _ h => h) (.cons T.e_BadWay.ns T.e_BadWay.F (kit_own T.e_DataError T.s_BadWay_DataError) (.nil)) (pe_glob (by rfl) T.e_DataError.mgc rfl (by decide)) T.z_isinstance (sv 0))) (ss_one (ss_drop (se_app (sv 1) (sstr)))) (ss_nil)) (
    ss_cons (ss_if (stru (se_isE (v := .ref T.e_BadName.a) (cv := .ref T.e_BadName.a) (fun _ h => h) (.cons T.e_BadWay.ns T.e_BadWay.F (kit_own T.e_BadName T.s_BadWay_BadName) (.nil)) (pe_glob (by rfl) T.e_BadName.mgc rfl (by decide)) T.z_isinstance (sv 0))) (ss_one (ss_drop (se_app (sv 1) (sstr)))) (ss_nil)) (
    ss_cons (ss_if (stru (se_isE (v := .ref T.e_BadNet.a) (cv := .ref T.e_BadNet.a) (fun _ h => h) (.cons T.e_BadWay.ns T.e_BadWay.F (kit_own T.e_BadNet T.s_BadWay_BadNet) (.nil)) (pe_glob (by rfl) T.e_BadNet.mgc rfl (by decide)) T.z_isinstance (sv 0))) (ss_one (ss_drop (se_app (sv 1) (sstr)))) (ss_nil)) (
    ss_cons (ss_if (stru (se_isE (v := .ref T.e_BadWay.a) (cv := .ref T.e_BadWay.a) (fun _ h => h) (.cons T.e_BadWay.ns T.e_BadWay.F (kit_own T.e_BadWay T.s_BadWay_BadWay) (.nil)) (pe_glob (by rfl) T.e_BadWay.mgc rfl (by decide)) T.z_isinstance (sv 0))) (ss_one (ss_drop (se_app (sv 1) (sstr)))) (ss_nil)) (
    ss_cons (ss_if (stru (se_isE (v := .ref T.e_BadNumbers.a) (cv := .ref T.e_BadNumbers.a) (fun _ h => h) (.cons T.e_BadWay.ns T.e_BadWay.F (kit_own T.e_BadNumbers T.s_BadWay_BadNumbers) (.nil)) (pe_glob (by rfl) T.e_BadNumbers.mgc rfl (by decide)) T.z_isinstance (sv 0))) (ss_one (ss_drop (se_app (sv 1) (sstr)))) (ss_nil)) (
    ss_cons (ss_if (stru (se_isE (v := .ref T.e_BadBook.a) (cv := .ref T.e_BadBook.a) (fun _ h => h) (.cons T.e_BadWay.ns T.e_BadWay.F (kit_own T.e_BadBook T.s_BadWay_BadBook) (.nil)) (pe_glob (by rfl) T.e_BadBook.mgc rfl (by decide)) T.z_isinstance (sv 0))) (ss_one (ss_drop (se_app (sv 1) (sstr)))) (ss_nil)) (
    ss_cons (ss_if (stru (se_isE (v := .ref T.e_BadBounds.a) (cv := .ref T.e_BadBounds.a) (fun _ h => h) (.cons T.e_BadWay.ns T.e_BadWay.F (kit_own T.e_BadBounds T.s_BadWay_BadBounds) (.nil)) (pe_glob (by rfl) T.e_BadBounds.mgc rfl (by decide)) T.z_isinstance (sv 0))) (ss_one (ss_drop (se_app (sv 1) (sstr)))) (ss_nil)) (
    ss_cons (ss_if (stru (se_isE (v := .ref T.e_BadWood.a) (cv := .ref T.e_BadWood.a) (fun _ h => h) (.cons T.e_BadWay.ns T.e_BadWay.F (kit_own T.e_BadWood T.s_BadWay_BadWood) (.nil)) (pe_glob (by rfl) T.e_BadWood.mgc rfl (by decide)) T.z_isinstance (sv 0))) (ss_one (ss_drop (se_app (sv 1) (sstr)))) (ss_nil)) (
    ss_cons (ss_if (stru (se_isE (v := .ref T.e_CallError.a) (cv := .ref T.e_CallError.a) (fun _ h => h) (.cons T.e_BadWay.ns T.e_BadWay.F (kit_own T.e_CallError T.s_BadWay_CallError) (.nil)) (pe_glob (by rfl) T.e_CallError.mgc rfl (by decide)) T.z_isinstance (sv 0))) (ss_one (ss_drop (se_app (sv 1) (sstr)))) (ss_nil)) (
    ss_cons (ss_if (stru (se_isE (v := .ref T.e_BadStep.a) (cv := .ref T.e_BadStep.a) (fun _ h => h) (.cons T.e_BadWay.ns T.e_BadWay.F (kit_own T.e_BadStep T.s_BadWay_BadStep) (.nil)) (pe_glob (by rfl) T.e_BadStep.mgc rfl (by decide)) T.z_isinstance (sv 0))) (ss_one (ss_drop (se_app (sv 1) (sstr)))) (ss_nil)) (
    ss_cons (ss_if (stru (se_isE (v := .ref T.e_NoDelays.a) (cv := .ref T.e_NoDelays.a) (fun _ h => h) (.cons T.e_BadWay.ns T.e_BadWay.F (kit_own T.e_NoDelays T.s_BadWay_NoDelays) (.nil)) (pe_glob (by rfl) T.e_NoDelays.mgc rfl (by decide)) T.z_isinstance (sv 0))) (ss_one (ss_drop (se_app (sv 1) (sstr)))) (ss_nil)) (
    ss_cons (ss_if (stru (se_isE (v := .ref T.e_TextError.a) (cv := .ref T.e_TextError.a) (fun _ h => h) (.cons T.e_BadWay.ns T.e_BadWay.F (kit_own T.e_TextError T.s_BadWay_TextError) (.nil)) (pe_glob (by rfl) T.e_TextError.mgc rfl (by decide)) T.z_isinstance (sv 0))) (ss_one (ss_drop (se_app (sv 1) (sstr)))) (ss_nil)) (
    ss_cons (ss_if (stru (se_isE (v := .ref T.e_BadText.a) (cv := .ref T.e_BadText.a) (fun _ h => h) (.cons T.e_BadWay.ns T.e_BadWay.F (kit_own T.e_BadText T.s_BadWay_BadText) (.nil)) (pe_glob (by rfl) T.e_BadText.mgc rfl (by decide)) T.z_isinstance (sv 0))) (ss_one (ss_drop (se_app (sv 1) (sstr)))) (ss_nil)) (
    ss_cons (ss_if (stru (se_isE (v := .ref T.e_BadCommand.a) (cv := .ref T.e_BadCommand.a) (fun _ h => h) (.cons T.e_BadWay.ns T.e_BadWay.F (kit_own T.e_BadCommand T.s_BadWay_BadCommand) (.nil)) (pe_glob (by rfl) T.e_BadCommand.mgc rfl (by decide)) T.z_isinstance (sv 0))) (ss_one (ss_drop (se_app (sv 1) (sstr)))) (ss_nil)) (
    ss_cons (ss_if (stru (se_isE (v := .ref T.e_DeskError.a) (cv := .ref T.e_DeskError.a) (fun _ h => h) (.cons T.e_BadWay.ns T.e_BadWay.F (kit_own T.e_DeskError T.s_BadWay_DeskError) (.nil)) (pe_glob (by rfl) T.e_DeskError.mgc rfl (by decide)) T.z_isinstance (sv 0))) (ss_one (ss_drop (se_app (sv 1) (sstr)))) (ss_nil)) (
    ss_cons (ss_if (stru (se_isE (v := .ref T.e_NoSuch.a) (cv := .ref T.e_NoSuch.a) (fun _ h => h) (.cons T.e_BadWay.ns T.e_BadWay.F (kit_own T.e_NoSuch T.s_BadWay_NoSuch) (.nil)) (pe_glob (by rfl) T.e_NoSuch.mgc rfl (by decide)) T.z_isinstance (sv 0))) (ss_one (ss_drop (se_app (sv 1) (sstr)))) (ss_nil)) (
    ss_cons (ss_if (stru (se_isE (v := .ref T.e_Taken.a) (cv := .ref T.e_Taken.a) (fun _ h => h) (.cons T.e_BadWay.ns T.e_BadWay.F (kit_own T.e_Taken T.s_BadWay_Taken) (.nil)) (pe_glob (by rfl) T.e_Taken.mgc rfl (by decide)) T.z_isinstance (sv 0))) (ss_one (ss_drop (se_app (sv 1) (sstr)))) (ss_nil)) (
    ss_one (ss_ret (sv 1))))))))))))))))))))))
theorem sc__law_told : FnScope N__law_told ["net", "thing"] (defScope st__law_told) := ⟨rfl, rfl, rfl, by decide +kernel, rfl, by decide +kernel, by decide +kernel⟩
theorem ok__law_told (T : Pk K mg) : DOk P w K mg base 4 T.d__law_told.a T.d__law_told.fd ["net", "thing"] m__law_told := by
  refine okZ <| okF T.d__law_told.fn sc__law_told (by decide) fun cdv A outer s H E hr => ?_
  have hu : (A.deeper (envOfC "_law_told" (defScope st__law_told) s.heap.objs.size T.d__law_told.a cdv)).units + 64 < cLine := by have := hr.un; omega
  have hu5 : (A.deeper (envOfC "_law_told" (defScope st__law_told) s.heap.objs.size T.d__law_told.a cdv)).units + 65 < cLine := by have := hr.un; omega
  have tk := takes_of (X := cxOf (L2.CX P w) P w K mg base N__law_told "_law_told" (defScope st__law_told) T.d__law_told.a cdv A outer s H E) rfl rfl rfl rfl
  exact ss_cons (ss_tri (i := 3) rfl rfl rfl sc__law_told.nd rfl rfl ⟨by rfl, by decide, .inl T.e_NetError.mgc⟩ tk (.cons T.e_BadWay.ns (exm_own T.e_NetError T.s_BadWay_NetError) (.nil)) (fun W pn xe tk hp => ss_one (ss_set (i := 2) (se_call tk ((ok_check_way T).mono (by decide)) hr T.d_check_way.hm T.d_check_way.hk T.d_check_way.bi (sa_cons (sv 0) (sa_cons (sv 1) (sa_nil)))) sc__law_told.nd)) (fun a pn => ss_cons (ss_set (i := 4) (se_lst (sa_cons (sint) (sa_cons (se_callQ (k := 3) (takesS (X := cxOf (L2.CX P w) P w K mg base N__law_told "_law_told" (defScope st__law_told) T.d__law_told.a cdv A outer s H E) (a := a) (pn := pn)) ((okq__law_kinds T).mono (by decide)) ⟨hr.dp, hr.un⟩ T.d__law_kinds.hm T.d__law_kinds.hk T.d__law_kinds.bi (sa_cons (sv 3) (sa_nil))) (sa_nil)))) sc__law_told.nd) (
    ss_cons (ss_if (stru (se_isE (v := .ref T.e_BadWay.a) (cv := .ref T.e_BadWay.a) (fun _ h => h) (.cons T.e_BadWay.ns T.e_BadWay.F (kit_own T.e_BadWay T.s_BadWay_BadWay) (.nil)) (pe_glob (by rfl) T.e_BadWay.mgc rfl (by decide)) T.z_isinstance (sv 3))) (ss_one (ss_drop (se_app (sv 4) (se_fld (.cons T.e_BadWay.ns T.e_BadWay.F (T.r_BadWay.nf "at" (by decide)) (.nil)) (sv 3))))) (ss_nil)) (
    ss_one (ss_ret (sv 4)))))) (
    ss_one (ss_ret (se_fz (se_lst (sa_cons (sint) (sa_cons (sv 2) (sa_nil)))))))
theorem sc__law_good : FnScope N__law_good ["net", "thing"] (defScope st__law_good) := ⟨rfl, rfl, rfl, by decide +kernel, rfl, by decide +kernel, by decide +kernel⟩
theorem ok__law_good (T : Pk K mg) : DOk P w K mg base 5 T.d__law_good.a T.d__law_good.fd ["net", "thing"] m__law_good := by
  refine okZ <| okF T.d__law_good.fn sc__law_good (by decide) fun cdv A outer s H E hr => ?_
  have hu : (A.deeper (envOfC "_law_good" (defScope st__law_good) s.heap.objs.size T.d__law_good.a cdv)).units + 64 < cLine := by have := hr.un; omega
  have hu5 : (A.deeper (envOfC "_law_good" (defScope st__law_good) s.heap.objs.size T.d__law_good.a cdv)).units + 65 < cLine := by have := hr.un; omega
  have tk := takes_of (X := cxOf (L2.CX P w) P w K mg base N__law_good "_law_good" (defScope st__law_good) T.d__law_good.a cdv A outer s H E) rfl rfl rfl rfl
  exact ss_cons (ss_set (i := 2) (se_ix (se_call tk ((ok__law_steps T).mono (by decide)) hr T.d__law_steps.hm T.d__law_steps.hk T.d__law_steps.bi (sa_cons (sv 0) (sa_cons (sv 1) (sa_nil)))) (sint)) sc__law_good.nd) (
    ss_cons (ss_set (i := 3) (se_call tk ((ok__law_told T).mono (by decide)) hr T.d__law_told.hm T.d__law_told.hk T.d__law_told.bi (sa_cons (sv 0) (sa_cons (sv 1) (sa_nil)))) sc__law_good.nd) (
    ss_cons (ss_if (tcmp r_is (fun _ _ _ _ h => h) (sv 2) (snon) (nomark _)) (ss_one (ss_ret (se_and (scmp (r_eq hu) (fun _ _ _ _ h => h) (se_ix (sv 3) (sint)) (sint) (nomark _)) (se_one (scmp r_is (fun _ _ _ _ h => h) (se_ix (sv 3) (sint)) (snon) (nomark _)))))) (ss_nil)) (
    ss_cons (ss_if ((sw_or (tcmp (r_eq hu) (fun _ _ _ _ h => h) (se_ix (sv 3) (sint)) (sint) (nomark _)) (sw_or1 (tcmp (r_ne hu) (fun _ _ _ _ h => h) (se_ix (sv 3) (sint)) (se_fz (se_lst (sa_cons (sstr) (sa_cons (sstr) (sa_cons (sstr) (sa_cons (sstr) (sa_nil))))))) (nomark _)))).pt) (ss_one (ss_ret (sbl))) (ss_nil)) (
    ss_one (ss_ret (se_and (se_blt r_isi T.z_isinstance (sa_cons (se_ix (sv 3) (sint)) (sa_cons (s_ty T.z_int) (sa_nil)))) (se_and (se_not (se_blt r_isi T.z_isinstance (sa_cons (se_ix (sv 3) (sint)) (sa_cons (s_ty T.z_bool) (sa_nil))))) (se_one (scmp (r_eq hu) (fun _ _ _ _ h => h) (se_ix (sv 3) (sint)) (sv 2) (nomark _))))))))))
theorem sc__law_route : FnScope N__law_route ["net", "way"] (defScope st__law_route) := ⟨rfl, rfl, rfl, by decide +kernel, rfl, by decide +kernel, by decide +kernel⟩
theorem ok__law_route (T : Pk K mg) : DOk P w K mg base 3 T.d__law_route.a T.d__law_route.fd ["net", "way"] m__law_route := by
  refine okZ <| okF T.d__law_route.fn sc__law_route (by decide) fun cdv A outer s H E hr => ?_
  have hu : (A.deeper (envOfC "_law_route" (defScope st__law_route) s.heap.objs.size T.d__law_route.a cdv)).units + 64 < cLine := by have := hr.un; omega
  have hu5 : (A.deeper (envOfC "_law_route" (defScope st__law_route) s.heap.objs.size T.d__law_route.a cdv)).units + 65 < cLine := by have := hr.un; omega
  have tk := takes_of (X := cxOf (L2.CX P w) P w K mg base N__law_route "_law_route" (defScope st__law_route) T.d__law_route.a cdv A outer s H E) rfl rfl rfl rfl
  exact ss_cons (ss_set (i := 2) (se_ix (se_call tk ((ok__law_steps T).mono (by decide)) hr T.d__law_steps.hm T.d__law_steps.hk T.d__law_steps.bi (sa_cons (sv 0) (sa_cons (sv 1) (sa_nil)))) (sint)) sc__law_route.nd) (
    ss_one (ss_ret (se_and (scmp (r_in hu5) (fun _ _ _ _ h => h) (se_ix (sv 2) (sint)) (se_ix (sv 0) (sint)) (by rfl)) (se_and (scmp (r_in hu5) (fun _ _ _ _ h => h) (se_ix (sv 2) (sbin r_sub (fun _ _ _ _ h => h) (se_blt r_len T.z_len (sa_cons (sv 2) (sa_nil))) (sint))) (se_ix (sv 0) (sint)) (by rfl)) (se_one (scmp r_lt (fun _ _ _ _ h => h) (se_ix (sv 2) (sint)) (se_ix (sv 2) (sbin r_sub (fun _ _ _ _ h => h) (se_blt r_len T.z_len (sa_cons (sv 2) (sa_nil))) (sint))) (nomark _)))))))
theorem sc__law_yes : FnScope N__law_yes ["told", "due"] (defScope st__law_yes) := ⟨rfl, rfl, rfl, by decide +kernel, rfl, by decide +kernel, by decide +kernel⟩
theorem ok__law_yes (T : Pk K mg) : DOk P w K mg base 1 T.d__law_yes.a T.d__law_yes.fd ["told", "due"] m__law_yes := by
  refine okZ <| okF T.d__law_yes.fn sc__law_yes (by decide) fun cdv A outer s H E hr => ?_
  have hu : (A.deeper (envOfC "_law_yes" (defScope st__law_yes) s.heap.objs.size T.d__law_yes.a cdv)).units + 64 < cLine := by have := hr.un; omega
  have hu5 : (A.deeper (envOfC "_law_yes" (defScope st__law_yes) s.heap.objs.size T.d__law_yes.a cdv)).units + 65 < cLine := by have := hr.un; omega
  have tk := takes_of (X := cxOf (L2.CX P w) P w K mg base N__law_yes "_law_yes" (defScope st__law_yes) T.d__law_yes.a cdv A outer s H E) rfl rfl rfl rfl
  exact ss_cons (ss_if (stru (sv 1)) (ss_one (ss_ret (scmp r_is (fun _ _ _ _ h => h) (sv 0) (sbl) (nomark _)))) (ss_nil)) (
    ss_one (ss_ret (scmp r_is (fun _ _ _ _ h => h) (sv 0) (sbl) (nomark _))))
theorem sc__law_good_way : FnScope N__law_good_way ["net", "way", "delays"] (defScope st__law_good_way) := ⟨rfl, rfl, rfl, by decide +kernel, rfl, by decide +kernel, by decide +kernel⟩
theorem ok__law_good_way (T : Pk K mg) : DOk P w K mg base 6 T.d__law_good_way.a T.d__law_good_way.fd ["net", "way", "delays"] m__law_good_way := by
  refine okZ <| okF T.d__law_good_way.fn sc__law_good_way (by decide) fun cdv A outer s H E hr => ?_
  have hu : (A.deeper (envOfC "_law_good_way" (defScope st__law_good_way) s.heap.objs.size T.d__law_good_way.a cdv)).units + 64 < cLine := by have := hr.un; omega
  have hu5 : (A.deeper (envOfC "_law_good_way" (defScope st__law_good_way) s.heap.objs.size T.d__law_good_way.a cdv)).units + 65 < cLine := by have := hr.un; omega
  have tk := takes_of (X := cxOf (L2.CX P w) P w K mg base N__law_good_way "_law_good_way" (defScope st__law_good_way) T.d__law_good_way.a cdv A outer s H E) rfl rfl rfl rfl
  exact ss_cons (ss_set (i := 3) (se_ix (se_call tk ((ok__law_steps T).mono (by decide)) hr T.d__law_steps.hm T.d__law_steps.hk T.d__law_steps.bi (sa_cons (sv 0) (sa_cons (sv 1) (sa_nil)))) (sint)) sc__law_good_way.nd) (
    ss_cons (ss_set (i := 4) (se_call tk ((ok__law_route T).mono (by decide)) hr T.d__law_route.hm T.d__law_route.hk T.d__law_route.bi (sa_cons (sv 0) (sa_cons (sv 1) (sa_nil)))) sc__law_good_way.nd) (
    ss_cons (ss_if ((sw_or (st_not (stru (se_call tk ((ok__law_good T).mono (by decide)) hr T.d__law_good.hm T.d__law_good.hk T.d__law_good.bi (sa_cons (sv 0) (sa_cons (sv 1) (sa_nil)))))) (sw_or1 (st_not (stru (se_call tk ((ok__law_yes T).mono (by decide)) hr T.d__law_yes.hm T.d__law_yes.hk T.d__law_yes.bi (sa_cons (se_call tk ((ok_is_route T).mono (by decide)) hr T.d_is_route.hm T.d_is_route.hk T.d_is_route.bi (sa_cons (sv 0) (sa_cons (sv 1) (sa_nil)))) (sa_cons (sv 4) (sa_nil)))))))).pt) (ss_one (ss_ret (sbl))) (ss_nil)) (
    ss_cons (ss_if (st_not (stru (se_call tk ((ok__law_yes T).mono (by decide)) hr T.d__law_yes.hm T.d__law_yes.hk T.d__law_yes.bi (sa_cons (se_call tk ((ok_is_probe T).mono (by decide)) hr T.d_is_probe.hm T.d_is_probe.hk T.d_is_probe.bi (sa_cons (sv 0) (sa_cons (sv 1) (sa_nil)))) (sa_cons (se_or (sv 4) (se_one (se_and (scmp (r_eq hu) (fun _ _ _ _ h => h) (se_blt r_len T.z_len (sa_cons (sv 1) (sa_nil))) (sint) (nomark _)) (se_one (scmp (r_in hu5) (fun _ _ _ _ h => h) (se_ix (sv 1) (sint)) (se_ix (sv 0) (sint)) (by rfl)))))) (sa_nil)))))) (ss_one (ss_ret (sbl))) (ss_nil)) (
    ss_cons (ss_if (stru (sv 4)) (ss_cons (ss_setLcF (i := 5) (own := [("node", 9)]) rfl sc__law_good_way.nd (si_any (se_sl (sv 3) (so_some (sint)) (so_some (sbin r_sub (fun _ _ _ _ h => h) (se_blt r_len T.z_len (sa_cons (sv 3) (sa_nil))) (sint))))) (blkOk_of (show blkB N__law_good_way (defScope st__law_good_way) _ [("node", 9)] = true by decide +kernel)) (by decide) (fun s1 H1 C1 cl1 fp1 => sg_name (i := 9) sc__law_good_way.nd) (fun s1 H1 C1 cl1 fp1 => sts_one (tcmp (r_in hu5) (fun _ _ _ _ h => h) (sv 9) (se_ix (sv 0) (sint)) (by rfl))) (fun s1 H1 C1 cl1 fp1 => sv 9) (hsw := by rfl)) (
    ss_one (ss_if (st_not (stru (se_call tk ((ok__law_yes T).mono (by decide)) hr T.d__law_yes.hm T.d__law_yes.hk T.d__law_yes.bi (sa_cons (se_call tk ((ok_is_short T).mono (by decide)) hr T.d_is_short.hm T.d_is_short.hk T.d_is_short.bi (sa_cons (sv 0) (sa_cons (sv 1) (sa_nil)))) (sa_cons (scmp (r_eq hu) (fun _ _ _ _ h => h) (se_blt r_len T.z_len (sa_cons (sv 5) (sa_nil))) (sint) (nomark _)) (sa_nil)))))) (ss_one (ss_ret (sbl))) (ss_nil)))) (ss_nil)) (
    ss_cons (ss_set (i := 6) (sint) sc__law_good_way.nd) (
    ss_cons (ss_for (passes_of rfl) rfl (si_range1 T.z_range (se_blt r_len T.z_len (sa_cons (se_ix (sv 0) (sint)) (sa_nil)))) (sg_name (i := 7) sc__law_good_way.nd) (ss_one (ss_if (tcmp (r_in hu5) (fun _ _ _ _ h => h) (se_ix (se_ix (se_ix (sv 0) (sint)) (sv 7)) (sint)) (sv 1) (by rfl)) (ss_one (ss_set (i := 6) (sbin r_add (fun _ _ _ _ h => h) (sv 6) (se_ix (sv 2) (sv 7))) sc__law_good_way.nd)) (ss_nil)))) (
    ss_cons (ss_set (i := 8) (se_call tk ((ok_reading_of T).mono (by decide)) hr T.d_reading_of.hm T.d_reading_of.hk T.d_reading_of.bi (sa_cons (sv 0) (sa_cons (sv 1) (sa_cons (sv 2) (sa_nil))))) sc__law_good_way.nd) (
    ss_one (ss_ret (se_and (se_blt r_isi T.z_isinstance (sa_cons (sv 8) (sa_cons (s_ty T.z_int) (sa_nil)))) (se_and (se_not (se_blt r_isi T.z_isinstance (sa_cons (sv 8) (sa_cons (s_ty T.z_bool) (sa_nil))))) (se_one (scmp (r_eq hu) (fun _ _ _ _ h => h) (sv 8) (sv 6) (nomark _))))))))))))))
theorem sc__law_delays : FnScope N__law_delays ["pool", "many"] (defScope st__law_delays) := ⟨rfl, rfl, rfl, by decide +kernel, rfl, by decide +kernel, by decide +kernel⟩
theorem ok__law_delays (T : Pk K mg) : DOk P w K mg base 2 T.d__law_delays.a T.d__law_delays.fd ["pool", "many"] m__law_delays := by
  refine okZ <| okF T.d__law_delays.fn sc__law_delays (by decide) fun cdv A outer s H E hr => ?_
  have hu : (A.deeper (envOfC "_law_delays" (defScope st__law_delays) s.heap.objs.size T.d__law_delays.a cdv)).units + 64 < cLine := by have := hr.un; omega
  have hu5 : (A.deeper (envOfC "_law_delays" (defScope st__law_delays) s.heap.objs.size T.d__law_delays.a cdv)).units + 65 < cLine := by have := hr.un; omega
  have tk := takes_of (X := cxOf (L2.CX P w) P w K mg base N__law_delays "_law_delays" (defScope st__law_delays) T.d__law_delays.a cdv A outer s H E) rfl rfl rfl rfl
  exact ss_cons (ss_set (i := 2) (se_lst (sa_nil)) sc__law_delays.nd) (
    ss_cons (ss_for (passes_of rfl) rfl (si_range1 T.z_range (sv 1)) (sg_name (i := 3) sc__law_delays.nd) (ss_cons (ss_set (i := 4) (se_call tk ((ok__law_pick T).mono (by decide)) hr T.d__law_pick.hm T.d__law_pick.hk T.d__law_pick.bi (sa_cons (sv 0) (sa_cons (sint) (sa_nil)))) sc__law_delays.nd) (
    ss_one (ss_if (tcmp (r_eq hu) (fun _ _ _ _ h => h) (sv 4) (sint) (nomark _)) (ss_one (ss_drop (se_app (sv 2) (sbin r_pow (fun _ _ _ _ h => h) (sint) (sint))))) (ss_one (ss_if (tcmp (r_eq hu) (fun _ _ _ _ h => h) (sv 4) (sint) (nomark _)) (ss_one (ss_drop (se_app (sv 2) (sun r_neg (fun _ _ _ h => h) (sbin r_pow (fun _ _ _ _ h => h) (sint) (sint)))))) (ss_one (ss_if (tcmp (r_eq hu) (fun _ _ _ _ h => h) (sv 4) (sint) (nomark _)) (ss_one (ss_drop (se_app (sv 2) (se_call tk ((ok__law_pick T).mono (by decide)) hr T.d__law_pick.hm T.d__law_pick.hk T.d__law_pick.bi (sa_cons (sv 0) (sa_cons (sint) (sa_nil))))))) (ss_one (ss_drop (se_app (sv 2) (sbin r_sub (fun _ _ _ _ h => h) (sbin r_mulX (fun _ _ _ _ h => h) (se_call tk ((ok__law_pick T).mono (by decide)) hr T.d__law_pick.hm T.d__law_pick.hk T.d__law_pick.bi (sa_cons (sv 0) (sa_cons (sint) (sa_nil)))) (se_call tk ((ok__law_pick T).mono (by decide)) hr T.d__law_pick.hm T.d__law_pick.hk T.d__law_pick.bi (sa_cons (sv 0) (sa_cons (sint) (sa_nil))))) (sbin r_mulX (fun _ _ _ _ h => h) (sint) (sbin r_pow (fun _ _ _ _ h => h) (sint) (sint))))))))))))))) (
    ss_one (ss_ret (se_typ r_tuple T.z_tuple (sa_cons (sv 2) (sa_nil))))))
theorem sc__law_odd : FnScope N__law_odd ["pool", "net"] (defScope st__law_odd) := ⟨rfl, rfl, rfl, by decide +kernel, rfl, by decide +kernel, by decide +kernel⟩
theorem ok__law_odd (T : Pk K mg) : DOk P w K mg base 2 T.d__law_odd.a T.d__law_odd.fd ["pool", "net"] m__law_odd := by
  refine okZ <| okF T.d__law_odd.fn sc__law_odd (by decide) fun cdv A outer s H E hr => ?_
  have hu : (A.deeper (envOfC "_law_odd" (defScope st__law_odd) s.heap.objs.size T.d__law_odd.a cdv)).units + 64 < cLine := by have := hr.un; omega
  have hu5 : (A.deeper (envOfC "_law_odd" (defScope st__law_odd) s.heap.objs.size T.d__law_odd.a cdv)).units + 65 < cLine := by have := hr.un; omega
  have tk := takes_of (X := cxOf (L2.CX P w) P w K mg base N__law_odd "_law_odd" (defScope st__law_odd) T.d__law_odd.a cdv A outer s H E) rfl rfl rfl rfl
  exact ss_cons (ss_set (i := 2) (se_ix (se_ix (se_ix (sv 1) (sint)) (se_call tk ((ok__law_pick T).mono (by decide)) hr T.d__law_pick.hm T.d__law_pick.hk T.d__law_pick.bi (sa_cons (sv 0) (sa_cons (se_blt r_len T.z_len (sa_cons (se_ix (sv 1) (sint)) (sa_nil))) (sa_nil))))) (sint)) sc__law_odd.nd) (
    ss_cons (ss_set (i := 3) (se_lst (sa_cons (sstr) (sa_cons (sstr) (sa_cons (sbin r_add (fun _ _ _ _ h => h) (sv 2) (sstr)) (sa_cons (sbin r_add (fun _ _ _ _ h => h) (sv 2) (sstr)) (sa_cons (se_ix (se_ix (sv 1) (sint)) (sint)) (sa_cons (sbin r_add (fun _ _ _ _ h => h) (sstr) (sv 2)) (sa_cons (sstr) (sa_cons (snon) (sa_cons (sbl) (sa_cons (sint) (sa_cons (se_tup (sa_cons (sv 2) (sa_nil))) (sa_cons (se_fz (se_lst (sa_cons (sv 2) (sa_nil)))) (sa_cons (sbin r_pow (fun _ _ _ _ h => h) (sint) (sint)) (sa_cons (se_tup (sa_nil)) (sa_nil)))))))))))))))) sc__law_odd.nd) (
    ss_cons (ss_drop (se_app (sv 3) (sv 2))) (
    ss_one (ss_ret (se_ix (sv 3) (se_call tk ((ok__law_pick T).mono (by decide)) hr T.d__law_pick.hm T.d__law_pick.hk T.d__law_pick.bi (sa_cons (sv 0) (sa_cons (se_blt r_len T.z_len (sa_cons (sv 3) (sa_nil))) (sa_nil)))))))))
theorem sc__law_bent : FnScope N__law_bent ["pool", "net", "way"] (defScope st__law_bent) := ⟨rfl, rfl, rfl, by decide +kernel, rfl, by decide +kernel, by decide +kernel⟩
theorem ok__law_bent (T : Pk K mg) : DOk P w K mg base 3 T.d__law_bent.a T.d__law_bent.fd ["pool", "net", "way"] m__law_bent := by
  refine okZ <| okF T.d__law_bent.fn sc__law_bent (by decide) fun cdv A outer s H E hr => ?_
  have hu : (A.deeper (envOfC "_law_bent" (defScope st__law_bent) s.heap.objs.size T.d__law_bent.a cdv)).units + 64 < cLine := by have := hr.un; omega
  have hu5 : (A.deeper (envOfC "_law_bent" (defScope st__law_bent) s.heap.objs.size T.d__law_bent.a cdv)).units + 65 < cLine := by have := hr.un; omega
  have tk := takes_of (X := cxOf (L2.CX P w) P w K mg base N__law_bent "_law_bent" (defScope st__law_bent) T.d__law_bent.a cdv A outer s H E) rfl rfl rfl rfl
  exact ss_cons (ss_set (i := 3) (se_typ r_list T.z_list (sa_cons (sv 2) (sa_nil))) sc__law_bent.nd) (
    ss_cons (ss_set (i := 4) (se_call tk ((ok__law_pick T).mono (by decide)) hr T.d__law_pick.hm T.d__law_pick.hk T.d__law_pick.bi (sa_cons (sv 0) (sa_cons (sbin r_add (fun _ _ _ _ h => h) (se_blt r_len T.z_len (sa_cons (sv 3) (sa_nil))) (sint)) (sa_nil)))) sc__law_bent.nd) (
    ss_cons (ss_set (i := 5) (se_call tk ((ok__law_pick T).mono (by decide)) hr T.d__law_pick.hm T.d__law_pick.hk T.d__law_pick.bi (sa_cons (sv 0) (sa_cons (sint) (sa_nil)))) sc__law_bent.nd) (
    ss_cons (ss_set (i := 6) (se_ix (se_ix (se_ix (sv 1) (sint)) (se_call tk ((ok__law_pick T).mono (by decide)) hr T.d__law_pick.hm T.d__law_pick.hk T.d__law_pick.bi (sa_cons (sv 0) (sa_cons (se_blt r_len T.z_len (sa_cons (se_ix (sv 1) (sint)) (sa_nil))) (sa_nil))))) (sint)) sc__law_bent.nd) (
    ss_cons (ss_if (tcmp (r_eq hu) (fun _ _ _ _ h => h) (sv 5) (sint) (nomark _)) (ss_one (ss_drop (se_insAt (sv 3) (sv 4) (se_call tk ((ok__law_odd T).mono (by decide)) hr T.d__law_odd.hm T.d__law_odd.hk T.d__law_odd.bi (sa_cons (sv 0) (sa_cons (sv 1) (sa_nil))))))) (ss_one (ss_if ((sw_and (tcmp (r_eq hu) (fun _ _ _ _ h => h) (sv 5) (sint) (nomark _)) (sw_and1 (tcmp r_lt (fun _ _ _ _ h => h) (sv 4) (se_blt r_len T.z_len (sa_cons (sv 3) (sa_nil))) (nomark _)))).pt) (ss_one (ss_setIx (se_call tk ((ok__law_odd T).mono (by decide)) hr T.d__law_odd.hm T.d__law_odd.hk T.d__law_odd.bi (sa_cons (sv 0) (sa_cons (sv 1) (sa_nil)))) (sv 3) (sv 4))) (ss_one (ss_if ((sw_and (tcmp (r_eq hu) (fun _ _ _ _ h => h) (sv 5) (sint) (nomark _)) (sw_and1 (tcmp r_lt (fun _ _ _ _ h => h) (sv 4) (se_blt r_len T.z_len (sa_cons (sv 3) (sa_nil))) (nomark _)))).pt) (ss_one (ss_drop (se_insAt (sv 3) (se_call tk ((ok__law_pick T).mono (by decide)) hr T.d__law_pick.hm T.d__law_pick.hk T.d__law_pick.bi (sa_cons (sv 0) (sa_cons (sbin r_add (fun _ _ _ _ h => h) (se_blt r_len T.z_len (sa_cons (sv 3) (sa_nil))) (sint)) (sa_nil)))) (se_ix (sv 3) (sv 4))))) (ss_one (ss_if ((sw_and (tcmp (r_eq hu) (fun _ _ _ _ h => h) (sv 5) (sint) (nomark _)) (sw_and1 (tcmp r_lt (fun _ _ _ _ h => h) (sv 4) (se_blt r_len T.z_len (sa_cons (sv 3) (sa_nil))) (nomark _)))).pt) (ss_one (ss_setIx (sv 6) (sv 3) (sv 4))) (ss_one (ss_if ((sw_and (tcmp (r_eq hu) (fun _ _ _ _ h => h) (sv 5) (sint) (nomark _)) (sw_and1 (tcmp r_lt (fun _ _ _ _ h => h) (sv 4) (se_blt r_len T.z_len (sa_cons (sv 3) (sa_nil))) (nomark _)))).pt) (ss_one (ss_drop (se_popAt (sv 3) (sv 4)))) (ss_one (ss_if ((sw_and (tcmp (r_eq hu) (fun _ _ _ _ h => h) (sv 5) (sint) (nomark _)) (sw_and1 (tcmp r_lt (fun _ _ _ _ h => h) (sbin r_add (fun _ _ _ _ h => h) (sv 4) (sint)) (se_blt r_len T.z_len (sa_cons (sv 3) (sa_nil))) (nomark _)))).pt) (ss_one (ss_set (i := 3) (sbin r_addX (fun _ _ _ _ h => h) (se_fz (sbin r_addX (fun _ _ _ _ h => h) (se_fz (se_sl (sv 3) (so_none) (so_some (sv 4)))) (se_lst (sa_cons (se_ix (sv 3) (sbin r_add (fun _ _ _ _ h => h) (sv 4) (sint))) (sa_cons (se_ix (sv 3) (sv 4)) (sa_nil)))))) (se_fz (se_sl (sv 3) (so_some (sbin r_add (fun _ _ _ _ h => h) (sv 4) (sint))) (so_none)))) sc__law_bent.nd)) (ss_one (ss_drop (se_insAt (sv 3) (sv 4) (sv 6))))))))))))))) (
    ss_one (ss_ret (se_typ r_tuple T.z_tuple (sa_cons (sv 3) (sa_nil)))))))))
theorem sc__law_good_net : FnScope N__law_good_net ["pool", "net", "laps"] (defScope st__law_good_net) := ⟨rfl, rfl, rfl, by decide +kernel, rfl, by decide +kernel, by decide +kernel⟩
theorem ok__law_good_net (T : Pk K mg) : DOk P w K mg base 7 T.d__law_good_net.a T.d__law_good_net.fd ["pool", "net", "laps"] m__law_good_net := by
  refine okZ <| okF T.d__law_good_net.fn sc__law_good_net (by decide) fun cdv A outer s H E hr => ?_
  have hu : (A.deeper (envOfC "_law_good_net" (defScope st__law_good_net) s.heap.objs.size T.d__law_good_net.a cdv)).units + 64 < cLine := by have := hr.un; omega
  have hu5 : (A.deeper (envOfC "_law_good_net" (defScope st__law_good_net) s.heap.objs.size T.d__law_good_net.a cdv)).units + 65 < cLine := by have := hr.un; omega
  have tk := takes_of (X := cxOf (L2.CX P w) P w K mg base N__law_good_net "_law_good_net" (defScope st__law_good_net) T.d__law_good_net.a cdv A outer s H E) rfl rfl rfl rfl
  exact ss_cons (ss_for (passes_of rfl) rfl (si_range1 T.z_range (sv 2)) (sg_name (i := 3) sc__law_good_net.nd) (ss_cons (ss_set (i := 4) (se_call tk ((ok__law_walk T).mono (by decide)) hr T.d__law_walk.hm T.d__law_walk.hk T.d__law_walk.bi (sa_cons (sv 0) (sa_cons (sv 1) (sa_cons (sbin r_add (fun _ _ _ _ h => h) (sint) (se_call tk ((ok__law_pick T).mono (by decide)) hr T.d__law_pick.hm T.d__law_pick.hk T.d__law_pick.bi (sa_cons (sv 0) (sa_cons (sint) (sa_nil))))) (sa_nil))))) sc__law_good_net.nd) (
    ss_cons (ss_set (i := 5) (se_call tk ((ok__law_delays T).mono (by decide)) hr T.d__law_delays.hm T.d__law_delays.hk T.d__law_delays.bi (sa_cons (sv 0) (sa_cons (se_blt r_len T.z_len (sa_cons (se_ix (sv 1) (sint)) (sa_nil))) (sa_nil)))) sc__law_good_net.nd) (
    ss_cons (ss_set (i := 6) (se_typ r_tuple T.z_tuple (sa_cons (se_fz (se_lc (own := [("at", 8)]) rfl sc__law_good_net.nd (si_range1 T.z_range (se_blt r_len T.z_len (sa_cons (sv 4) (sa_nil)))) (blkOk_of (show blkB N__law_good_net (defScope st__law_good_net) _ [("at", 8)] = true by decide +kernel)) (by decide) (fun s1 H1 C1 cl1 fp1 => sg_name (i := 8) sc__law_good_net.nd) (fun s1 H1 C1 cl1 fp1 => sts_nil) (fun s1 H1 C1 cl1 fp1 => se_ix (sv 4) (sbin r_sub (fun _ _ _ _ h => h) (sbin r_sub (fun _ _ _ _ h => h) (se_blt r_len T.z_len (sa_cons (sv 4) (sa_nil))) (sint)) (sv 8))))) (sa_nil))) sc__law_good_net.nd) (
    ss_cons (ss_if ((sw_and (tcmp r_gt (fun _ _ _ _ h => h) (se_blt r_len T.z_len (sa_cons (sv 4) (sa_nil))) (sint) (nomark _)) (sw_and1 ((sw_or (st_not (stru (se_call tk ((ok__law_good_way T).mono (by decide)) hr T.d__law_good_way.hm T.d__law_good_way.hk T.d__law_good_way.bi (sa_cons (sv 1) (sa_cons (se_typ r_tuple T.z_tuple (sa_cons (sv 4) (sa_nil))) (sa_cons (sv 5) (sa_nil))))))) (sw_or1 (st_not (stru (se_call tk ((ok__law_good_way T).mono (by decide)) hr T.d__law_good_way.hm T.d__law_good_way.hk T.d__law_good_way.bi (sa_cons (sv 1) (sa_cons (sv 6) (sa_cons (sv 5) (sa_nil))))))))).pt))).pt) (ss_one (ss_ret (sbl))) (ss_nil)) (
    ss_cons (ss_if (st_not (stru (se_call tk ((ok__law_good_way T).mono (by decide)) hr T.d__law_good_way.hm T.d__law_good_way.hk T.d__law_good_way.bi (sa_cons (sv 1) (sa_cons (se_tup (sa_cons (se_ix (se_ix (se_ix (sv 1) (sint)) (se_call tk ((ok__law_pick T).mono (by decide)) hr T.d__law_pick.hm T.d__law_pick.hk T.d__law_pick.bi (sa_cons (sv 0) (sa_cons (se_blt r_len T.z_len (sa_cons (se_ix (sv 1) (sint)) (sa_nil))) (sa_nil))))) (sint)) (sa_nil))) (sa_cons (sv 5) (sa_nil))))))) (ss_one (ss_ret (sbl))) (ss_nil)) (
    ss_cons (ss_set (i := 7) (se_call tk ((ok__law_bent T).mono (by decide)) hr T.d__law_bent.hm T.d__law_bent.hk T.d__law_bent.bi (sa_cons (sv 0) (sa_cons (sv 1) (sa_cons (sv 4) (sa_nil))))) sc__law_good_net.nd) (
    ss_one (ss_if ((sw_or (st_not (stru (se_call tk ((ok__law_good T).mono (by decide)) hr T.d__law_good.hm T.d__law_good.hk T.d__law_good.bi (sa_cons (sv 1) (sa_cons (sv 7) (sa_nil)))))) (sw_or (st_not (stru (se_call tk ((ok__law_good T).mono (by decide)) hr T.d__law_good.hm T.d__law_good.hk T.d__law_good.bi (sa_cons (sv 1) (sa_cons (se_call tk ((ok__law_bent T).mono (by decide)) hr T.d__law_bent.hm T.d__law_bent.hk T.d__law_bent.bi (sa_cons (sv 0) (sa_cons (sv 1) (sa_cons (sv 7) (sa_nil))))) (sa_nil)))))) (sw_or1 (st_not (stru (se_call tk ((ok__law_good T).mono (by decide)) hr T.d__law_good.hm T.d__law_good.hk T.d__law_good.bi (sa_cons (sv 1) (sa_cons (se_fz (se_typ r_list T.z_list (sa_cons (sv 4) (sa_nil)))) (sa_nil))))))))).pt) (ss_one (ss_ret (sbl))) (ss_nil)))))))))) (
    ss_one (ss_ret (sbl)))
theorem sc__law_fixed : FnScope N__law_fixed ["pool"] (defScope st__law_fixed) := ⟨rfl, rfl, rfl, by decide +kernel, rfl, by decide +kernel, by decide +kernel⟩
theorem ok__law_fixed (T : Pk K mg) : DOk P w K mg base 7 T.d__law_fixed.a T.d__law_fixed.fd ["pool"] m__law_fixed := by
  refine okZ <| okF T.d__law_fixed.fn sc__law_fixed (by decide) fun cdv A outer s H E hr => ?_
  have hu : (A.deeper (envOfC "_law_fixed" (defScope st__law_fixed) s.heap.objs.size T.d__law_fixed.a cdv)).units + 64 < cLine := by have := hr.un; omega
  have hu5 : (A.deeper (envOfC "_law_fixed" (defScope st__law_fixed) s.heap.objs.size T.d__law_fixed.a cdv)).units + 65 < cLine := by have := hr.un; omega
  have tk := takes_of (X := cxOf (L2.CX P w) P w K mg base N__law_fixed "_law_fixed" (defScope st__law_fixed) T.d__law_fixed.a cdv A outer s H E) rfl rfl rfl rfl
  exact ss_cons (ss_set (i := 1) (se_fz (se_blt (r_sorted hu) T.z_sorted (sa_cons (se_call tk ((ok__law_words T).mono (by decide)) hr T.d__law_words.hm T.d__law_words.hk T.d__law_words.bi (sa_cons (sv 0) (sa_cons (sint) (sa_nil)))) (sa_nil)))) sc__law_fixed.nd) (
    ss_cons (ss_set (i := 2) (se_call tk ((ok__law_words T).mono (by decide)) hr T.d__law_words.hm T.d__law_words.hk T.d__law_words.bi (sa_cons (sv 0) (sa_cons (sint) (sa_nil)))) sc__law_fixed.nd) (
    ss_cons (ss_set (i := 3) (se_fz (se_lst (sa_cons (se_tup (sa_cons (sint) (sa_cons (sint) (sa_nil)))) (sa_cons (se_tup (sa_cons (sint) (sa_cons (sint) (sa_nil)))) (sa_cons (se_tup (sa_cons (sint) (sa_cons (sint) (sa_nil)))) (sa_cons (se_tup (sa_cons (sint) (sa_cons (sint) (sa_nil)))) (sa_cons (se_tup (sa_cons (sint) (sa_cons (sint) (sa_nil)))) (sa_cons (se_tup (sa_cons (sint) (sa_cons (sint) (sa_nil)))) (sa_cons (se_tup (sa_cons (sint) (sa_cons (sint) (sa_nil)))) (sa_nil)))))))))) sc__law_fixed.nd) (
    ss_cons (ss_setLcF (i := 4) (own := [("at", 14)]) rfl sc__law_fixed.nd (si_range1 T.z_range (sint)) (blkOk_of (show blkB N__law_fixed (defScope st__law_fixed) _ [("at", 14)] = true by decide +kernel)) (by decide) (fun s1 H1 C1 cl1 fp1 => sg_name (i := 14) sc__law_fixed.nd) (fun s1 H1 C1 cl1 fp1 => sts_nil) (fun s1 H1 C1 cl1 fp1 => se_tup (sa_cons (se_ix (sv 2) (sv 14)) (sa_cons (se_ix (sv 1) (se_ix (se_ix (sv 3) (sv 14)) (sint))) (sa_cons (se_ix (sv 1) (se_ix (se_ix (sv 3) (sv 14)) (sint))) (sa_nil))))) (hsw := by rfl)) (
    ss_cons (ss_set (i := 5) (se_tup (sa_cons (se_typ r_tuple T.z_tuple (sa_cons (sv 1) (sa_nil))) (sa_cons (se_typ r_tuple T.z_tuple (sa_cons (se_fz (se_blt (r_sorted hu) T.z_sorted (sa_cons (sv 4) (sa_nil)))) (sa_nil))) (sa_cons (se_tup (sa_cons (se_ix (sv 1) (sint)) (sa_cons (se_ix (sv 1) (sint)) (sa_cons (se_ix (sv 1) (sint)) (sa_nil))))) (sa_cons (se_typ r_tuple T.z_tuple (sa_cons (se_fz (se_blt (r_sorted hu) T.z_sorted (sa_cons (se_fz (se_lst (sa_cons (se_ix (sv 2) (sint)) (sa_cons (se_ix (sv 2) (sint)) (sa_nil))))) (sa_nil)))) (sa_nil))) (sa_nil)))))) sc__law_fixed.nd) (
    ss_cons (ss_set (i := 6) (se_fz (se_lst (sa_cons (se_tup (sa_cons (sint) (sa_cons (sint) (sa_nil)))) (sa_cons (se_tup (sa_cons (sint) (sa_cons (sint) (sa_nil)))) (sa_cons (se_tup (sa_cons (sint) (sa_cons (sint) (sa_cons (sint) (sa_nil))))) (sa_cons (se_tup (sa_cons (sint) (sa_cons (sint) (sa_cons (sint) (sa_nil))))) (sa_cons (se_tup (sa_cons (sint) (sa_nil))) (sa_cons (se_tup (sa_cons (sint) (sa_nil))) (sa_cons (se_tup (sa_cons (sint) (sa_nil))) (sa_cons (se_tup (sa_cons (sint) (sa_cons (sint) (sa_nil)))) (sa_cons (se_tup (sa_cons (sint) (sa_cons (sint) (sa_nil)))) (sa_cons (se_tup (sa_cons (sint) (sa_nil))) (sa_cons (se_tup (sa_cons (sint) (sa_nil))) (sa_cons (se_tup (sa_cons (sint) (sa_cons (sint) (sa_nil)))) (sa_cons (se_tup (sa_cons (sint) (sa_cons (sint) (sa_nil)))) (sa_cons (se_tup (sa_cons (sint) (sa_cons (sint) (sa_nil)))) (sa_nil))))))))))))))))) sc__law_fixed.nd) (
    ss_cons (ss_set (i := 6) (se_fz (sbin r_addX (fun _ _ _ _ h => h) (sv 6) (se_lst (sa_cons (se_tup (sa_cons (sint) (sa_cons (sint) (sa_nil)))) (sa_cons (se_tup (sa_cons (sint) (sa_cons (sint) (sa_cons (sint) (sa_nil))))) (sa_cons (se_tup (sa_cons (sint) (sa_cons (sint) (sa_nil)))) (sa_cons (se_tup (sa_cons (sint) (sa_cons (sint) (sa_cons (sint) (sa_cons (sint) (sa_nil)))))) (sa_cons (se_tup (sa_cons (sint) (sa_cons (sint) (sa_cons (sint) (sa_cons (sint) (sa_nil)))))) (sa_cons (se_tup (sa_cons (sint) (sa_cons (sint) (sa_nil)))) (sa_cons (se_tup (sa_cons (sint) (sa_nil))) (sa_cons (se_tup (sa_cons (sint) (sa_nil))) (sa_nil)))))))))))) sc__law_fixed.nd) (
    ss_cons (ss_set (i := 7) (se_call tk ((ok__law_delays T).mono (by decide)) hr T.d__law_delays.hm T.d__law_delays.hk T.d__law_delays.bi (sa_cons (sv 0) (sa_cons (sint) (sa_nil)))) sc__law_fixed.nd) (
    ss_cons (ss_for (passes_of rfl) rfl (si_any (sv 6)) (sg_name (i := 8) sc__law_fixed.nd) (ss_one (ss_if (st_not (stru (se_call tk ((ok__law_good_way T).mono (by decide)) hr T.d__law_good_way.hm T.d__law_good_way.hk T.d__law_good_way.bi (sa_cons (sv 5) (sa_cons (se_typ r_tuple T.z_tuple (sa_cons (se_fz (se_lc (own := [("at", 14)]) rfl sc__law_fixed.nd (si_any (sv 8)) (blkOk_of (show blkB N__law_fixed (defScope st__law_fixed) _ [("at", 14)] = true by decide +kernel)) (by decide) (fun s1 H1 C1 cl1 fp1 => sg_name (i := 14) sc__law_fixed.nd) (fun s1 H1 C1 cl1 fp1 => sts_nil) (fun s1 H1 C1 cl1 fp1 => se_ix (sv 2) (sv 14)))) (sa_nil))) (sa_cons (sv 7) (sa_nil))))))) (ss_one (ss_ret (sbl))) (ss_nil)))) (
    ss_cons (ss_set (i := 9) (se_lst (sa_cons (se_tup (sa_cons (sint) (sa_cons (sint) (sa_nil)))) (sa_cons (se_tup (sa_cons (sint) (sa_cons (sint) (sa_nil)))) (sa_cons (se_tup (sa_cons (sint) (sa_cons (sint) (sa_nil)))) (sa_cons (se_tup (sa_cons (sint) (sa_cons (sint) (sa_cons (sint) (sa_nil))))) (sa_cons (se_tup (sa_cons (sint) (sa_cons (sint) (sa_cons (sint) (sa_cons (sint) (sa_nil)))))) (sa_cons (se_tup (sa_cons (sint) (sa_cons (sint) (sa_cons (sint) (sa_cons (sint) (sa_nil)))))) (sa_cons (se_tup (sa_cons (sint) (sa_cons (sint) (sa_cons (sint) (sa_nil))))) (sa_cons (se_tup (sa_cons (sint) (sa_cons (sint) (sa_cons (sint) (sa_nil))))) (sa_cons (se_tup (sa_cons (sint) (sa_cons (sint) (sa_cons (sint) (sa_nil))))) (sa_nil))))))))))) sc__law_fixed.nd) (
    ss_cons (ss_drop (se_app (sv 9) (se_tup (sa_cons (sint) (sa_cons (sint) (sa_cons (sint) (sa_cons (sint) (sa_nil)))))))) (
    ss_cons (ss_for (passes_of rfl) rfl (si_any (sv 9)) (sg_name (i := 8) sc__law_fixed.nd) (ss_cons (ss_set (i := 10) (se_typ r_tuple T.z_tuple (sa_cons (se_fz (se_lc (own := [("at", 14)]) rfl sc__law_fixed.nd (si_any (sv 8)) (blkOk_of (show blkB N__law_fixed (defScope st__law_fixed) _ [("at", 14)] = true by decide +kernel)) (by decide) (fun s1 H1 C1 cl1 fp1 => sg_name (i := 14) sc__law_fixed.nd) (fun s1 H1 C1 cl1 fp1 => sts_nil) (fun s1 H1 C1 cl1 fp1 => se_ix (sv 2) (sv 14)))) (sa_nil))) sc__law_fixed.nd) (
    ss_one (ss_if ((sw_or (tcmp r_is (fun _ _ _ _ h => h) (se_ix (se_call tk ((ok__law_steps T).mono (by decide)) hr T.d__law_steps.hm T.d__law_steps.hk T.d__law_steps.bi (sa_cons (sv 5) (sa_cons (sv 10) (sa_nil)))) (sint)) (snon) (nomark _)) (sw_or (st_not (stru (se_call tk ((ok__law_good T).mono (by decide)) hr T.d__law_good.hm T.d__law_good.hk T.d__law_good.bi (sa_cons (sv 5) (sa_cons (sv 10) (sa_nil)))))) (sw_or1 (st_not (stru (se_call tk ((ok__law_good T).mono (by decide)) hr T.d__law_good.hm T.d__law_good.hk T.d__law_good.bi (sa_cons (sv 5) (sa_cons (sbin r_add (fun _ _ _ _ h => h) (sv 10) (se_tup (sa_cons (snon) (sa_nil)))) (sa_nil))))))))).pt) (ss_one (ss_ret (sbl))) (ss_nil))))) (
    ss_cons (ss_set (i := 11) (se_ix (sv 2) (sint)) sc__law_fixed.nd) (
    ss_cons (ss_set (i := 12) (se_fz (se_lst (sa_cons (snon) (sa_cons (se_tup (sa_nil)) (sa_cons (se_fz (se_lst (sa_nil))) (sa_cons (se_fz (se_lst (sa_cons (sv 11) (sa_nil)))) (sa_cons (sv 11) (sa_cons (sint) (sa_cons (sbl) (sa_cons (se_tup (sa_cons (sint) (sa_nil))) (sa_cons (se_tup (sa_cons (sbl) (sa_nil))) (sa_cons (se_tup (sa_cons (snon) (sa_nil))) (sa_cons (se_tup (sa_cons (se_tup (sa_cons (sv 11) (sa_nil))) (sa_nil))) (sa_cons (se_tup (sa_cons (sv 11) (sa_cons (sint) (sa_nil)))) (sa_cons (se_tup (sa_cons (sstr) (sa_nil))) (sa_cons (se_tup (sa_cons (se_fz (se_lst (sa_cons (sv 11) (sa_nil)))) (sa_nil))) (sa_nil))))))))))))))))) sc__law_fixed.nd) (
    ss_cons (ss_for (passes_of rfl) rfl (si_any (se_fz (sbin r_addX (fun _ _ _ _ h => h) (sv 12) (se_lst (sa_cons (se_tup (sa_cons (sv 11) (sa_cons (se_ix (sv 2) (sint)) (sa_cons (sbin r_add (fun _ _ _ _ h => h) (se_ix (sv 1) (sint)) (sstr)) (sa_nil))))) (sa_cons (se_tup (sa_cons (sv 11) (sa_cons (sstr) (sa_cons (sint) (sa_nil))))) (sa_cons (se_tup (sa_cons (sbin r_add (fun _ _ _ _ h => h) (se_ix (sv 1) (sint)) (sstr)) (sa_nil))) (sa_nil)))))))) (sg_name (i := 13) sc__law_fixed.nd) (ss_one (ss_if ((sw_or (tcmp r_is (fun _ _ _ _ h => h) (se_ix (se_call tk ((ok__law_steps T).mono (by decide)) hr T.d__law_steps.hm T.d__law_steps.hk T.d__law_steps.bi (sa_cons (sv 5) (sa_cons (sv 13) (sa_nil)))) (sint)) (snon) (nomark _)) (sw_or1 (st_not (stru (se_call tk ((ok__law_good T).mono (by decide)) hr T.d__law_good.hm T.d__law_good.hk T.d__law_good.bi (sa_cons (sv 5) (sa_cons (sv 13) (sa_nil)))))))).pt) (ss_one (ss_ret (sbl))) (ss_nil)))) (
    ss_cons (ss_if ((sw_or (tcmp r_isNot (fun _ _ _ _ h => h) (se_callK0 (ks := ["thing", "net"]) (pm := [1, 0]) tk ((ok_check_way T).mono (by decide)) hr T.d_check_way.hm T.d_check_way.hk (kb_check_way_1_0 T) rfl (sk_cons (se_tup (sa_cons (sv 11) (sa_nil))) (sk_cons (sv 5) (sk_nil)))) (snon) (nomark _)) (sw_or1 (tcmp r_isNot (fun _ _ _ _ h => h) (se_callK0 (ks := ["way", "net"]) (pm := [1, 0]) tk ((ok_is_route T).mono (by decide)) hr T.d_is_route.hm T.d_is_route.hk (kb_is_route_1_0 T) rfl (sk_cons (se_tup (sa_cons (se_ix (sv 2) (sint)) (sa_nil))) (sk_cons (sv 5) (sk_nil)))) (sbl) (nomark _)))).pt) (ss_one (ss_ret (sbl))) (ss_nil)) (
    ss_cons (ss_if ((sw_or (tcmp r_isNot (fun _ _ _ _ h => h) (se_callK0 (ks := ["route", "net"]) (pm := [1, 0]) tk ((ok_is_short T).mono (by decide)) hr T.d_is_short.hm T.d_is_short.hk (kb_is_short_1_0 T) rfl (sk_cons (se_tup (sa_cons (sv 11) (sa_cons (se_ix (sv 2) (sint)) (sa_nil)))) (sk_cons (sv 5) (sk_nil)))) (sbl) (nomark _)) (sw_or1 (tcmp r_isNot (fun _ _ _ _ h => h) (se_call tk ((ok_is_short T).mono (by decide)) hr T.d_is_short.hm T.d_is_short.hk T.d_is_short.bi (sa_cons (sv 5) (sa_cons (se_tup (sa_cons (sv 11) (sa_cons (se_ix (sv 2) (sint)) (sa_cons (se_ix (sv 2) (sint)) (sa_nil))))) (sa_nil)))) (sbl) (nomark _)))).pt) (ss_one (ss_ret (sbl))) (ss_nil)) (
    ss_cons (ss_if (tcmp r_isNot (fun _ _ _ _ h => h) (se_callK0 (ks := ["way", "net"]) (pm := [1, 0]) tk ((ok_is_probe T).mono (by decide)) hr T.d_is_probe.hm T.d_is_probe.hk (kb_is_probe_1_0 T) rfl (sk_cons (se_tup (sa_cons (se_ix (sv 2) (sint)) (sa_nil))) (sk_cons (sv 5) (sk_nil)))) (sbl) (nomark _)) (ss_one (ss_ret (sbl))) (ss_nil)) (
    ss_one (ss_ret (scmp (r_eq hu) (fun _ _ _ _ h => h) (se_callK0 (ks := ["delays", "way", "net"]) (pm := [2, 1, 0]) tk ((ok_reading_of T).mono (by decide)) hr T.d_reading_of.hm T.d_reading_of.hk (kb_reading_of_2_1_0 T) rfl (sk_cons (sbin r_mulX (fun _ _ _ _ h => h) (se_tup (sa_cons (sint) (sa_nil))) (sint)) (sk_cons (se_tup (sa_cons (sv 11) (sa_cons (se_ix (sv 2) (sint)) (sa_nil)))) (sk_cons (sv 5) (sk_nil))))) (sint) (nomark _)))))))))))))))))))))
theorem sc_law : FnScope N_law ["script"] (defScope st_law) := ⟨rfl, rfl, rfl, by decide +kernel, rfl, by decide +kernel, by decide +kernel⟩
theorem ok_law (T : Pk K mg) : DOk P w K mg base 8 T.d_law.a T.d_law.fd ["script"] m_law := by
  refine okZ <| okF T.d_law.fn sc_law (by decide) fun cdv A outer s H E hr => ?_
  have hu : (A.deeper (envOfC "law" (defScope st_law) s.heap.objs.size T.d_law.a cdv)).units + 64 < cLine := by have := hr.un; omega
  have hu5 : (A.deeper (envOfC "law" (defScope st_law) s.heap.objs.size T.d_law.a cdv)).units + 65 < cLine := by have := hr.un; omega
  have tk := takes_of (X := cxOf (L2.CX P w) P w K mg base N_law "law" (defScope st_law) T.d_law.a cdv A outer s H E) rfl rfl rfl rfl
  exact ss_cons (ss_set (i := 1) (se_call tk ((ok__law_pool T).mono (by decide)) hr T.d__law_pool.hm T.d__law_pool.hk T.d__law_pool.bi (sa_cons (sv 0) (sa_nil))) sc_law.nd) (
    ss_cons (ss_if (st_not (stru (se_call tk ((ok__law_fixed T).mono (by decide)) hr T.d__law_fixed.hm T.d__law_fixed.hk T.d__law_fixed.bi (sa_cons (sv 1) (sa_nil))))) (ss_one (ss_ret (sbl))) (ss_nil)) (
    ss_cons (ss_for (passes_of rfl) rfl (si_range1 T.z_range (sint)) (sg_name (i := 2) sc_law.nd) (ss_cons (ss_set (i := 3) (sbin r_add (fun _ _ _ _ h => h) (sint) (se_call tk ((ok__law_pick T).mono (by decide)) hr T.d__law_pick.hm T.d__law_pick.hk T.d__law_pick.bi (sa_cons (sv 1) (sa_cons (sint) (sa_nil))))) sc_law.nd) (
    ss_cons (ss_set (i := 4) (se_call tk ((ok__law_net T).mono (by decide)) hr T.d__law_net.hm T.d__law_net.hk T.d__law_net.bi (sa_cons (sv 1) (sa_cons (sv 3) (sa_cons (sbin r_add (fun _ _ _ _ h => h) (sint) (se_call tk ((ok__law_pick T).mono (by decide)) hr T.d__law_pick.hm T.d__law_pick.hk T.d__law_pick.bi (sa_cons (sv 1) (sa_cons (sint) (sa_nil))))) (sa_cons (scmp (r_eq hu) (fun _ _ _ _ h => h) (se_call tk ((ok__law_pick T).mono (by decide)) hr T.d__law_pick.hm T.d__law_pick.hk T.d__law_pick.bi (sa_cons (sv 1) (sa_cons (sint) (sa_nil)))) (sint) (nomark _)) (sa_nil)))))) sc_law.nd) (
    ss_one (ss_if (st_not (stru (se_call tk ((ok__law_good_net T).mono (by decide)) hr T.d__law_good_net.hm T.d__law_good_net.hk T.d__law_good_net.bi (sa_cons (sv 1) (sa_cons (se_ix (sv 4) (sint)) (sa_cons (sint) (sa_nil))))))) (ss_one (ss_ret (sbl))) (ss_nil)))))) (
    ss_cons (ss_if (tcmp (r_eq hu) (fun _ _ _ _ h => h) (se_call tk ((ok__law_pick T).mono (by decide)) hr T.d__law_pick.hm T.d__law_pick.hk T.d__law_pick.bi (sa_cons (sv 1) (sa_cons (sint) (sa_nil)))) (sint) (nomark _)) (ss_cons (ss_set (i := 4) (se_call tk ((ok__law_net T).mono (by decide)) hr T.d__law_net.hm T.d__law_net.hk T.d__law_net.bi (sa_cons (sv 1) (sa_cons (sint) (sa_cons (sint) (sa_cons (sbl) (sa_nil)))))) sc_law.nd) (
    ss_cons (ss_set (i := 5) (se_ix (sv 4) (sint)) sc_law.nd) (
    ss_cons (ss_set (i := 6) (se_blt (r_min2 rfl) T.z_min (sa_cons (se_ix (se_ix (sv 4) (sint)) (sint)) (sa_cons (se_ix (se_ix (sv 4) (sint)) (sint)) (sa_nil)))) sc_law.nd) (
    ss_cons (ss_set (i := 7) (se_blt (r_max2 rfl) T.z_max (sa_cons (se_ix (se_ix (sv 4) (sint)) (sint)) (sa_cons (se_ix (se_ix (sv 4) (sint)) (sint)) (sa_nil)))) sc_law.nd) (
    ss_cons (ss_set (i := 5) (se_tup (sa_cons (se_ix (sv 5) (sint)) (sa_cons (se_ix (sv 5) (sint)) (sa_cons (se_tup (sa_cons (sv 6) (sa_cons (sv 7) (sa_nil)))) (sa_cons (se_ix (sv 5) (sint)) (sa_nil)))))) sc_law.nd) (
    ss_cons (ss_set (i := 8) (se_typ r_tuple T.z_tuple (sa_cons (se_sl (se_ix (sv 4) (sint)) (so_none) (so_some (sint))) (sa_nil))) sc_law.nd) (
    ss_cons (ss_set (i := 9) (se_typ r_tuple T.z_tuple (sa_cons (se_fz (se_lc (own := [("at", 11)]) rfl sc_law.nd (si_range1 T.z_range (sint)) (blkOk_of (show blkB N_law (defScope st_law) _ [("at", 11)] = true by decide +kernel)) (by decide) (fun s1 H1 C1 cl1 fp1 => sg_name (i := 11) sc_law.nd) (fun s1 H1 C1 cl1 fp1 => sts_nil) (fun s1 H1 C1 cl1 fp1 => se_ix (sv 8) (sbin r_sub (fun _ _ _ _ h => h) (sint) (sv 11))))) (sa_nil))) sc_law.nd) (
    ss_cons (ss_for (passes_of rfl) rfl (si_any (se_tup (sa_cons (sv 8) (sa_cons (sv 9) (sa_nil))))) (sg_name (i := 10) sc_law.nd) (ss_cons (ss_if (st_not (stru (se_call tk ((ok__law_good_way T).mono (by decide)) hr T.d__law_good_way.hm T.d__law_good_way.hk T.d__law_good_way.bi (sa_cons (sv 5) (sa_cons (sv 10) (sa_cons (sbin r_mulX (fun _ _ _ _ h => h) (se_tup (sa_cons (sbin r_pow (fun _ _ _ _ h => h) (sint) (sint)) (sa_nil))) (sint)) (sa_nil))))))) (ss_one (ss_ret (sbl))) (ss_nil)) (
    ss_one (ss_if ((sw_or (st_not (stru (se_call tk ((ok__law_good T).mono (by decide)) hr T.d__law_good.hm T.d__law_good.hk T.d__law_good.bi (sa_cons (sv 5) (sa_cons (sbin r_add (fun _ _ _ _ h => h) (sv 10) (se_tup (sa_cons (se_ix (se_ix (sv 4) (sint)) (sint)) (sa_nil)))) (sa_nil)))))) (sw_or1 (st_not (stru (se_call tk ((ok__law_good T).mono (by decide)) hr T.d__law_good.hm T.d__law_good.hk T.d__law_good.bi (sa_cons (sv 5) (sa_cons (sbin r_add (fun _ _ _ _ h => h) (sv 10) (se_tup (sa_cons (sstr) (sa_nil)))) (sa_nil)))))))).pt) (ss_one (ss_ret (sbl))) (ss_nil))))) (
    ss_one (ss_if (st_not (stru (se_call tk ((ok__law_good_net T).mono (by decide)) hr T.d__law_good_net.hm T.d__law_good_net.hk T.d__law_good_net.bi (sa_cons (sv 1) (sa_cons (se_ix (sv 4) (sint)) (sa_cons (sint) (sa_nil))))))) (ss_one (ss_ret (sbl))) (ss_nil))))))))))) (ss_nil)) (
    ss_one (ss_ret (sbl))))))
end
theorem all_mk {w : World} {K : PySem.W.Frag} {h : Heap} {mg : Str → Option Value} {fa : Addr} (KI : K.In h) (G : h.Ns mainGlobals mg) (hfa : mg "law" = some (.ref fa))
    {f0 : Addr} {od0 an0 : Option Addr} {sl0 : Array (Option Value)} {oc0 kV0 dc0 pm0 cd0 ct0 : Value}
    {f1 : Addr} {od1 an1 : Option Addr} {sl1 : Array (Option Value)} {oc1 kV1 dc1 pm1 cd1 ct1 : Value}
    {f2 : Addr} {od2 an2 : Option Addr} {sl2 : Array (Option Value)} {oc2 kV2 dc2 pm2 cd2 ct2 : Value}
    {f3 : Addr} {od3 an3 : Option Addr} {sl3 : Array (Option Value)} {oc3 kV3 dc3 pm3 cd3 ct3 : Value}
    {f4 : Addr} {od4 an4 : Option Addr} {sl4 : Array (Option Value)} {oc4 kV4 dc4 pm4 cd4 ct4 : Value}
    {f5 : Addr} {od5 an5 : Option Addr} {sl5 : Array (Option Value)} {oc5 kV5 dc5 pm5 cd5 ct5 : Value}
    {f6 : Addr} {od6 an6 : Option Addr} {sl6 : Array (Option Value)} {oc6 kV6 dc6 pm6 cd6 ct6 : Value}
    {f7 : Addr} {od7 an7 : Option Addr} {sl7 : Array (Option Value)} {oc7 kV7 dc7 pm7 cd7 ct7 : Value}
    {f8 : Addr} {od8 an8 : Option Addr} {sl8 : Array (Option Value)} {oc8 kV8 dc8 pm8 cd8 ct8 : Value}
    {f9 : Addr} {od9 an9 : Option Addr} {sl9 : Array (Option Value)} {oc9 kV9 dc9 pm9 cd9 ct9 : Value}
    {f10 : Addr} {od10 an10 : Option Addr} {sl10 : Array (Option Value)} {oc10 kV10 dc10 pm10 cd10 ct10 : Value}
    {f11 : Addr} {od11 an11 : Option Addr} {sl11 : Array (Option Value)} {oc11 kV11 dc11 pm11 cd11 ct11 : Value}
    {f12 : Addr} {od12 an12 : Option Addr} {sl12 : Array (Option Value)} {oc12 kV12 dc12 pm12 cd12 ct12 : Value}
    {f13 : Addr} {od13 an13 : Option Addr} {sl13 : Array (Option Value)} {oc13 kV13 dc13 pm13 cd13 ct13 : Value}
    {f14 : Addr} {od14 an14 : Option Addr} {sl14 : Array (Option Value)} {oc14 kV14 dc14 pm14 cd14 ct14 : Value}
    {f15 : Addr} {od15 an15 : Option Addr} {sl15 : Array (Option Value)} {oc15 kV15 dc15 pm15 cd15 ct15 : Value}
    {f16 : Addr} {od16 an16 : Option Addr} {sl16 : Array (Option Value)} {oc16 kV16 dc16 pm16 cd16 ct16 : Value}
    {f17 : Addr} {od17 an17 : Option Addr} {sl17 : Array (Option Value)} {oc17 kV17 dc17 pm17 cd17 ct17 : Value}
    {f18 : Addr} {od18 an18 : Option Addr} {sl18 : Array (Option Value)} {oc18 kV18 dc18 pm18 cd18 ct18 : Value}
    {f19 : Addr} {od19 an19 : Option Addr} {sl19 : Array (Option Value)} {oc19 kV19 dc19 pm19 cd19 ct19 : Value}
    {f20 : Addr} {od20 an20 : Option Addr} {sl20 : Array (Option Value)} {oc20 kV20 dc20 pm20 cd20 ct20 : Value}
    {f21 : Addr} {od21 an21 : Option Addr} {sl21 : Array (Option Value)} {oc21 kV21 dc21 pm21 cd21 ct21 : Value}
    {f22 : Addr} {od22 an22 : Option Addr} {sl22 : Array (Option Value)} {oc22 kV22 dc22 pm22 cd22 ct22 : Value}
    {f23 : Addr} {od23 an23 : Option Addr} {sl23 : Array (Option Value)} {oc23 kV23 dc23 pm23 cd23 ct23 : Value}
    {f24 : Addr} {od24 an24 : Option Addr} {sl24 : Array (Option Value)} {oc24 kV24 dc24 pm24 cd24 ct24 : Value}
    {f25 : Addr} {od25 an25 : Option Addr} {sl25 : Array (Option Value)} {oc25 kV25 dc25 pm25 cd25 ct25 : Value}
    {f26 : Addr} {od26 an26 : Option Addr} {sl26 : Array (Option Value)} {oc26 kV26 dc26 pm26 cd26 ct26 : Value}
    {f27 : Addr} {od27 an27 : Option Addr} {sl27 : Array (Option Value)} {oc27 kV27 dc27 pm27 cd27 ct27 : Value}
    (a0 : PySem.W.nsIn K mainGlobals "places_of" = some (some (.ref f0))) (l0 : K.lookup f0 = some ⟨oc0, od0, .func (PySem.W.fnOf "places_of" "places_of" (defArgs st_places_of) (defBody st_places_of) (defScope st_places_of) .none kV0 dc0 pm0 an0 cd0 ct0), sl0⟩) (c0 : PySem.W.codeIn K cd0 "places_of" = true) (k0 : PySem.W.keepIn K (.ref f0) = true)
    (a1 : PySem.W.nsIn K mainGlobals "link_ends" = some (some (.ref f1))) (l1 : K.lookup f1 = some ⟨oc1, od1, .func (PySem.W.fnOf "link_ends" "link_ends" (defArgs st_link_ends) (defBody st_link_ends) (defScope st_link_ends) .none kV1 dc1 pm1 an1 cd1 ct1), sl1⟩) (c1 : PySem.W.codeIn K cd1 "link_ends" = true) (k1 : PySem.W.keepIn K (.ref f1) = true)
    (a2 : PySem.W.nsIn K mainGlobals "way_nodes" = some (some (.ref f2))) (l2 : K.lookup f2 = some ⟨oc2, od2, .func (PySem.W.fnOf "way_nodes" "way_nodes" (defArgs st_way_nodes) (defBody st_way_nodes) (defScope st_way_nodes) .none kV2 dc2 pm2 an2 cd2 ct2), sl2⟩) (c2 : PySem.W.codeIn K cd2 "way_nodes" = true) (k2 : PySem.W.keepIn K (.ref f2) = true)
    (a3 : PySem.W.nsIn K mainGlobals "way_fault" = some (some (.ref f3))) (l3 : K.lookup f3 = some ⟨oc3, od3, .func (PySem.W.fnOf "way_fault" "way_fault" (defArgs st_way_fault) (defBody st_way_fault) (defScope st_way_fault) .none kV3 dc3 pm3 an3 cd3 ct3), sl3⟩) (c3 : PySem.W.codeIn K cd3 "way_fault" = true) (k3 : PySem.W.keepIn K (.ref f3) = true)
    (a4 : PySem.W.nsIn K mainGlobals "check_way" = some (some (.ref f4))) (l4 : K.lookup f4 = some ⟨oc4, od4, .func (PySem.W.fnOf "check_way" "check_way" (defArgs st_check_way) (defBody st_check_way) (defScope st_check_way) .none kV4 dc4 pm4 an4 cd4 ct4), sl4⟩) (c4 : PySem.W.codeIn K cd4 "check_way" = true) (k4 : PySem.W.keepIn K (.ref f4) = true)
    (a5 : PySem.W.nsIn K mainGlobals "is_route" = some (some (.ref f5))) (l5 : K.lookup f5 = some ⟨oc5, od5, .func (PySem.W.fnOf "is_route" "is_route" (defArgs st_is_route) (defBody st_is_route) (defScope st_is_route) .none kV5 dc5 pm5 an5 cd5 ct5), sl5⟩) (c5 : PySem.W.codeIn K cd5 "is_route" = true) (k5 : PySem.W.keepIn K (.ref f5) = true)
    (a6 : PySem.W.nsIn K mainGlobals "is_short" = some (some (.ref f6))) (l6 : K.lookup f6 = some ⟨oc6, od6, .func (PySem.W.fnOf "is_short" "is_short" (defArgs st_is_short) (defBody st_is_short) (defScope st_is_short) .none kV6 dc6 pm6 an6 cd6 ct6), sl6⟩) (c6 : PySem.W.codeIn K cd6 "is_short" = true) (k6 : PySem.W.keepIn K (.ref f6) = true)
    (a7 : PySem.W.nsIn K mainGlobals "is_probe" = some (some (.ref f7))) (l7 : K.lookup f7 = some ⟨oc7, od7, .func (PySem.W.fnOf "is_probe" "is_probe" (defArgs st_is_probe) (defBody st_is_probe) (defScope st_is_probe) .none kV7 dc7 pm7 an7 cd7 ct7), sl7⟩) (c7 : PySem.W.codeIn K cd7 "is_probe" = true) (k7 : PySem.W.keepIn K (.ref f7) = true)
    (a8 : PySem.W.nsIn K mainGlobals "reading_of" = some (some (.ref f8))) (l8 : K.lookup f8 = some ⟨oc8, od8, .func (PySem.W.fnOf "reading_of" "reading_of" (defArgs st_reading_of) (defBody st_reading_of) (defScope st_reading_of) .none kV8 dc8 pm8 an8 cd8 ct8), sl8⟩) (c8 : PySem.W.codeIn K cd8 "reading_of" = true) (k8 : PySem.W.keepIn K (.ref f8) = true)
    (a9 : PySem.W.nsIn K mainGlobals "_law_pool" = some (some (.ref f9))) (l9 : K.lookup f9 = some ⟨oc9, od9, .func (PySem.W.fnOf "_law_pool" "_law_pool" (defArgs st__law_pool) (defBody st__law_pool) (defScope st__law_pool) .none kV9 dc9 pm9 an9 cd9 ct9), sl9⟩) (c9 : PySem.W.codeIn K cd9 "_law_pool" = true) (k9 : PySem.W.keepIn K (.ref f9) = true)
    (a10 : PySem.W.nsIn K mainGlobals "_law_pick" = some (some (.ref f10))) (l10 : K.lookup f10 = some ⟨oc10, od10, .func (PySem.W.fnOf "_law_pick" "_law_pick" (defArgs st__law_pick) (defBody st__law_pick) (defScope st__law_pick) .none kV10 dc10 pm10 an10 cd10 ct10), sl10⟩) (c10 : PySem.W.codeIn K cd10 "_law_pick" = true) (k10 : PySem.W.keepIn K (.ref f10) = true)
    (a11 : PySem.W.nsIn K mainGlobals "_law_words" = some (some (.ref f11))) (l11 : K.lookup f11 = some ⟨oc11, od11, .func (PySem.W.fnOf "_law_words" "_law_words" (defArgs st__law_words) (defBody st__law_words) (defScope st__law_words) .none kV11 dc11 pm11 an11 cd11 ct11), sl11⟩) (c11 : PySem.W.codeIn K cd11 "_law_words" = true) (k11 : PySem.W.keepIn K (.ref f11) = true)
    (a12 : PySem.W.nsIn K mainGlobals "_law_net" = some (some (.ref f12))) (l12 : K.lookup f12 = some ⟨oc12, od12, .func (PySem.W.fnOf "_law_net" "_law_net" (defArgs st__law_net) (defBody st__law_net) (defScope st__law_net) .none kV12 dc12 pm12 an12 cd12 ct12), sl12⟩) (c12 : PySem.W.codeIn K cd12 "_law_net" = true) (k12 : PySem.W.keepIn K (.ref f12) = true)
    (a13 : PySem.W.nsIn K mainGlobals "_law_other" = some (some (.ref f13))) (l13 : K.lookup f13 = some ⟨oc13, od13, .func (PySem.W.fnOf "_law_other" "_law_other" (defArgs st__law_other) (defBody st__law_other) (defScope st__law_other) .none kV13 dc13 pm13 an13 cd13 ct13), sl13⟩) (c13 : PySem.W.codeIn K cd13 "_law_other" = true) (k13 : PySem.W.keepIn K (.ref f13) = true)
    (a14 : PySem.W.nsIn K mainGlobals "_law_walk" = some (some (.ref f14))) (l14 : K.lookup f14 = some ⟨oc14, od14, .func (PySem.W.fnOf "_law_walk" "_law_walk" (defArgs st__law_walk) (defBody st__law_walk) (defScope st__law_walk) .none kV14 dc14 pm14 an14 cd14 ct14), sl14⟩) (c14 : PySem.W.codeIn K cd14 "_law_walk" = true) (k14 : PySem.W.keepIn K (.ref f14) = true)
    (a15 : PySem.W.nsIn K mainGlobals "_law_steps" = some (some (.ref f15))) (l15 : K.lookup f15 = some ⟨oc15, od15, .func (PySem.W.fnOf "_law_steps" "_law_steps" (defArgs st__law_steps) (defBody st__law_steps) (defScope st__law_steps) .none kV15 dc15 pm15 an15 cd15 ct15), sl15⟩) (c15 : PySem.W.codeIn K cd15 "_law_steps" = true) (k15 : PySem.W.keepIn K (.ref f15) = true)
    (a16 : PySem.W.nsIn K mainGlobals "_law_kinds" = some (some (.ref f16))) (l16 : K.lookup f16 = some ⟨oc16, od16, .func (PySem.W.fnOf "_law_kinds" "_law_kinds" (defArgs st__law_kinds) (defBody st__law_kinds) (defScope st__law_kinds) .none kV16 dc16 pm16 an16 cd16 ct16), sl16⟩) (c16 : PySem.W.codeIn K cd16 "_law_kinds" = true) (k16 : PySem.W.keepIn K (.ref f16) = true)
    (a17 : PySem.W.nsIn K mainGlobals "_law_told" = some (some (.ref f17))) (l17 : K.lookup f17 = some ⟨oc17, od17, .func (PySem.W.fnOf "_law_told" "_law_told" (defArgs st__law_told) (defBody st__law_told) (defScope st__law_told) .none kV17 dc17 pm17 an17 cd17 ct17), sl17⟩) (c17 : PySem.W.codeIn K cd17 "_law_told" = true) (k17 : PySem.W.keepIn K (.ref f17) = true)
    (a18 : PySem.W.nsIn K mainGlobals "_law_good" = some (some (.ref f18))) (l18 : K.lookup f18 = some ⟨oc18, od18, .func (PySem.W.fnOf "_law_good" "_law_good" (defArgs st__law_good) (defBody st__law_good) (defScope st__law_good) .none kV18 dc18 pm18 an18 cd18 ct18), sl18⟩) (c18 : PySem.W.codeIn K cd18 "_law_good" = true) (k18 : PySem.W.keepIn K (.ref f18) = true)
    (a19 : PySem.W.nsIn K mainGlobals "_law_route" = some (some (.ref f19))) (l19 : K.lookup f19 = some ⟨oc19, od19, .func (PySem.W.fnOf "_law_route" "_law_route" (defArgs st__law_route) (defBody st__law_route) (defScope st__law_route) .none kV19 dc19 pm19 an19 cd19 ct19), sl19⟩) (c19 : PySem.W.codeIn K cd19 "_law_route" = true) (k19 : PySem.W.keepIn K (.ref f19) = true)
    (a20 : PySem.W.nsIn K mainGlobals "_law_yes" = some (some (.ref f20))) (l20 : K.lookup f20 = some ⟨oc20, od20, .func (PySem.W.fnOf "_law_yes" "_law_yes" (defArgs st__law_yes) (defBody st__law_yes) (defScope st__law_yes) .none kV20 dc20 pm20 an20 cd20 ct20), sl20⟩) (c20 : PySem.W.codeIn K cd20 "_law_yes" = true) (k20 : PySem.W.keepIn K (.ref f20) = true)
    (a21 : PySem.W.nsIn K mainGlobals "_law_good_way" = some (some (.ref f21))) (l21 : K.lookup f21 = some ⟨oc21, od21, .func (PySem.W.fnOf "_law_good_way" "_law_good_way" (defArgs st__law_good_way) (defBody st__law_good_way) (defScope st__law_good_way) .none kV21 dc21 pm21 an21 cd21 ct21), sl21⟩) (c21 : PySem.W.codeIn K cd21 "_law_good_way" = true) (k21 : PySem.W.keepIn K (.ref f21) = true)
    (a22 : PySem.W.nsIn K mainGlobals "_law_delays" = some (some (.ref f22))) (l22 : K.lookup f22 = some ⟨oc22, od22, .func (PySem.W.fnOf "_law_delays" "_law_delays" (defArgs st__law_delays) (defBody st__law_delays) (defScope st__law_delays) .none kV22 dc22 pm22 an22 cd22 ct22), sl22⟩) (c22 : PySem.W.codeIn K cd22 "_law_delays" = true) (k22 : PySem.W.keepIn K (.ref f22) = true)
    (a23 : PySem.W.nsIn K mainGlobals "_law_odd" = some (some (.ref f23))) (l23 : K.lookup f23 = some ⟨oc23, od23, .func (PySem.W.fnOf "_law_odd" "_law_odd" (defArgs st__law_odd) (defBody st__law_odd) (defScope st__law_odd) .none kV23 dc23 pm23 an23 cd23 ct23), sl23⟩) (c23 : PySem.W.codeIn K cd23 "_law_odd" = true) (k23 : PySem.W.keepIn K (.ref f23) = true)
    (a24 : PySem.W.nsIn K mainGlobals "_law_bent" = some (some (.ref f24))) (l24 : K.lookup f24 = some ⟨oc24, od24, .func (PySem.W.fnOf "_law_bent" "_law_bent" (defArgs st__law_bent) (defBody st__law_bent) (defScope st__law_bent) .none kV24 dc24 pm24 an24 cd24 ct24), sl24⟩) (c24 : PySem.W.codeIn K cd24 "_law_bent" = true) (k24 : PySem.W.keepIn K (.ref f24) = true)
    (a25 : PySem.W.nsIn K mainGlobals "_law_good_net" = some (some (.ref f25))) (l25 : K.lookup f25 = some ⟨oc25, od25, .func (PySem.W.fnOf "_law_good_net" "_law_good_net" (defArgs st__law_good_net) (defBody st__law_good_net) (defScope st__law_good_net) .none kV25 dc25 pm25 an25 cd25 ct25), sl25⟩) (c25 : PySem.W.codeIn K cd25 "_law_good_net" = true) (k25 : PySem.W.keepIn K (.ref f25) = true)
    (a26 : PySem.W.nsIn K mainGlobals "_law_fixed" = some (some (.ref f26))) (l26 : K.lookup f26 = some ⟨oc26, od26, .func (PySem.W.fnOf "_law_fixed" "_law_fixed" (defArgs st__law_fixed) (defBody st__law_fixed) (defScope st__law_fixed) .none kV26 dc26 pm26 an26 cd26 ct26), sl26⟩) (c26 : PySem.W.codeIn K cd26 "_law_fixed" = true) (k26 : PySem.W.keepIn K (.ref f26) = true)
    (a27 : PySem.W.nsIn K mainGlobals "law" = some (some (.ref f27))) (l27 : K.lookup f27 = some ⟨oc27, od27, .func (PySem.W.fnOf "law" "law" (defArgs st_law) (defBody st_law) (defScope st_law) .none kV27 dc27 pm27 an27 cd27 ct27), sl27⟩) (c27 : PySem.W.codeIn K cd27 "law" = true) (k27 : PySem.W.keepIn K (.ref f27) = true)
    (z_ValueError : PySem.W.nsIn K mainGlobals "ValueError" = some none)
    (z_bool : PySem.W.nsIn K mainGlobals "bool" = some none)
    (z_enumerate : PySem.W.nsIn K mainGlobals "enumerate" = some none)
    (z_int : PySem.W.nsIn K mainGlobals "int" = some none)
    (z_isinstance : PySem.W.nsIn K mainGlobals "isinstance" = some none)
    (z_len : PySem.W.nsIn K mainGlobals "len" = some none)
    (z_list : PySem.W.nsIn K mainGlobals "list" = some none)
    (z_max : PySem.W.nsIn K mainGlobals "max" = some none)
    (z_min : PySem.W.nsIn K mainGlobals "min" = some none)
    (z_range : PySem.W.nsIn K mainGlobals "range" = some none)
    (z_sorted : PySem.W.nsIn K mainGlobals "sorted" = some none)
    (z_str : PySem.W.nsIn K mainGlobals "str" = some none)
    (z_sum : PySem.W.nsIn K mainGlobals "sum" = some none)
    (z_tuple : PySem.W.nsIn K mainGlobals "tuple" = some none)
    (cg : PySem.W.specialIn K (.builtin "object.__class__") "__get__" = some (some (.builtin "getset_descriptor.__get__"))) (ct : PySem.W.takesIn K (.builtin "object.__class__") = some true)
    {C_NetError : Addr} (en_NetError : PySem.W.nsIn K mainGlobals "NetError" = some (some (.ref C_NetError))) (e1_NetError : PySem.W.isClsIn K C_NetError = true) (e2_NetError : PySem.W.findIn K (.ref C_NetError) "__getattribute__" = some (some (.builtin "BaseException.__getattribute__"))) (e3_NetError : PySem.W.findIn K (.ref C_NetError) "__getattr__" = some none)
    (e4_NetError : PySem.W.subIn K (.ref C_NetError) (.type "BaseException") = some true) (e5_NetError : PySem.W.findIn K (.ref C_NetError) "__class__" = some (some (.builtin "object.__class__"))) (e6_NetError : PySem.W.mroIn K C_NetError (.type "object") = some true) (e7_NetError : PySem.W.hasDictIn K C_NetError = true) (e8_NetError : PySem.W.typeIn K (.ref C_NetError) = some (.type "type")) (e9_NetError : PySem.W.subIn K (.ref C_NetError) (.ref C_NetError) = some true)
    {C_DataError : Addr} (en_DataError : PySem.W.nsIn K mainGlobals "DataError" = some (some (.ref C_DataError))) (e1_DataError : PySem.W.isClsIn K C_DataError = true) (e2_DataError : PySem.W.findIn K (.ref C_DataError) "__getattribute__" = some (some (.builtin "BaseException.__getattribute__"))) (e3_DataError : PySem.W.findIn K (.ref C_DataError) "__getattr__" = some none)
    (e4_DataError : PySem.W.subIn K (.ref C_DataError) (.type "BaseException") = some true) (e5_DataError : PySem.W.findIn K (.ref C_DataError) "__class__" = some (some (.builtin "object.__class__"))) (e6_DataError : PySem.W.mroIn K C_DataError (.type "object") = some true) (e7_DataError : PySem.W.hasDictIn K C_DataError = true) (e8_DataError : PySem.W.typeIn K (.ref C_DataError) = some (.type "type")) (e9_DataError : PySem.W.subIn K (.ref C_DataError) (.ref C_DataError) = some true)
    {C_CallError : Addr} (en_CallError : PySem.W.nsIn K mainGlobals "CallError" = some (some (.ref C_CallError))) (e1_CallError : PySem.W.isClsIn K C_CallError = true) (e2_CallError : PySem.W.findIn K (.ref C_CallError) "__getattribute__" = some (some (.builtin "BaseException.__getattribute__"))) (e3_CallError : PySem.W.findIn K (.ref C_CallError) "__getattr__" = some none)
    (e4_CallError : PySem.W.subIn K (.ref C_CallError) (.type "BaseException") = some true) (e5_CallError : PySem.W.findIn K (.ref C_CallError) "__class__" = some (some (.builtin "object.__class__"))) (e6_CallError : PySem.W.mroIn K C_CallError (.type "object") = some true) (e7_CallError : PySem.W.hasDictIn K C_CallError = true) (e8_CallError : PySem.W.typeIn K (.ref C_CallError) = some (.type "type")) (e9_CallError : PySem.W.subIn K (.ref C_CallError) (.ref C_CallError) = some true)
    {C_TextError : Addr} (en_TextError : PySem.W.nsIn K mainGlobals "TextError" = some (some (.ref C_TextError))) (e1_TextError : PySem.W.isClsIn K C_TextError = true) (e2_TextError : PySem.W.findIn K (.ref C_TextError) "__getattribute__" = some (some (.builtin "BaseException.__getattribute__"))) (e3_TextError : PySem.W.findIn K (.ref C_TextError) "__getattr__" = some none)
    (e4_TextError : PySem.W.subIn K (.ref C_TextError) (.type "BaseException") = some true) (e5_TextError : PySem.W.findIn K (.ref C_TextError) "__class__" = some (some (.builtin "object.__class__"))) (e6_TextError : PySem.W.mroIn K C_TextError (.type "object") = some true) (e7_TextError : PySem.W.hasDictIn K C_TextError = true) (e8_TextError : PySem.W.typeIn K (.ref C_TextError) = some (.type "type")) (e9_TextError : PySem.W.subIn K (.ref C_TextError) (.ref C_TextError) = some true)
    {C_DeskError : Addr} (en_DeskError : PySem.W.nsIn K mainGlobals "DeskError" = some (some (.ref C_DeskError))) (e1_DeskError : PySem.W.isClsIn K C_DeskError = true) (e2_DeskError : PySem.W.findIn K (.ref C_DeskError) "__getattribute__" = some (some (.builtin "BaseException.__getattribute__"))) (e3_DeskError : PySem.W.findIn K (.ref C_DeskError) "__getattr__" = some none)
    (e4_DeskError : PySem.W.subIn K (.ref C_DeskError) (.type "BaseException") = some true) (e5_DeskError : PySem.W.findIn K (.ref C_DeskError) "__class__" = some (some (.builtin "object.__class__"))) (e6_DeskError : PySem.W.mroIn K C_DeskError (.type "object") = some true) (e7_DeskError : PySem.W.hasDictIn K C_DeskError = true) (e8_DeskError : PySem.W.typeIn K (.ref C_DeskError) = some (.type "type")) (e9_DeskError : PySem.W.subIn K (.ref C_DeskError) (.ref C_DeskError) = some true)
    {C_BadName : Addr} (en_BadName : PySem.W.nsIn K mainGlobals "BadName" = some (some (.ref C_BadName))) (e1_BadName : PySem.W.isClsIn K C_BadName = true) (e2_BadName : PySem.W.findIn K (.ref C_BadName) "__getattribute__" = some (some (.builtin "BaseException.__getattribute__"))) (e3_BadName : PySem.W.findIn K (.ref C_BadName) "__getattr__" = some none)
    (e4_BadName : PySem.W.subIn K (.ref C_BadName) (.type "BaseException") = some true) (e5_BadName : PySem.W.findIn K (.ref C_BadName) "__class__" = some (some (.builtin "object.__class__"))) (e6_BadName : PySem.W.mroIn K C_BadName (.type "object") = some true) (e7_BadName : PySem.W.hasDictIn K C_BadName = true) (e8_BadName : PySem.W.typeIn K (.ref C_BadName) = some (.type "type")) (e9_BadName : PySem.W.subIn K (.ref C_BadName) (.ref C_BadName) = some true)
    {C_BadNet : Addr} (en_BadNet : PySem.W.nsIn K mainGlobals "BadNet" = some (some (.ref C_BadNet))) (e1_BadNet : PySem.W.isClsIn K C_BadNet = true) (e2_BadNet : PySem.W.findIn K (.ref C_BadNet) "__getattribute__" = some (some (.builtin "BaseException.__getattribute__"))) (e3_BadNet : PySem.W.findIn K (.ref C_BadNet) "__getattr__" = some none)
    (e4_BadNet : PySem.W.subIn K (.ref C_BadNet) (.type "BaseException") = some true) (e5_BadNet : PySem.W.findIn K (.ref C_BadNet) "__class__" = some (some (.builtin "object.__class__"))) (e6_BadNet : PySem.W.mroIn K C_BadNet (.type "object") = some true) (e7_BadNet : PySem.W.hasDictIn K C_BadNet = true) (e8_BadNet : PySem.W.typeIn K (.ref C_BadNet) = some (.type "type")) (e9_BadNet : PySem.W.subIn K (.ref C_BadNet) (.ref C_BadNet) = some true)
    {C_BadWay : Addr} (en_BadWay : PySem.W.nsIn K mainGlobals "BadWay" = some (some (.ref C_BadWay))) (e1_BadWay : PySem.W.isClsIn K C_BadWay = true) (e2_BadWay : PySem.W.findIn K (.ref C_BadWay) "__getattribute__" = some (some (.builtin "BaseException.__getattribute__"))) (e3_BadWay : PySem.W.findIn K (.ref C_BadWay) "__getattr__" = some none)
    (e4_BadWay : PySem.W.subIn K (.ref C_BadWay) (.type "BaseException") = some true) (e5_BadWay : PySem.W.findIn K (.ref C_BadWay) "__class__" = some (some (.builtin "object.__class__"))) (e6_BadWay : PySem.W.mroIn K C_BadWay (.type "object") = some true) (e7_BadWay : PySem.W.hasDictIn K C_BadWay = true) (e8_BadWay : PySem.W.typeIn K (.ref C_BadWay) = some (.type "type")) (e9_BadWay : PySem.W.subIn K (.ref C_BadWay) (.ref C_BadWay) = some true)
    {nm_BadWay qn_BadWay : Str} {N_BadWay : Addr} {bs_BadWay bm_BadWay : List Value} {sn_BadWay : List Str} {sub_BadWay : List Value} {ab_BadWay : Bool} {col_BadWay : Option Bool} {dd_BadWay : Option Addr} {m0_BadWay m1_BadWay m2_BadWay m3_BadWay m5_BadWay : Option Value}
    (xL_BadWay : K.lookup C_BadWay = some (excClassObj nm_BadWay qn_BadWay C_BadWay N_BadWay bs_BadWay bm_BadWay true sn_BadWay sub_BadWay ab_BadWay col_BadWay dd_BadWay m0_BadWay m1_BadWay m2_BadWay m3_BadWay m5_BadWay "ValueError.__new__")) (rv_BadWay : PySem.HandSPX.refsVE bm_BadWay = true) (sa_BadWay : PySem.W.findIn K (.ref C_BadWay) "__setattr__" = some (some (.builtin "object.__setattr__")))
    {fI_BadWay : Addr} (iC_BadWay : PySem.W.findIn K (.ref C_BadWay) "__init__" = some (some (.ref fI_BadWay))) (tI_BadWay : PySem.W.typeIn K (.ref fI_BadWay) = some (.type "function")) (kC_BadWay : PySem.W.keepIn K (.ref C_BadWay) = true)
    {od_BadWay an_BadWay : Option Addr} {sl_BadWay : Array (Option Value)} {oc_BadWay kV_BadWay dc_BadWay pm_BadWay cd_BadWay ct_BadWay : Value} (l_BadWay : K.lookup fI_BadWay = some ⟨oc_BadWay, od_BadWay, .func (PySem.W.fnOf "__init__" "BadWay.__init__" (defArgs st_i_BadWay) (defBody st_i_BadWay) (defScope st_i_BadWay) .none kV_BadWay dc_BadWay pm_BadWay an_BadWay cd_BadWay ct_BadWay), sl_BadWay⟩) (c_BadWay : PySem.W.codeIn K cd_BadWay "BadWay.__init__" = true) (k_BadWay : PySem.W.keepIn K (.ref fI_BadWay) = true)
    (nf_BadWay_at : PySem.W.findIn K (.ref C_BadWay) "at" = some none)
    {C_BadNumbers : Addr} (en_BadNumbers : PySem.W.nsIn K mainGlobals "BadNumbers" = some (some (.ref C_BadNumbers))) (e1_BadNumbers : PySem.W.isClsIn K C_BadNumbers = true) (e2_BadNumbers : PySem.W.findIn K (.ref C_BadNumbers) "__getattribute__" = some (some (.builtin "BaseException.__getattribute__"))) (e3_BadNumbers : PySem.W.findIn K (.ref C_BadNumbers) "__getattr__" = some none)
    (e4_BadNumbers : PySem.W.subIn K (.ref C_BadNumbers) (.type "BaseException") = some true) (e5_BadNumbers : PySem.W.findIn K (.ref C_BadNumbers) "__class__" = some (some (.builtin "object.__class__"))) (e6_BadNumbers : PySem.W.mroIn K C_BadNumbers (.type "object") = some true) (e7_BadNumbers : PySem.W.hasDictIn K C_BadNumbers = true) (e8_BadNumbers : PySem.W.typeIn K (.ref C_BadNumbers) = some (.type "type")) (e9_BadNumbers : PySem.W.subIn K (.ref C_BadNumbers) (.ref C_BadNumbers) = some true)
    {C_BadBook : Addr} (en_BadBook : PySem.W.nsIn K mainGlobals "BadBook" = some (some (.ref C_BadBook))) (e1_BadBook : PySem.W.isClsIn K C_BadBook = true) (e2_BadBook : PySem.W.findIn K (.ref C_BadBook) "__getattribute__" = some (some (.builtin "BaseException.__getattribute__"))) (e3_BadBook : PySem.W.findIn K (.ref C_BadBook) "__getattr__" = some none)
    (e4_BadBook : PySem.W.subIn K (.ref C_BadBook) (.type "BaseException") = some true) (e5_BadBook : PySem.W.findIn K (.ref C_BadBook) "__class__" = some (some (.builtin "object.__class__"))) (e6_BadBook : PySem.W.mroIn K C_BadBook (.type "object") = some true) (e7_BadBook : PySem.W.hasDictIn K C_BadBook = true) (e8_BadBook : PySem.W.typeIn K (.ref C_BadBook) = some (.type "type")) (e9_BadBook : PySem.W.subIn K (.ref C_BadBook) (.ref C_BadBook) = some true)
    {C_BadBounds : Addr} (en_BadBounds : PySem.W.nsIn K mainGlobals "BadBounds" = some (some (.ref C_BadBounds))) (e1_BadBounds : PySem.W.isClsIn K C_BadBounds = true) (e2_BadBounds : PySem.W.findIn K (.ref C_BadBounds) "__getattribute__" = some (some (.builtin "BaseException.__getattribute__"))) (e3_BadBounds : PySem.W.findIn K (.ref C_BadBounds) "__getattr__" = some none)
    (e4_BadBounds : PySem.W.subIn K (.ref C_BadBounds) (.type "BaseException") = some true) (e5_BadBounds : PySem.W.findIn K (.ref C_BadBounds) "__class__" = some (some (.builtin "object.__class__"))) (e6_BadBounds : PySem.W.mroIn K C_BadBounds (.type "object") = some true) (e7_BadBounds : PySem.W.hasDictIn K C_BadBounds = true) (e8_BadBounds : PySem.W.typeIn K (.ref C_BadBounds) = some (.type "type")) (e9_BadBounds : PySem.W.subIn K (.ref C_BadBounds) (.ref C_BadBounds) = some true)
    {C_BadWood : Addr} (en_BadWood : PySem.W.nsIn K mainGlobals "BadWood" = some (some (.ref C_BadWood))) (e1_BadWood : PySem.W.isClsIn K C_BadWood = true) (e2_BadWood : PySem.W.findIn K (.ref C_BadWood) "__getattribute__" = some (some (.builtin "BaseException.__getattribute__"))) (e3_BadWood : PySem.W.findIn K (.ref C_BadWood) "__getattr__" = some none)
    (e4_BadWood : PySem.W.subIn K (.ref C_BadWood) (.type "BaseException") = some true) (e5_BadWood : PySem.W.findIn K (.ref C_BadWood) "__class__" = some (some (.builtin "object.__class__"))) (e6_BadWood : PySem.W.mroIn K C_BadWood (.type "object") = some true) (e7_BadWood : PySem.W.hasDictIn K C_BadWood = true) (e8_BadWood : PySem.W.typeIn K (.ref C_BadWood) = some (.type "type")) (e9_BadWood : PySem.W.subIn K (.ref C_BadWood) (.ref C_BadWood) = some true)
    {C_BadStep : Addr} (en_BadStep : PySem.W.nsIn K mainGlobals "BadStep" = some (some (.ref C_BadStep))) (e1_BadStep : PySem.W.isClsIn K C_BadStep = true) (e2_BadStep : PySem.W.findIn K (.ref C_BadStep) "__getattribute__" = some (some (.builtin "BaseException.__getattribute__"))) (e3_BadStep : PySem.W.findIn K (.ref C_BadStep) "__getattr__" = some none)
    (e4_BadStep : PySem.W.subIn K (.ref C_BadStep) (.type "BaseException") = some true) (e5_BadStep : PySem.W.findIn K (.ref C_BadStep) "__class__" = some (some (.builtin "object.__class__"))) (e6_BadStep : PySem.W.mroIn K C_BadStep (.type "object") = some true) (e7_BadStep : PySem.W.hasDictIn K C_BadStep = true) (e8_BadStep : PySem.W.typeIn K (.ref C_BadStep) = some (.type "type")) (e9_BadStep : PySem.W.subIn K (.ref C_BadStep) (.ref C_BadStep) = some true)
    {C_NoDelays : Addr} (en_NoDelays : PySem.W.nsIn K mainGlobals "NoDelays" = some (some (.ref C_NoDelays))) (e1_NoDelays : PySem.W.isClsIn K C_NoDelays = true) (e2_NoDelays : PySem.W.findIn K (.ref C_NoDelays) "__getattribute__" = some (some (.builtin "BaseException.__getattribute__"))) (e3_NoDelays : PySem.W.findIn K (.ref C_NoDelays) "__getattr__" = some none)
    (e4_NoDelays : PySem.W.subIn K (.ref C_NoDelays) (.type "BaseException") = some true) (e5_NoDelays : PySem.W.findIn K (.ref C_NoDelays) "__class__" = some (some (.builtin "object.__class__"))) (e6_NoDelays : PySem.W.mroIn K C_NoDelays (.type "object") = some true) (e7_NoDelays : PySem.W.hasDictIn K C_NoDelays = true) (e8_NoDelays : PySem.W.typeIn K (.ref C_NoDelays) = some (.type "type")) (e9_NoDelays : PySem.W.subIn K (.ref C_NoDelays) (.ref C_NoDelays) = some true)
    {C_BadText : Addr} (en_BadText : PySem.W.nsIn K mainGlobals "BadText" = some (some (.ref C_BadText))) (e1_BadText : PySem.W.isClsIn K C_BadText = true) (e2_BadText : PySem.W.findIn K (.ref C_BadText) "__getattribute__" = some (some (.builtin "BaseException.__getattribute__"))) (e3_BadText : PySem.W.findIn K (.ref C_BadText) "__getattr__" = some none)
    (e4_BadText : PySem.W.subIn K (.ref C_BadText) (.type "BaseException") = some true) (e5_BadText : PySem.W.findIn K (.ref C_BadText) "__class__" = some (some (.builtin "object.__class__"))) (e6_BadText : PySem.W.mroIn K C_BadText (.type "object") = some true) (e7_BadText : PySem.W.hasDictIn K C_BadText = true) (e8_BadText : PySem.W.typeIn K (.ref C_BadText) = some (.type "type")) (e9_BadText : PySem.W.subIn K (.ref C_BadText) (.ref C_BadText) = some true)
    {C_BadCommand : Addr} (en_BadCommand : PySem.W.nsIn K mainGlobals "BadCommand" = some (some (.ref C_BadCommand))) (e1_BadCommand : PySem.W.isClsIn K C_BadCommand = true) (e2_BadCommand : PySem.W.findIn K (.ref C_BadCommand) "__getattribute__" = some (some (.builtin "BaseException.__getattribute__"))) (e3_BadCommand : PySem.W.findIn K (.ref C_BadCommand) "__getattr__" = some none)
    (e4_BadCommand : PySem.W.subIn K (.ref C_BadCommand) (.type "BaseException") = some true) (e5_BadCommand : PySem.W.findIn K (.ref C_BadCommand) "__class__" = some (some (.builtin "object.__class__"))) (e6_BadCommand : PySem.W.mroIn K C_BadCommand (.type "object") = some true) (e7_BadCommand : PySem.W.hasDictIn K C_BadCommand = true) (e8_BadCommand : PySem.W.typeIn K (.ref C_BadCommand) = some (.type "type")) (e9_BadCommand : PySem.W.subIn K (.ref C_BadCommand) (.ref C_BadCommand) = some true)
    {C_NoSuch : Addr} (en_NoSuch : PySem.W.nsIn K mainGlobals "NoSuch" = some (some (.ref C_NoSuch))) (e1_NoSuch : PySem.W.isClsIn K C_NoSuch = true) (e2_NoSuch : PySem.W.findIn K (.ref C_NoSuch) "__getattribute__" = some (some (.builtin "BaseException.__getattribute__"))) (e3_NoSuch : PySem.W.findIn K (.ref C_NoSuch) "__getattr__" = some none)
    (e4_NoSuch : PySem.W.subIn K (.ref C_NoSuch) (.type "BaseException") = some true) (e5_NoSuch : PySem.W.findIn K (.ref C_NoSuch) "__class__" = some (some (.builtin "object.__class__"))) (e6_NoSuch : PySem.W.mroIn K C_NoSuch (.type "object") = some true) (e7_NoSuch : PySem.W.hasDictIn K C_NoSuch = true) (e8_NoSuch : PySem.W.typeIn K (.ref C_NoSuch) = some (.type "type")) (e9_NoSuch : PySem.W.subIn K (.ref C_NoSuch) (.ref C_NoSuch) = some true)
    {C_Taken : Addr} (en_Taken : PySem.W.nsIn K mainGlobals "Taken" = some (some (.ref C_Taken))) (e1_Taken : PySem.W.isClsIn K C_Taken = true) (e2_Taken : PySem.W.findIn K (.ref C_Taken) "__getattribute__" = some (some (.builtin "BaseException.__getattribute__"))) (e3_Taken : PySem.W.findIn K (.ref C_Taken) "__getattr__" = some none)
    (e4_Taken : PySem.W.subIn K (.ref C_Taken) (.type "BaseException") = some true) (e5_Taken : PySem.W.findIn K (.ref C_Taken) "__class__" = some (some (.builtin "object.__class__"))) (e6_Taken : PySem.W.mroIn K C_Taken (.type "object") = some true) (e7_Taken : PySem.W.hasDictIn K C_Taken = true) (e8_Taken : PySem.W.typeIn K (.ref C_Taken) = some (.type "type")) (e9_Taken : PySem.W.subIn K (.ref C_Taken) (.ref C_Taken) = some true)
    (su_BadWay_BadBook : PySem.W.subIn K (.ref C_BadWay) (.ref C_BadBook) = some false)
    (su_BadWay_BadBounds : PySem.W.subIn K (.ref C_BadWay) (.ref C_BadBounds) = some false)
    (su_BadWay_BadCommand : PySem.W.subIn K (.ref C_BadWay) (.ref C_BadCommand) = some false)
    (su_BadWay_BadName : PySem.W.subIn K (.ref C_BadWay) (.ref C_BadName) = some false)
    (su_BadWay_BadNet : PySem.W.subIn K (.ref C_BadWay) (.ref C_BadNet) = some false)
    (su_BadWay_BadNumbers : PySem.W.subIn K (.ref C_BadWay) (.ref C_BadNumbers) = some false)
    (su_BadWay_BadStep : PySem.W.subIn K (.ref C_BadWay) (.ref C_BadStep) = some false)
    (su_BadWay_BadText : PySem.W.subIn K (.ref C_BadWay) (.ref C_BadText) = some false)
    (su_BadWay_BadWay : PySem.W.subIn K (.ref C_BadWay) (.ref C_BadWay) = some true)
    (su_BadWay_BadWood : PySem.W.subIn K (.ref C_BadWay) (.ref C_BadWood) = some false)
    (su_BadWay_CallError : PySem.W.subIn K (.ref C_BadWay) (.ref C_CallError) = some false)
    (su_BadWay_DataError : PySem.W.subIn K (.ref C_BadWay) (.ref C_DataError) = some true)
    (su_BadWay_DeskError : PySem.W.subIn K (.ref C_BadWay) (.ref C_DeskError) = some false)
    (su_BadWay_NetError : PySem.W.subIn K (.ref C_BadWay) (.ref C_NetError) = some true)
    (su_BadWay_NoDelays : PySem.W.subIn K (.ref C_BadWay) (.ref C_NoDelays) = some false)
    (su_BadWay_NoSuch : PySem.W.subIn K (.ref C_BadWay) (.ref C_NoSuch) = some false)
    (su_BadWay_Taken : PySem.W.subIn K (.ref C_BadWay) (.ref C_Taken) = some false)
    (su_BadWay_TextError : PySem.W.subIn K (.ref C_BadWay) (.ref C_TextError) = some false)
    (su_BadWay_ValueError : PySem.W.subIn K (.ref C_BadWay) (.type "ValueError") = some true)
    : Nonempty { T : Pk K mg // T.d_law.a = fa ∧ ∀ (s : Shared) (v : Value), BindsTo s T.d_law.fd ⟨[v], []⟩ [("script", v)] } := by
  have e := hfa.symm.trans (PySem.W.mg_of KI G a27)
  cases e
  exact ⟨⟨{
    d_places_of := ⟨_, _, PySem.W.mg_of KI G a0, k0, fun_mk (st := st_places_of) l0 c0 k0, (fun_mk (st := st_places_of) l0 c0 k0).binds (ps := ["net"]) fun _ _ _ _ _ _ us hl => match us, hl with | [_], _ => rfl⟩
    d_link_ends := ⟨_, _, PySem.W.mg_of KI G a1, k1, fun_mk (st := st_link_ends) l1 c1 k1, (fun_mk (st := st_link_ends) l1 c1 k1).binds (ps := ["net"]) fun _ _ _ _ _ _ us hl => match us, hl with | [_], _ => rfl⟩
    d_way_nodes := ⟨_, _, PySem.W.mg_of KI G a2, k2, fun_mk (st := st_way_nodes) l2 c2 k2, (fun_mk (st := st_way_nodes) l2 c2 k2).binds (ps := ["net", "way"]) fun _ _ _ _ _ _ us hl => match us, hl with | [_, _], _ => rfl⟩
    d_way_fault := ⟨_, _, PySem.W.mg_of KI G a3, k3, fun_mk (st := st_way_fault) l3 c3 k3, (fun_mk (st := st_way_fault) l3 c3 k3).binds (ps := ["net", "thing"]) fun _ _ _ _ _ _ us hl => match us, hl with | [_, _], _ => rfl⟩
    d_check_way := ⟨_, _, PySem.W.mg_of KI G a4, k4, fun_mk (st := st_check_way) l4 c4 k4, (fun_mk (st := st_check_way) l4 c4 k4).binds (ps := ["net", "thing"]) fun _ _ _ _ _ _ us hl => match us, hl with | [_, _], _ => rfl⟩
    d_is_route := ⟨_, _, PySem.W.mg_of KI G a5, k5, fun_mk (st := st_is_route) l5 c5 k5, (fun_mk (st := st_is_route) l5 c5 k5).binds (ps := ["net", "way"]) fun _ _ _ _ _ _ us hl => match us, hl with | [_, _], _ => rfl⟩
    d_is_short := ⟨_, _, PySem.W.mg_of KI G a6, k6, fun_mk (st := st_is_short) l6 c6 k6, (fun_mk (st := st_is_short) l6 c6 k6).binds (ps := ["net", "route"]) fun _ _ _ _ _ _ us hl => match us, hl with | [_, _], _ => rfl⟩
    d_is_probe := ⟨_, _, PySem.W.mg_of KI G a7, k7, fun_mk (st := st_is_probe) l7 c7 k7, (fun_mk (st := st_is_probe) l7 c7 k7).binds (ps := ["net", "way"]) fun _ _ _ _ _ _ us hl => match us, hl with | [_, _], _ => rfl⟩
    d_reading_of := ⟨_, _, PySem.W.mg_of KI G a8, k8, fun_mk (st := st_reading_of) l8 c8 k8, (fun_mk (st := st_reading_of) l8 c8 k8).binds (ps := ["net", "way", "delays"]) fun _ _ _ _ _ _ us hl => match us, hl with | [_, _, _], _ => rfl⟩
    d__law_pool := ⟨_, _, PySem.W.mg_of KI G a9, k9, fun_mk (st := st__law_pool) l9 c9 k9, (fun_mk (st := st__law_pool) l9 c9 k9).binds (ps := ["script"]) fun _ _ _ _ _ _ us hl => match us, hl with | [_], _ => rfl⟩
    d__law_pick := ⟨_, _, PySem.W.mg_of KI G a10, k10, fun_mk (st := st__law_pick) l10 c10 k10, (fun_mk (st := st__law_pick) l10 c10 k10).binds (ps := ["pool", "many"]) fun _ _ _ _ _ _ us hl => match us, hl with | [_, _], _ => rfl⟩
    d__law_words := ⟨_, _, PySem.W.mg_of KI G a11, k11, fun_mk (st := st__law_words) l11 c11 k11, (fun_mk (st := st__law_words) l11 c11 k11).binds (ps := ["pool", "many"]) fun _ _ _ _ _ _ us hl => match us, hl with | [_, _], _ => rfl⟩
    d__law_net := ⟨_, _, PySem.W.mg_of KI G a12, k12, fun_mk (st := st__law_net) l12 c12 k12, (fun_mk (st := st__law_net) l12 c12 k12).binds (ps := ["pool", "many", "count", "chain"]) fun _ _ _ _ _ _ us hl => match us, hl with | [_, _, _, _], _ => rfl⟩
    d__law_other := ⟨_, _, PySem.W.mg_of KI G a13, k13, fun_mk (st := st__law_other) l13 c13 k13, (fun_mk (st := st__law_other) l13 c13 k13).binds (ps := ["link", "node"]) fun _ _ _ _ _ _ us hl => match us, hl with | [_, _], _ => rfl⟩
    d__law_walk := ⟨_, _, PySem.W.mg_of KI G a14, k14, fun_mk (st := st__law_walk) l14 c14 k14, (fun_mk (st := st__law_walk) l14 c14 k14).binds (ps := ["pool", "net", "most"]) fun _ _ _ _ _ _ us hl => match us, hl with | [_, _, _], _ => rfl⟩
    d__law_steps := ⟨_, _, PySem.W.mg_of KI G a15, k15, fun_mk (st := st__law_steps) l15 c15 k15, (fun_mk (st := st__law_steps) l15 c15 k15).binds (ps := ["net", "thing"]) fun _ _ _ _ _ _ us hl => match us, hl with | [_, _], _ => rfl⟩
    d__law_kinds := ⟨_, _, PySem.W.mg_of KI G a16, k16, fun_mk (st := st__law_kinds) l16 c16 k16, (fun_mk (st := st__law_kinds) l16 c16 k16).binds (ps := ["bad"]) fun _ _ _ _ _ _ us hl => match us, hl with | [_], _ => rfl⟩
    d__law_told := ⟨_, _, PySem.W.mg_of KI G a17, k17, fun_mk (st := st__law_told) l17 c17 k17, (fun_mk (st := st__law_told) l17 c17 k17).binds (ps := ["net", "thing"]) fun _ _ _ _ _ _ us hl => match us, hl with | [_, _], _ => rfl⟩
    d__law_good := ⟨_, _, PySem.W.mg_of KI G a18, k18, fun_mk (st := st__law_good) l18 c18 k18, (fun_mk (st := st__law_good) l18 c18 k18).binds (ps := ["net", "thing"]) fun _ _ _ _ _ _ us hl => match us, hl with | [_, _], _ => rfl⟩
    d__law_route := ⟨_, _, PySem.W.mg_of KI G a19, k19, fun_mk (st := st__law_route) l19 c19 k19, (fun_mk (st := st__law_route) l19 c19 k19).binds (ps := ["net", "way"]) fun _ _ _ _ _ _ us hl => match us, hl with | [_, _], _ => rfl⟩
    d__law_yes := ⟨_, _, PySem.W.mg_of KI G a20, k20, fun_mk (st := st__law_yes) l20 c20 k20, (fun_mk (st := st__law_yes) l20 c20 k20).binds (ps := ["told", "due"]) fun _ _ _ _ _ _ us hl => match us, hl with | [_, _], _ => rfl⟩
    d__law_good_way := ⟨_, _, PySem.W.mg_of KI G a21, k21, fun_mk (st := st__law_good_way) l21 c21 k21, (fun_mk (st := st__law_good_way) l21 c21 k21).binds (ps := ["net", "way", "delays"]) fun _ _ _ _ _ _ us hl => match us, hl with | [_, _, _], _ => rfl⟩
    d__law_delays := ⟨_, _, PySem.W.mg_of KI G a22, k22, fun_mk (st := st__law_delays) l22 c22 k22, (fun_mk (st := st__law_delays) l22 c22 k22).binds (ps := ["pool", "many"]) fun _ _ _ _ _ _ us hl => match us, hl with | [_, _], _ => rfl⟩
    d__law_odd := ⟨_, _, PySem.W.mg_of KI G a23, k23, fun_mk (st := st__law_odd) l23 c23 k23, (fun_mk (st := st__law_odd) l23 c23 k23).binds (ps := ["pool", "net"]) fun _ _ _ _ _ _ us hl => match us, hl with | [_, _], _ => rfl⟩
    d__law_bent := ⟨_, _, PySem.W.mg_of KI G a24, k24, fun_mk (st := st__law_bent) l24 c24 k24, (fun_mk (st := st__law_bent) l24 c24 k24).binds (ps := ["pool", "net", "way"]) fun _ _ _ _ _ _ us hl => match us, hl with | [_, _, _], _ => rfl⟩
    d__law_good_net := ⟨_, _, PySem.W.mg_of KI G a25, k25, fun_mk (st := st__law_good_net) l25 c25 k25, (fun_mk (st := st__law_good_net) l25 c25 k25).binds (ps := ["pool", "net", "laps"]) fun _ _ _ _ _ _ us hl => match us, hl with | [_, _, _], _ => rfl⟩
    d__law_fixed := ⟨_, _, PySem.W.mg_of KI G a26, k26, fun_mk (st := st__law_fixed) l26 c26 k26, (fun_mk (st := st__law_fixed) l26 c26 k26).binds (ps := ["pool"]) fun _ _ _ _ _ _ us hl => match us, hl with | [_], _ => rfl⟩
    d_law := ⟨_, _, PySem.W.mg_of KI G a27, k27, fun_mk (st := st_law) l27 c27 k27, (fun_mk (st := st_law) l27 c27 k27).binds (ps := ["script"]) fun _ _ _ _ _ _ us hl => match us, hl with | [_], _ => rfl⟩
    z_ValueError := PySem.W.mg_none_of KI G z_ValueError
    z_bool := PySem.W.mg_none_of KI G z_bool
    z_enumerate := PySem.W.mg_none_of KI G z_enumerate
    z_int := PySem.W.mg_none_of KI G z_int
    z_isinstance := PySem.W.mg_none_of KI G z_isinstance
    z_len := PySem.W.mg_none_of KI G z_len
    z_list := PySem.W.mg_none_of KI G z_list
    z_max := PySem.W.mg_none_of KI G z_max
    z_min := PySem.W.mg_none_of KI G z_min
    z_range := PySem.W.mg_none_of KI G z_range
    z_sorted := PySem.W.mg_none_of KI G z_sorted
    z_str := PySem.W.mg_none_of KI G z_str
    z_sum := PySem.W.mg_none_of KI G z_sum
    z_tuple := PySem.W.mg_none_of KI G z_tuple
    e_NetError := ⟨C_NetError, PySem.W.mg_of KI G en_NetError, en_NetError, ⟨e1_NetError, e2_NetError, e3_NetError, e4_NetError, e5_NetError, cg, ct, e6_NetError, e7_NetError⟩, e8_NetError, e9_NetError⟩
    e_DataError := ⟨C_DataError, PySem.W.mg_of KI G en_DataError, en_DataError, ⟨e1_DataError, e2_DataError, e3_DataError, e4_DataError, e5_DataError, cg, ct, e6_DataError, e7_DataError⟩, e8_DataError, e9_DataError⟩
    e_CallError := ⟨C_CallError, PySem.W.mg_of KI G en_CallError, en_CallError, ⟨e1_CallError, e2_CallError, e3_CallError, e4_CallError, e5_CallError, cg, ct, e6_CallError, e7_CallError⟩, e8_CallError, e9_CallError⟩
    e_TextError := ⟨C_TextError, PySem.W.mg_of KI G en_TextError, en_TextError, ⟨e1_TextError, e2_TextError, e3_TextError, e4_TextError, e5_TextError, cg, ct, e6_TextError, e7_TextError⟩, e8_TextError, e9_TextError⟩
    e_DeskError := ⟨C_DeskError, PySem.W.mg_of KI G en_DeskError, en_DeskError, ⟨e1_DeskError, e2_DeskError, e3_DeskError, e4_DeskError, e5_DeskError, cg, ct, e6_DeskError, e7_DeskError⟩, e8_DeskError, e9_DeskError⟩
    e_BadName := ⟨C_BadName, PySem.W.mg_of KI G en_BadName, en_BadName, ⟨e1_BadName, e2_BadName, e3_BadName, e4_BadName, e5_BadName, cg, ct, e6_BadName, e7_BadName⟩, e8_BadName, e9_BadName⟩
    e_BadNet := ⟨C_BadNet, PySem.W.mg_of KI G en_BadNet, en_BadNet, ⟨e1_BadNet, e2_BadNet, e3_BadNet, e4_BadNet, e5_BadNet, cg, ct, e6_BadNet, e7_BadNet⟩, e8_BadNet, e9_BadNet⟩
    e_BadWay := ⟨C_BadWay, PySem.W.mg_of KI G en_BadWay, en_BadWay, ⟨e1_BadWay, e2_BadWay, e3_BadWay, e4_BadWay, e5_BadWay, cg, ct, e6_BadWay, e7_BadWay⟩, e8_BadWay, e9_BadWay⟩
    e_BadNumbers := ⟨C_BadNumbers, PySem.W.mg_of KI G en_BadNumbers, en_BadNumbers, ⟨e1_BadNumbers, e2_BadNumbers, e3_BadNumbers, e4_BadNumbers, e5_BadNumbers, cg, ct, e6_BadNumbers, e7_BadNumbers⟩, e8_BadNumbers, e9_BadNumbers⟩
    e_BadBook := ⟨C_BadBook, PySem.W.mg_of KI G en_BadBook, en_BadBook, ⟨e1_BadBook, e2_BadBook, e3_BadBook, e4_BadBook, e5_BadBook, cg, ct, e6_BadBook, e7_BadBook⟩, e8_BadBook, e9_BadBook⟩
    e_BadBounds := ⟨C_BadBounds, PySem.W.mg_of KI G en_BadBounds, en_BadBounds, ⟨e1_BadBounds, e2_BadBounds, e3_BadBounds, e4_BadBounds, e5_BadBounds, cg, ct, e6_BadBounds, e7_BadBounds⟩, e8_BadBounds, e9_BadBounds⟩
    e_BadWood := ⟨C_BadWood, PySem.W.mg_of KI G en_BadWood, en_BadWood, ⟨e1_BadWood, e2_BadWood, e3_BadWood, e4_BadWood, e5_BadWood, cg, ct, e6_BadWood, e7_BadWood⟩, e8_BadWood, e9_BadWood⟩
    e_BadStep := ⟨C_BadStep, PySem.W.mg_of KI G en_BadStep, en_BadStep, ⟨e1_BadStep, e2_BadStep, e3_BadStep, e4_BadStep, e5_BadStep, cg, ct, e6_BadStep, e7_BadStep⟩, e8_BadStep, e9_BadStep⟩
    e_NoDelays := ⟨C_NoDelays, PySem.W.mg_of KI G en_NoDelays, en_NoDelays, ⟨e1_NoDelays, e2_NoDelays, e3_NoDelays, e4_NoDelays, e5_NoDelays, cg, ct, e6_NoDelays, e7_NoDelays⟩, e8_NoDelays, e9_NoDelays⟩
    e_BadText := ⟨C_BadText, PySem.W.mg_of KI G en_BadText, en_BadText, ⟨e1_BadText, e2_BadText, e3_BadText, e4_BadText, e5_BadText, cg, ct, e6_BadText, e7_BadText⟩, e8_BadText, e9_BadText⟩
    e_BadCommand := ⟨C_BadCommand, PySem.W.mg_of KI G en_BadCommand, en_BadCommand, ⟨e1_BadCommand, e2_BadCommand, e3_BadCommand, e4_BadCommand, e5_BadCommand, cg, ct, e6_BadCommand, e7_BadCommand⟩, e8_BadCommand, e9_BadCommand⟩
    e_NoSuch := ⟨C_NoSuch, PySem.W.mg_of KI G en_NoSuch, en_NoSuch, ⟨e1_NoSuch, e2_NoSuch, e3_NoSuch, e4_NoSuch, e5_NoSuch, cg, ct, e6_NoSuch, e7_NoSuch⟩, e8_NoSuch, e9_NoSuch⟩
    e_Taken := ⟨C_Taken, PySem.W.mg_of KI G en_Taken, en_Taken, ⟨e1_Taken, e2_Taken, e3_Taken, e4_Taken, e5_Taken, cg, ct, e6_Taken, e7_Taken⟩, e8_Taken, e9_Taken⟩
    r_BadWay := ⟨⟨⟨nm_BadWay, qn_BadWay, N_BadWay, bs_BadWay, bm_BadWay, sn_BadWay, sub_BadWay, ab_BadWay, col_BadWay, dd_BadWay, m0_BadWay, m1_BadWay, m2_BadWay, m3_BadWay, m5_BadWay, xL_BadWay, rv_BadWay⟩, sa_BadWay, e4_BadWay, e8_BadWay, kC_BadWay⟩, fI_BadWay, iC_BadWay, tI_BadWay, _, fun_mk (x := "__init__") (qual := "BadWay.__init__") (st := st_i_BadWay) l_BadWay c_BadWay k_BadWay, (fun_mk (x := "__init__") (qual := "BadWay.__init__") (st := st_i_BadWay) l_BadWay c_BadWay k_BadWay).binds (ps := ["self", "at"]) fun _ _ _ _ _ _ us hl => match us, hl with | [_, _], _ => rfl, (fun f hf => by simp only [List.mem_cons, List.not_mem_nil, or_false] at hf; subst hf; exact nf_BadWay_at)⟩
    s_BadWay_BadBook := su_BadWay_BadBook
    s_BadWay_BadBounds := su_BadWay_BadBounds
    s_BadWay_BadCommand := su_BadWay_BadCommand
    s_BadWay_BadName := su_BadWay_BadName
    s_BadWay_BadNet := su_BadWay_BadNet
    s_BadWay_BadNumbers := su_BadWay_BadNumbers
    s_BadWay_BadStep := su_BadWay_BadStep
    s_BadWay_BadText := su_BadWay_BadText
    s_BadWay_BadWay := su_BadWay_BadWay
    s_BadWay_BadWood := su_BadWay_BadWood
    s_BadWay_CallError := su_BadWay_CallError
    s_BadWay_DataError := su_BadWay_DataError
    s_BadWay_DeskError := su_BadWay_DeskError
    s_BadWay_NetError := su_BadWay_NetError
    s_BadWay_NoDelays := su_BadWay_NoDelays
    s_BadWay_NoSuch := su_BadWay_NoSuch
    s_BadWay_Taken := su_BadWay_Taken
    s_BadWay_TextError := su_BadWay_TextError
    s_BadWay_ValueError := su_BadWay_ValueError
  }, rfl, fun s v => .of_eq rfl⟩⟩
theorem walk {l : PySem.W.OpenLaw} {q : Program} {loose : List Str} {XP : (Str → Option Value) → Heap → Prop} {YP : World → Heap → Prop} {d : DefRec} {K : Params → PySem.W.Frag} (hn : l.most = some 63) (hdf : d.params.defaults = [])
    (hY : ∀ (w : World) (h : Heap), YP w h → (K w.params).In h)
    (F : ∀ (w : World) (mg : Str → Option Value) (fa : Addr) (h : Heap), (K w.params).In h → h.Ns mainGlobals mg → mg d.name = some (.ref fa) → Nonempty { T : Pk (K w.params) mg // T.d_law.a = fa ∧ ∀ (s : Shared) (v : Value), BindsTo s T.d_law.fd ⟨[v], []⟩ [("script", v)] })
    (law : ∀ ns : List Int, ns.length ≤ 63 → ∃ mh, m_law [.rol (ns.map .int)] [] = .ok (.bl true) mh) :
    PySem.W.WalkO q loose XP YP l.row.toRowW d [] (fun f vs => PySem.call f vs) :=
  L2.walk_of (n := 63) (k := 8) (x := "script") (CX := fun w => L2.CX l.prog w) (sp := fun w => spLawD (K w.params)) hn (by decide) hdf ⟨rfl, by decide, by decide⟩ hY
    (fun w mg fa h KI G hfa => by
      obtain ⟨T, e, hb⟩ := F w mg fa h KI G hfa
      subst e
      exact ⟨T.d_law.fd, hb, fun base _ _ => law_of (ok_law T) law⟩)
    (fun w H a ns hl ho hS => law_end w H a ns hl ho hS) fun _ _ _ _ _ z => by
      obtain ⟨_, _, _, _, _, _, _, _, _, _, _, _, no⟩ := z
      exact no.elim
end K07
namespace K07
open PySem Det
theorem pick_ok {p : Pl} {loc : MH} {many : Int} {Q : D → MH → Prop} {E : Exn → MH → Prop} (h1 : 0 < many) (h2 : many < 1000000000)
    (hq : ∀ r p', 0 ≤ r → r < many → Q (.int r) (Pl.ob p' :: loc)) : (m__law_pick [.ref 0, .int many] (p.ob :: loc)).wp Q E := by
  obtain ⟨a, b, c, cs, hc⟩ := p
  have h8 : many ≠ 0 := by omega
  have h9 : many.natAbs < 1073741824 := by omega
  have fin : ∀ (k a' b' c' : Int), 0 ≤ c' → FQ (Ob.lst [.int a, .int b, .int c, .rol (cs.map .int)] :: loc) Q (.int (k.fmod many)) (.lst [.int a', .int b', .int c', .rol (cs.map .int)] :: loc) := fun k a' b' c' hc' => by
    have := fmod_bd (i := k) h1
    exact fq_pl_int (p := ⟨a, b, c, cs, hc⟩) (p' := ⟨a', b', c', cs, hc'⟩) (hq _ _ this.1 this.2)
  unfold m__law_pick
  rw [wp_zF]
  have ml : ∀ (i j : Int) (mh : MH) (Q : D → MH → Prop), -(2 ^ 64) < j ∧ j < 2 ^ 64 → (owp (oMulX (.int i) (.int j) mh) Q ↔ Q (.int (i * j)) mh) := fun i j mh Q h => o_mul_r h
  show (runF _ _ _ (Ob.lst [.int a, .int b, .int c, .rol (cs.map .int)] :: loc)).wp (FQ (Ob.lst [.int a, .int b, .int c, .rol (cs.map .int)] :: loc) Q) _
  by_cases hA : a = 0 ∧ c < cs.length
  · obtain ⟨rfl, hc1⟩ := hA
    obtain ⟨m, rfl⟩ := Int.eq_ofNat_of_zero_le hc
    have hm : m < cs.length := by exact_mod_cast hc1
    have hm2 : ¬ cs.length ≤ m := by omega
    by_cases hB : cs[m] ≥ 1000000000000000000
    · have hB2 : cs[m] > 0 := by omega
      have hB3 : ¬ cs[m] ≤ 0 := by omega
      simp [-fq_int, atI_nat, hm, hm2, ml, h8, h9, hB, hB2, hB3]
      exact fin _ _ _ _ (by omega)
    · have hB3 : cs[m] < 1000000000000000000 := by omega
      simp [-fq_int, atI_nat, hm, hm2, ml, h8, h9, hB, hB3]
      exact fin _ _ _ _ (by omega)
  · have hA' : a = 0 → ¬ c < cs.length := fun e z => hA ⟨e, z⟩
    by_cases h0 : a = 0
    · subst h0
      have hc1 := hA' rfl
      have hc2 : (cs.length : Int) ≤ c := by omega
      simp [-fq_int, ml, h8, h9, hc1, hc2]
      exact fin _ _ _ _ (by omega)
    · by_cases hB : a > 0
      · have hB2 : ¬ a ≤ 0 := by omega
        simp [-fq_int, ml, h8, h9, h0, hB, hB2]
        exact fin _ _ _ _ (by omega)
      · have hB2 : a ≤ 0 := by omega
        simp [-fq_int, ml, h8, h9, h0, hB, hB2]
        exact fin _ _ _ _ (by omega)
theorem pool_ok {ns : List Int} {Q : D → MH → Prop} {E : Exn → MH → Prop} (hl : ns.length ≤ 63) (hq : ∀ p, Q (.ref 0) [Pl.ob p]) : (m__law_pool [.rol (ns.map .int)] []).wp Q E := by
  have hz : (1000 : Nat) ≤ sizeLine := by decide
  have hM : (1 : Int) * 2 ^ (2800 : Int).toNat ≠ 0 := by decide +kernel
  unfold m__law_pool
  rw [wp_runF]
  show (ret _ [some (.rol (ns.map .int)), none] []).wp _
  rw [wp_ret, wp_dlst, wp_acons, wp_kn, wp_acons, wp_kn, wp_acons, wp_kn, wp_acons, wp_fz, wp_lc, wp_iter]
  have ec : ∃ zs : List Int, cutD (ns.map .int) none (some 63) = zs.map .int ∧ zs.length ≤ 63 := by
    refine ⟨(ns.drop _).take _, by unfold cutD; rw [List.length_map, ← List.map_drop, ← List.map_take], ?_⟩
    rw [List.length_take, List.length_drop]; omega
  obtain ⟨zs, ez, zl⟩ := ec
  have es : oSl (.rol (ns.map .int)) none (some 63) [] = some (.ref 0, [.lst (zs.map .int)]) := by
    show some (D.ref 0, [Ob.lst (cutD (ns.map .int) none (some 63))]) = _
    rw [ez]
  have e0 : (sl (vr 0) onone (osome (kn (.int 63))) [some (.rol (ns.map .int)), none] []) = .ok (.ref 0) [.lst (zs.map .int)] := by
    show Res.ofO (oSl (.rol (ns.map .int)) none (some 63) []) = _
    rw [es]; rfl
  rw [e0, wp_ok]
  refine ⟨⟨zs.map .int, lstIs 0 (zs.map .int)⟩, by simp [itD], ?_⟩
  have hck : ∀ o, lstIs 0 (zs.map D.int) [Ob.lst (zs.map D.int), o] = true := fun o => lstIs_of rfl
  obtain ⟨M, eM⟩ : ∃ M : Int, M = 1 * 2 ^ (2800 : Int).toNat := ⟨_, rfl⟩
  rw [← eM] at hM
  refine comp_pure (mh := [.lst (zs.map .int)]) (fun i => ((zs.take i).map fun c => c.fmod M).map D.int) (by simp) (by simp; omega) (fun i => by simp; omega) ?_ (hck (.lst (((zs.take (zs.map D.int).length).map fun c => c.fmod M).map D.int))) ?_
  · intro i d acc hd
    obtain ⟨l, hl, rfl⟩ : ∃ w, zs[i]? = some w ∧ D.int w = d := by
      rw [List.getElem?_map] at hd
      cases hx : zs[i]? with
      | none => rw [hx] at hd; cases hd
      | some w => rw [hx] at hd; exact ⟨w, rfl, Option.some.inj hd⟩
    refine ⟨hck (.lst acc), _, rfl, ?_⟩
    rw [wp_yes]
    refine ⟨rfl, fun _ => ?_, fun h => by cases h⟩
    rw [wp_bi, wp_ap, wp_acons, wp_vr]
    refine ⟨_, rfl, ?_⟩
    rw [wp_anil, o_int, owp_some, wp_bi, wp_kn, wp_kn, o_shl]
    refine ⟨by decide, ?_⟩
    rw [← eM, o_mod]
    refine ⟨hM, rfl, ?_⟩
    rw [List.take_add_one, hl]
    simp
  · refine (fq_new (mh := []) (n := 1) (xs := ((zs.take (zs.map D.int).length).map fun c => c.fmod M).map D.int) (by simp) rfl).mpr ?_
    refine ⟨blws_int, ⟨by simp, fun i o hi => absurd hi (by simp)⟩, ?_⟩
    rw [wp_anil]
    refine ⟨by simp; omega, ?_⟩
    exact hq ⟨0, 73, 0, (zs.take (zs.map D.int).length).map (fun c => c.fmod M), by omega⟩
end K07
namespace K07
open PySem Det
abbrev tl (s : Str) : List Nat := s.cps.toList
abbrev letters : Str := Str.ofString "abcdefghijklmnopqrstuvwxyz"
theorem hl26 : letters.length = 26 := by decide +kernel
theorem len_app (x y : Str) : (x ++ y).length = x.length + y.length := Str.length_append x y
theorem len_one (c : Nat) : (⟨#[c]⟩ : Str).length = 1 := rfl
theorem sign_ix {s : Str} {r : Int} {mh : MH} {Q : D → MH → Prop} (hl : s.length ≤ 100000) (h0 : 0 ≤ r) (h1 : r < s.length) (hq : ∀ c ∈ tl s, Q (.str ⟨#[c]⟩) mh) : owp (oIx (.str s) (.int r) mh) Q := by
  rw [ix_str]
  obtain ⟨c, hc, hm, _⟩ := atI_of (l := s.cps.toList) h0 (by simpa [Str.length] using h1)
  have hz : (100000 : Nat) ≤ sizeLine := by decide
  exact ⟨by omega, c, hc, hq c hm⟩
theorem nd_len {l xs : List Str} (h : l.Nodup) (hs : ∀ a ∈ l, a ∈ xs) : l.length ≤ xs.length := h.length_le_of_subset fun a ha => hs a ha
def pS (j : Nat) : Str := Str.ofString "p" ++ ((toString (j : Int) : String) : Str) ++ Str.ofString "p"
def Cd (w : Str) : Prop := ∀ c ∈ tl w, c ≠ 45
theorem cd_app {x y : Str} (h1 : Cd x) (h2 : Cd y) : Cd (x ++ y) := fun c hc => by
  have e : tl (x ++ y) = tl x ++ tl y := by
    show (x.cps ++ y.cps).toList = _
    simp
  rw [e] at hc
  rcases List.mem_append.mp hc with h | h
  · exact h1 c h
  · exact h2 c h
theorem cd_one {c : Nat} (h : c ≠ 45) : Cd (⟨#[c]⟩ : Str) := fun d hd => by
  simp [tl] at hd
  rw [hd]; exact h
theorem cd_letters : Cd letters := by unfold Cd; decide +kernel
theorem cd_mix : Cd (Str.ofString "7b3y") := by unfold Cd; decide +kernel
theorem cd_dot : Cd (Str.ofString ".") := by unfold Cd; decide +kernel
theorem pS_cd : ∀ j : Nat, j < 61 → ((tl (pS j)).all fun c => decide (c ≠ 45)) = true ∧ 1 ≤ (pS j).length := by decide +kernel
theorem cd_pS {j : Nat} (h : j < 61) : Cd (pS j) := fun c hc => by
  have := (List.all_eq_true.mp (pS_cd j h).1) c hc
  simpa using this
theorem pS_len : ∀ j : Nat, j < 61 → (pS j).length ≤ 30 := by decide +kernel
theorem pS_inj : ∀ i : Nat, i < 61 → ∀ j : Nat, j < 61 → pS i = pS j → i = j := by decide +kernel
theorem pS_free {ws : List Str} {m : Nat} (hm : m ≤ 60) (hl : ws.length ≤ m) (h : ∀ j, j < m + 1 → pS j ∈ ws) : False := by
  have hn : ((List.range (m + 1)).map pS).Nodup := by
    rw [List.nodup_iff_pairwise_ne, List.pairwise_map]
    refine List.Pairwise.imp_of_mem (R := fun a b => a ≠ b) (fun {a b} ha hb hab e => hab (pS_inj a (by have := List.mem_range.mp ha; omega) b (by have := List.mem_range.mp hb; omega) e)) ?_
    exact List.nodup_iff_pairwise_ne.mp List.nodup_range
  have := nd_len (xs := ws) hn fun a ha => by
    obtain ⟨j, hj, rfl⟩ := List.mem_map.mp ha
    exact h j (List.mem_range.mp hj)
  simp at this
  omega
theorem get_loc {o : Ob} {loc g : MH} {x : Ob} : (o :: (loc ++ x :: g))[loc.length + 1]? = some x := by simp
theorem words_ok2 {p : Pl} {loc : MH} {m : Nat} {Q : D → MH → Prop} {E : Exn → MH → Prop} (hm : m ≤ 60)
    (hq : ∀ (ws : List Str) p', ws.Nodup → ws.length = m → (∀ w ∈ ws, w.length ≤ 30 ∧ 1 ≤ w.length ∧ Cd w) → Q (.rol (ws.map .str)) (Pl.ob p' :: loc)) : (m__law_words [.ref 0, .int (m : Nat)] (p.ob :: loc)).wp Q E := by
  have hz : (1000 : Nat) ≤ sizeLine := by decide
  have h2 : (2 : Nat) ≤ sizeLine := by decide
  unfold m__law_words
  rw [wp_zF, wp_runF]
  simp
  refine ⟨okB_of (by omega) (by omega), ?_⟩
  obtain ⟨I, hI⟩ : ∃ I : Nat → Nv → MH → Prop, ∀ i env h, I i env h ↔ ∃ (p' : Pl) (ws : List Str) (v4 v5 v6 v7 : Option D), h = p'.ob :: (loc ++ [.lst (ws.map .str)]) ∧ env = [some (.ref 0), some (.int (m : Nat)), some (.str letters), some (.ref (loc.length + 1)), v4, v5, v6, v7] ∧ ws.Nodup ∧ ws.length = i ∧ (∀ w ∈ ws, w.length ≤ 30 ∧ 1 ≤ w.length ∧ Cd w) := ⟨_, fun _ _ _ => Iff.rfl⟩
  refine loop_wp I ((hI _ _ _).mpr ⟨p, [], _, _, _, _, rfl, rfl, List.nodup_nil, rfl, by simp⟩) ?_ ?_
  · intro i d env h hd hi
    obtain ⟨p', ws, v4, v5, v6, v7, rfl, rfl, nd, hl, hw⟩ := (hI _ _ _).mp hi
    obtain ⟨hi, rfl⟩ := rgD_get hd
    refine ⟨rfl, _, rfl, ?_⟩
    obtain ⟨J, hJ⟩ : ∃ J : (Str → Prop) → Nv → MH → Prop, ∀ R e h, J R e h ↔ ∃ (p' : Pl) (w : Str) (v6 v7 : Option D), h = p'.ob :: (loc ++ [.lst (ws.map .str)]) ∧ e = [some (.ref 0), some (.int (m : Nat)), some (.str letters), some (.ref (loc.length + 1)), some (.int (0 + (i : Nat))), some (.str w), v6, v7] ∧ R w := ⟨_, fun _ _ _ => Iff.rfl⟩
    refine seq_cut (J fun w => w.length = 1 ∧ Cd w) ?_ ?_
    · simp
      refine pick_ok (by omega) (by omega) fun r p2 r0 r1 => ?_
      refine sign_ix (by rw [hl26]; omega) r0 (by rw [hl26]; exact r1) fun c hc => ?_
      rw [hJ]
      exact ⟨p2, (⟨#[c]⟩ : Str), v6, v7, rfl, by simp, rfl, cd_one (cd_letters c hc)⟩
    intro e h hj
    obtain ⟨p', w, v6, v7, rfl, rfl, hw1, cw1⟩ := (hJ _ _ _).mp hj
    refine seq_cut (J fun w => (1 ≤ w.length ∧ w.length ≤ 4) ∧ Cd w) ?_ ?_
    · simp
      refine pick_ok (by omega) (by omega) fun r p2 r0 r1 => ?_
      refine ⟨_, rfl, okB_of (by omega) (by omega), ?_⟩
      refine loop_wp (fun k => J fun w => w.length = k + 1 ∧ Cd w) ((hJ _ _ _).mpr ⟨p2, w, v6, v7, rfl, by simp, hw1, cw1⟩) ?_ ?_
      · intro k d e h hd hj
        obtain ⟨p', w, v6, v7, rfl, rfl, hwk, cwk⟩ := (hJ _ _ _).mp hj
        obtain ⟨hk, rfl⟩ := rgD_get hd
        refine ⟨rfl, _, rfl, ?_⟩
        have l4 : (Str.ofString "7b3y").length = 4 := rfl
        simp
        refine pick_ok (by omega) (by omega) fun r p3 r0 r1 => ?_
        refine sign_ix (by rw [l4]; omega) r0 (by rw [l4]; exact r1) fun c hc => ?_
        rw [o_add_s, len_one]
        refine ⟨by omega, ?_⟩
        show J _ _ _
        rw [hJ]
        exact ⟨p3, w ++ (⟨#[c]⟩ : Str), some (.int (0 + (k : Nat))), v7, rfl, by simp, by rw [len_app, len_one]; omega, cd_app cwk (cd_one (cd_mix c hc))⟩
      · intro e h hj
        obtain ⟨p', w, v6, v7, rfl, rfl, hwk, cwk⟩ := (hJ _ _ _).mp hj
        rw [rgD_len] at hwk
        refine ⟨rfl, ?_⟩
        show J _ _ _
        rw [hJ]
        exact ⟨p', w, v6, v7, rfl, rfl, by omega, cwk⟩
    intro e h hj
    obtain ⟨p', w, v6, v7, rfl, rfl, ⟨hw1', hw4⟩, cw4⟩ := (hJ _ _ _).mp hj
    refine seq_cut (J fun w => w.length ≤ 30 ∧ 1 ≤ w.length ∧ Cd w) ?_ ?_
    · simp
      refine pick_ok (by omega) (by omega) fun r p2 r0 r1 => ?_
      rw [o_eq_i, owp_some]
      have d1 : (Str.ofString ".").length = 1 := rfl
      by_cases hr : r = 0
      · refine .inr ⟨by simp [hr], by omega, ?_⟩
        refine pick_ok (by omega) (by omega) fun r p3 r0 r1 => ?_
        refine sign_ix (by rw [hl26]; omega) r0 (by rw [hl26]; exact r1) fun c hc => ?_
        rw [o_add_s, len_app, len_one]
        refine ⟨by omega, ?_⟩
        rw [hJ]
        exact ⟨p3, w ++ Str.ofString "." ++ (⟨#[c]⟩ : Str), v6, v7, rfl, by simp, by rw [len_app, len_app, len_one]; omega, by rw [len_app, len_app, len_one]; omega, cd_app (cd_app cw4 cd_dot) (cd_one (cd_letters c hc))⟩
      · refine .inl ⟨by simp [hr], ?_⟩
        rw [hJ]
        exact ⟨p2, w, v6, v7, rfl, by simp, by omega, hw1', cw4⟩
    intro e h hj
    obtain ⟨p', w, v6, v7, rfl, rfl, hwl⟩ := (hJ _ _ _).mp hj
    refine seq_cut (J fun w => w ∉ ws ∧ w.length ≤ 30 ∧ 1 ≤ w.length ∧ Cd w) ?_ ?_
    · have keep : ∀ v6 v7, w ∉ ws → J (fun w => w ∉ ws ∧ w.length ≤ 30 ∧ 1 ≤ w.length ∧ Cd w) [some (.ref 0), some (.int (m : Nat)), some (.str letters), some (.ref (loc.length + 1)), some (.int (0 + (i : Nat))), some (.str w), v6, v7] (p'.ob :: (loc ++ [.lst (ws.map .str)])) := fun v6 v7 h => (hJ _ _ _).mpr ⟨p', w, v6, v7, rfl, rfl, h, hwl⟩
      have loop : (loopF (fun _ => true) (.nm 7) (sq (sst 5 (bi oAdd (bi oAdd (kn (.str "p")) (ap oStr (acons (vr 7) (anil)))) (kn (.str "p")))) (sif (tb (bi oNotIn (vr 5) (vr 3))) (brk) (nop))) (rgD 0 (m + 1)) [some (.ref 0), some (.int (m : Nat)), some (.str letters), some (.ref (loc.length + 1)), some (.int (0 + (i : Nat))), some (.str w), v6, v7] (p'.ob :: (loc ++ [.lst (ws.map .str)]))).wp
          { nx := J (fun w => w ∉ ws ∧ w.length ≤ 30 ∧ 1 ≤ w.length ∧ Cd w), rt := fun _ _ => False, bk := fun _ _ => False, ct := fun _ _ => False, ex := fun _ _ _ => False } := by
        obtain ⟨I2, hI2⟩ : ∃ I : Nat → Nv → MH → Prop, ∀ k e h, I k e h ↔ h = p'.ob :: (loc ++ [.lst (ws.map .str)]) ∧ ∃ (w : Str) (v7 : Option D), e = [some (.ref 0), some (.int (m : Nat)), some (.str letters), some (.ref (loc.length + 1)), some (.int (0 + (i : Nat))), some (.str w), v6, v7] ∧ ∀ j, j < k → pS j ∈ ws := ⟨_, fun _ _ _ => Iff.rfl⟩
        refine loop_wp I2 ((hI2 _ _ _).mpr ⟨rfl, w, v7, rfl, fun j hj => absurd hj (Nat.not_lt_zero j)⟩) ?_ ?_
        · intro k d e h2 hd hk0
          obtain ⟨rfl, w, v7, rfl, hk⟩ := (hI2 _ _ _).mp hk0
          obtain ⟨hkm, rfl⟩ := rgD_get hd
          refine ⟨rfl, _, rfl, ?_⟩
          have hkm : k < m + 1 := hkm
          have ho : ∀ h2, oStr [.int (k : Nat)] h2 = some (.str ((toString (k : Int) : String) : Str), h2) := fun h2 => by
            simp only [oStr]
            rw [if_pos]
            exact Nat.lt_of_le_of_lt (Nat.log2_le_self k) (by omega)
          simp [ho]
          have ey : (Str.ofString "p" ++ Str.ofString (Int.repr (k : Int)) ++ Str.ofString "p") = pS k := rfl
          have ly := pS_len k (by omega)
          have ly2 : (Str.ofString "p").length + (Str.ofString (Int.repr (k : Int))).length + (Str.ofString "p").length ≤ 30 := by rw [← len_app, ← len_app, ey]; exact ly
          refine ⟨by omega, by rw [len_app]; omega, ?_⟩
          rw [ey, o_notIn_s (l := ws) (by simp)]
          simp
          by_cases hin2 : pS k ∈ ws
          · refine .inl ⟨hin2, ?_⟩
            rw [hI2]
            refine ⟨rfl, pS k, some (.int (k : Nat)), by simp, fun j hj => ?_⟩
            by_cases hjk : j = k
            · rw [hjk]; exact hin2
            · exact hk j (by omega)
          · refine .inr ⟨hin2, ?_⟩
            rw [hJ]
            exact ⟨p', pS k, v6, some (.int (k : Nat)), rfl, by simp, hin2, ly, (pS_cd k (by omega)).2, cd_pS (by omega)⟩
        · intro e h2 hk0
          obtain ⟨rfl, w, v7, rfl, hk⟩ := (hI2 _ _ _).mp hk0
          rw [rgD_len] at hk
          exact absurd (pS_free hm (by omega) hk) id
      have into : ∀ {O : Po}, O.nx = J (fun w => w ∉ ws ∧ w.length ≤ 30 ∧ 1 ≤ w.length ∧ Cd w) → (sfor (range1 (bi oAdd (vr 1) (kn (.int 1)))) (.nm 7) (sq (sst 5 (bi oAdd (bi oAdd (kn (.str "p")) (ap oStr (acons (vr 7) (anil)))) (kn (.str "p")))) (sif (tb (bi oNotIn (vr 5) (vr 3))) (brk) (nop))) [some (.ref 0), some (.int (m : Nat)), some (.str letters), some (.ref (loc.length + 1)), some (.int (0 + (i : Nat))), some (.str w), v6, v7] (p'.ob :: (loc ++ [.lst (ws.map .str)]))).wp O := fun hO => by
        rw [wp_sfor, wp_range1, wp_bi, wp_vr]
        refine ⟨_, rfl, ?_⟩
        rw [wp_kn, o_add_i, owp_some]
        refine ⟨_, rfl, okB_of (by omega) (by omega), ?_⟩
        have e : ((m : Int) + 1).toNat = m + 1 := by omega
        rw [e]
        exact SRes.wp_mono loop (fun e h q => by rw [hO]; exact q) (fun _ _ q => q.elim) (fun _ _ q => q.elim) (fun _ _ q => q.elim) fun _ _ _ q => q.elim
      rw [wp_sif, wp_tor, wp_tb, wp_bi, wp_vr]
      refine ⟨_, rfl, ?_⟩
      rw [wp_vr]
      refine ⟨_, rfl, ?_⟩
      rw [o_in_s (l := ws) (by simp), owp_some]
      refine ⟨_, rfl, fun _ => ⟨fun _ => into rfl, fun z => (by cases z)⟩, fun hb => ?_⟩
      have hni : w ∉ ws := of_decide_eq_false hb
      rw [wp_tb, wp_bi, wp_vr]
      refine ⟨_, rfl, ?_⟩
      rw [wp_dtup, wp_acons, wp_kn, wp_acons, wp_kn, wp_anil]
      refine ⟨h2, ?_⟩
      rw [o_in_s (l := ["o", "w"]) rfl, owp_some]
      refine ⟨_, rfl, fun _ => into rfl, fun _ => ?_⟩
      rw [wp_nop]
      exact keep v6 v7 hni
    intro e h hj
    obtain ⟨p', w, v6, v7, rfl, rfl, hni, hwl⟩ := (hJ _ _ _).mp hj
    simp
    refine ⟨by omega, ?_⟩
    rw [hI]
    refine ⟨p', ws ++ [w], _, _, _, _, by simp, rfl, ?_, by simp [hl], ?_⟩
    · rw [List.nodup_append]
      exact ⟨nd, by simp, fun a ha b hb e => by rw [List.mem_singleton] at hb; subst hb; subst e; exact hni ha⟩
    · intro x hx
      rcases List.mem_append.mp hx with hx | hx
      · exact hw x hx
      · rw [List.mem_singleton.mp hx]; exact hwl
  · intro env h hi
    obtain ⟨p', ws, v4, v5, v6, v7, rfl, rfl, nd, hl, hw⟩ := (hI _ _ _).mp hi
    rw [rgD_len] at hl
    refine ⟨rfl, ?_⟩
    refine ⟨_, rfl, ?_⟩
    exact fq_pl_lst (g := []) blws_str (hq ws p' nd hl hw)
theorem words_ok {p : Pl} {loc : MH} {m : Nat} {Q : D → MH → Prop} {E : Exn → MH → Prop} (hm : m ≤ 60)
    (hq : ∀ (ws : List Str) p', ws.Nodup → ws.length = m → (∀ w ∈ ws, w.length ≤ 30) → Q (.rol (ws.map .str)) (Pl.ob p' :: loc)) : (m__law_words [.ref 0, .int (m : Nat)] (p.ob :: loc)).wp Q E :=
  words_ok2 hm fun ws p' h1 h2 h3 => hq ws p' h1 h2 fun w hw => (h3 w hw).1
end K07
namespace K07
open PySem Det
@[simp] theorem set_last {mh : MH} {o u : Ob} : (mh ++ [o]).set mh.length u = mh ++ [u] := by simp
def kW : List D := [.str "ValueError", .str "NetError", .str "DataError", .str "BadWay"]
section
variable {c : Str} {ns : List Str} {ds : List D} {mh : MH} {xs : List D} {x : Str} {rest : MS} {O : Po} {tab : List (Str × Bool)}
theorem step_t (ht : tab.lookup c = some true) (hz : xs.length < 1000) : (sq (sif (tru (isE tab (vr 0))) (drp (app (vr 1) (kn (.str x)))) nop) rest [some (.exc c ns ds), some (.ref mh.length)] (mh ++ [.lst xs])).wp O ↔ (rest [some (.exc c ns ds), some (.ref mh.length)] (mh ++ [.lst (xs ++ [.str x])])).wp O := by
  have h1 : (1000 : Nat) ≤ sizeLine := by decide
  have h2 : xs.length < sizeLine := by omega
  rw [wp_sq, wp_sif, wp_tru, wp_isE, wp_vr]
  simp only [List.getElem?_cons_zero, Option.some.injEq, exists_eq_left', D.exc.injEq, tru_bl]
  constructor
  · rintro ⟨_, _, _, ⟨rfl, rfl, rfl⟩, b, hb, q, _⟩
    rw [ht] at hb
    simp only [Option.some.injEq] at hb
    have := q hb.symm
    simpa [h2] using this
  · intro q
    refine ⟨c, ns, ds, ⟨rfl, rfl, rfl⟩, true, ht, fun _ => ?_, fun z => by cases z⟩
    simpa [h2] using q
theorem step_f (ht : tab.lookup c = some false) : (sq (sif (tru (isE tab (vr 0))) (drp (app (vr 1) (kn (.str x)))) nop) rest [some (.exc c ns ds), some (.ref mh.length)] (mh ++ [.lst xs])).wp O ↔ (rest [some (.exc c ns ds), some (.ref mh.length)] (mh ++ [.lst xs])).wp O := by
  rw [wp_sq, wp_sif, wp_tru, wp_isE, wp_vr]
  simp only [List.getElem?_cons_zero, Option.some.injEq, exists_eq_left', D.exc.injEq, tru_bl]
  constructor
  · rintro ⟨_, _, _, ⟨rfl, rfl, rfl⟩, b, hb, _, q⟩
    rw [ht] at hb
    simp only [Option.some.injEq] at hb
    have := q hb.symm
    simpa using this
  · intro q
    refine ⟨c, ns, ds, ⟨rfl, rfl, rfl⟩, false, ht, fun z => (by cases z), fun _ => ?_⟩
    simpa using q
end
section
variable {mh : MH} {ns : List Str} {ds : List D}
theorem kinds_W : m__law_kinds [.exc "BadWay" ns ds] mh = .ok (.rol kW) mh := by
  refine ok_of_wp ?_
  unfold m__law_kinds
  rw [wp_zF, wp_runF]
  show (sq _ _ [some (.exc "BadWay" ns ds), none] mh).wp _
  rw [wp_sq, wp_sst, wp_dlst, wp_anil]
  refine ⟨by decide, ?_⟩
  show (sq _ _ [some (.exc "BadWay" ns ds), some (.ref mh.length)] (mh ++ [.lst []])).wp _
  repeat first | rw [step_t (by decide +kernel) (by decide)] | rw [step_f (by decide +kernel)]
  rw [wp_ret, wp_vr]
  refine ⟨_, rfl, ?_⟩
  show FQ mh (fun d h => d = D.rol kW ∧ h = mh) (.ref mh.length) (mh ++ [.lst _])
  rw [fq_push]
  exact ⟨by simp, rfl, rfl⟩
end
end K07
namespace K07
/-! going along a way, plain -/
section
variable {α β : Type} [DecidableEq β]
def on (l : β × β) (h : β) : Bool := decide (h = l.1 ∨ h = l.2)
def oth (l : β × β) (h : β) : β := if l.1 = h then l.2 else l.1
def turn (ns : List β) (l : β × β) : List β := match ns with
  | [a, b] => if on l b = true then [a, b] else [b, a]
  | ns => ns
def turnP (ns : List β) (l : β × β) : List β := match ns with
  | [a, b] => if on l a = true then [b, a] else [a, b]
  | ns => ns
def add (ns : List β) (l : β × β) : Option (List β) := match ns.getLast? with
  | none => none
  | some h => if on l h = true ∧ oth l h ∉ ns then some (ns ++ [oth l h]) else none
def stp (i : Nat) (ns : List β) (l : β × β) : Option (List β) := if i = 0 then some [l.1, l.2] else if i = 1 then add (turn ns l) l else add ns l
def go (lk : α → Option (β × β)) : Nat → List β → List α → Nat ⊕ List β
  | _, ns, [] => .inr ns
  | i, ns, x :: xs => match lk x with
    | none => .inl i
    | some l => match stp i ns l with
      | none => .inl i
      | some ns' => go lk (i + 1) ns' xs
def fol (lk : α → Option (β × β)) : List β → List α → Option (List β)
  | ns, [] => some ns
  | ns, x :: xs => match lk x with
    | none => none
    | some l => match add ns l with
      | none => none
      | some ns' => fol lk ns' xs
theorem add_turn (ns : List β) (l : β × β) : add (turnP ns l) l = add (turn ns l) l := by
  unfold turn turnP
  split
  · rename_i a b
    obtain ⟨c, d⟩ := l
    by_cases h1 : a = b
    · subst h1
      by_cases h2 : on (c, d) a = true <;> simp [h2]
    · by_cases h2 : on (c, d) a = true
      · by_cases h3 : on (c, d) b = true
        · simp only [h2, h3, if_true, add, List.getLast?_cons_cons, List.getLast?_singleton]
          simp only [on, decide_eq_true_eq] at h2 h3
          have e1 : oth (c, d) a ∈ [b, a] := by
            unfold oth
            simp only
            rcases h2 with rfl | rfl
            · rcases h3 with rfl | rfl
              · exact absurd rfl h1
              · simp
            · rcases h3 with rfl | rfl
              · simp [Ne.symm h1]
              · exact absurd rfl h1
          have e2 : oth (c, d) b ∈ [a, b] := by
            unfold oth
            simp only
            rcases h2 with rfl | rfl
            · rcases h3 with rfl | rfl
              · exact absurd rfl h1
              · simp [h1]
            · rcases h3 with rfl | rfl
              · simp
              · exact absurd rfl h1
          rw [if_neg (fun q => q.2 e1), if_neg (fun q => q.2 e2)]
        · simp [h2, h3]
      · by_cases h3 : on (c, d) b = true
        · simp [h2, h3]
        · simp [h2, h3, add]
  · rfl
theorem go_fol {lk : α → Option (β × β)} : ∀ (xs : List α) (ns : List β) (i : Nat) {NS : List β}, go lk (i + 2) ns xs = .inr NS → fol lk ns xs = some NS
  | [], ns, i, NS, h => by simpa [go, fol] using h
  | x :: xs, ns, i, NS, h => by
    unfold go at h
    unfold fol
    cases hx : lk x with
    | none => simp [hx] at h
    | some l =>
      simp only [hx] at h ⊢
      have e : stp (i + 2) ns l = add ns l := by unfold stp; rw [if_neg (by omega), if_neg (by omega)]
      rw [e] at h
      cases ha : add ns l with
      | none => simp [ha] at h
      | some ns' =>
        simp only [ha] at h ⊢
        exact go_fol xs ns' (i + 1) h
theorem fol_go {lk : α → Option (β × β)} : ∀ (xs : List α) (ns : List β) (i : Nat) {NS : List β}, fol lk ns xs = some NS → go lk (i + 2) ns xs = .inr NS
  | [], ns, i, NS, h => by simpa [go, fol] using h
  | x :: xs, ns, i, NS, h => by
    unfold fol at h
    unfold go
    cases hx : lk x with
    | none => simp [hx] at h
    | some l =>
      simp only [hx] at h ⊢
      have e : stp (i + 2) ns l = add ns l := by unfold stp; rw [if_neg (by omega), if_neg (by omega)]
      rw [e]
      cases ha : add ns l with
      | none => simp [ha] at h
      | some ns' =>
        simp only [ha] at h ⊢
        exact fol_go xs ns' (i + 1) h
/-- a way of two links or more, from its first two nodes, turned -/
theorem go_two {lk : α → Option (β × β)} {x y : α} {ys : List α} {NS : List β} (h : go lk 0 [] (x :: y :: ys) = .inr NS) : ∃ p l, lk x = some p ∧ lk y = some l ∧ fol lk (turnP [p.1, p.2] l) (y :: ys) = some NS := by
  unfold go at h
  cases hx : lk x with
  | none => simp [hx] at h
  | some p =>
    simp only [hx, stp, if_true] at h
    unfold go at h
    cases hy : lk y with
    | none => simp [hy] at h
    | some l =>
      simp only [hy, show ∀ (ns : List β) l, stp (0 + 1) ns l = add (turn ns l) l from fun _ _ => rfl] at h
      refine ⟨p, l, rfl, rfl, ?_⟩
      unfold fol
      simp only [hy]
      rw [add_turn]
      cases ha : add (turn [p.1, p.2] l) l with
      | none => simp [ha] at h
      | some ns' =>
        simp only [ha] at h ⊢
        exact go_fol ys ns' 0 h
theorem go_one {lk : α → Option (β × β)} {x : α} {NS : List β} (h : go lk 0 [] [x] = .inr NS) : ∃ p, lk x = some p ∧ NS = [p.1, p.2] := by
  unfold go at h
  cases hx : lk x with
  | none => simp [hx] at h
  | some p =>
    simp only [hx, stp, if_true, go, Sum.inr.injEq] at h
    exact ⟨p, rfl, h.symm⟩
theorem add_some {ns ns' : List β} {l : β × β} (h : add ns l = some ns') : ∃ a, ns.getLast? = some a ∧ on l a = true ∧ oth l a ∉ ns ∧ ns' = ns ++ [oth l a] := by
  unfold add at h
  cases hl : ns.getLast? with
  | none => simp [hl] at h
  | some a =>
    simp only [hl] at h
    split at h
    · rename_i q; cases h; exact ⟨a, rfl, q.1, q.2, rfl⟩
    · cases h
theorem on_both {ns : List β} {l : β × β} {a : β} (ha : a ∈ ns) (ho : on l a = true) : (l.1 ∈ ns ++ [oth l a] ∧ l.2 ∈ ns ++ [oth l a]) ∧ (oth l a = l.1 ∨ oth l a = l.2) := by
  simp only [on, decide_eq_true_eq] at ho
  unfold oth
  by_cases h : l.1 = a
  · rw [if_pos h]; simp [h, ha]
  · rw [if_neg h]
    have : a = l.2 := ho.resolve_left fun e => h e.symm
    simp [← this, ha]
/-- the names of a way are different -/
theorem fol_nodup {lk : α → Option (β × β)} : ∀ (xs : List α) (ns : List β) (us : List α) {NS : List β}, fol lk ns xs = some NS → us.Nodup → (∀ u ∈ us, ∃ l, lk u = some l ∧ l.1 ∈ ns ∧ l.2 ∈ ns) → (us ++ xs).Nodup ∧ ∀ x ∈ xs, (lk x).isSome = true
  | [], ns, us, NS, _, hu, _ => by simpa using hu
  | x :: xs, ns, us, NS, h, hu, hs => by
    unfold fol at h
    cases hx : lk x with
    | none => simp [hx] at h
    | some l =>
      simp only [hx] at h
      cases ha : add ns l with
      | none => simp [ha] at h
      | some ns' =>
        simp only [ha] at h
        obtain ⟨a, h1, h2, h3, rfl⟩ := add_some ha
        have am : a ∈ ns := List.mem_of_getLast? h1
        obtain ⟨hb, hc⟩ := on_both (ns := ns) am h2
        have hxu : x ∉ us := fun hm => by
          obtain ⟨l', e, q1, q2⟩ := hs x hm
          rw [hx] at e; cases e
          rcases hc with e | e
          · exact h3 (e ▸ q1)
          · exact h3 (e ▸ q2)
        have := fol_nodup xs (ns ++ [oth l a]) (us ++ [x]) h (by
          rw [List.nodup_append]
          exact ⟨hu, by simp, fun u hu2 y hy e => by rw [List.mem_singleton] at hy; subst hy; subst e; exact hxu hu2⟩) (fun u hu2 => by
          rcases List.mem_append.mp hu2 with hu2 | hu2
          · obtain ⟨l', e, q1, q2⟩ := hs u hu2
            exact ⟨l', e, List.mem_append_left _ q1, List.mem_append_left _ q2⟩
          · rw [List.mem_singleton.mp hu2]; exact ⟨l, hx, hb.1, hb.2⟩)
        refine ⟨by simpa using this.1, fun y hy => ?_⟩
        rcases List.mem_cons.mp hy with rfl | hy
        · simp [hx]
        · exact this.2 y hy
theorem go_nodup {lk : α → Option (β × β)} {xs : List α} {NS : List β} (h : go lk 0 [] xs = .inr NS) : xs.Nodup ∧ ∀ x ∈ xs, (lk x).isSome = true := by
  match xs, h with
  | [], _ => simp
  | [x], h =>
    obtain ⟨p, hp, _⟩ := go_one h
    simp [hp]
  | x :: y :: ys, h =>
    obtain ⟨p, l, h1, h2, h3⟩ := go_two h
    have := fol_nodup (y :: ys) _ [x] h3 (by simp) (fun u hu => by
      rw [List.mem_singleton.mp hu]
      refine ⟨p, h1, ?_⟩
      unfold turnP
      simp only
      split <;> simp)
    refine ⟨by simpa using this.1, fun z hz => ?_⟩
    rcases List.mem_cons.mp hz with rfl | hz
    · simp [h1]
    · exact this.2 z hz
/-! ### paths -/
def Cn (lk : α → Option (β × β)) (x : α) (a b : β) : Prop := lk x = some (a, b) ∨ lk x = some (b, a)
def Path (lk : α → Option (β × β)) : List β → List α → Prop
  | [_], [] => True
  | a :: b :: ns, x :: ws => Cn lk x a b ∧ Path lk (b :: ns) ws
  | _, _ => False
theorem Cn.symm {lk : α → Option (β × β)} {x : α} {a b : β} (h : Cn lk x a b) : Cn lk x b a := h.elim .inr .inl
theorem Path.snoc {lk : α → Option (β × β)} {x : α} {h b : β} (hc : Cn lk x h b) : ∀ (ns : List β) (ws : List α), Path lk (ns ++ [h]) ws → Path lk (ns ++ [h, b]) (ws ++ [x])
  | [], [], _ => ⟨hc, trivial⟩
  | [], _ :: _, q => q.elim
  | [a], [], q => q.elim
  | [a], w :: ws, q => by
    obtain ⟨q1, q2⟩ := q
    exact ⟨q1, Path.snoc hc [] ws q2⟩
  | a :: c :: ns, [], q => q.elim
  | a :: c :: ns, w :: ws, q => by
    obtain ⟨q1, q2⟩ := q
    exact ⟨q1, Path.snoc hc (c :: ns) ws q2⟩
theorem Path.rev {lk : α → Option (β × β)} : ∀ (ns : List β) (ws : List α), Path lk ns ws → Path lk ns.reverse ws.reverse
  | [], [], q => q.elim
  | [], _ :: _, q => q.elim
  | [a], [], _ => trivial
  | [a], _ :: _, q => q.elim
  | a :: b :: ns, [], q => q.elim
  | a :: b :: ns, x :: ws, q => by
    obtain ⟨q1, q2⟩ := q
    have := Path.rev (b :: ns) ws q2
    rw [List.reverse_cons] at this
    rw [List.reverse_cons, List.reverse_cons, List.reverse_cons, List.append_assoc]
    exact Path.snoc q1.symm _ _ this
theorem cn_on {lk : α → Option (β × β)} {x : α} {a b : β} (h : Cn lk x a b) (hab : a ≠ b) : ∃ l, lk x = some l ∧ on l a = true ∧ on l b = true ∧ oth l a = b ∧ oth l b = a ∧ ∀ c, c ≠ a → c ≠ b → on l c = false := by
  rcases h with h | h
  · exact ⟨_, h, by simp [on], by simp [on], by simp [oth], by simp [oth, hab], fun c h1 h2 => by simp [on, h1, h2]⟩
  · exact ⟨_, h, by simp [on], by simp [on], by simp [oth, Ne.symm hab], by simp [oth], fun c h1 h2 => by simp [on, h1, h2]⟩
theorem path_fol {lk : α → Option (β × β)} : ∀ (ws : List α) (ns pre : List β) (h : β), Path lk (h :: ns) ws → (pre ++ h :: ns).Nodup → fol lk (pre ++ [h]) ws = some (pre ++ h :: ns)
  | [], [], pre, h, _, _ => rfl
  | [], _ :: _, pre, h, q, _ => q.elim
  | x :: ws, [], pre, h, q, _ => q.elim
  | x :: ws, b :: ns, pre, h, q, nd => by
    obtain ⟨q1, q2⟩ := q
    have nd2 : (h :: b :: ns).Nodup := (List.nodup_append.mp nd).2.1
    have hb : h ≠ b := fun e => by rw [List.nodup_cons] at nd2; exact nd2.1 (by simp [e])
    obtain ⟨l, e1, e2, e3, e4, e5, _⟩ := cn_on q1 hb
    have hnb : b ∉ pre ++ [h] := fun hm => by
      have nd3 : (pre ++ [h] ++ b :: ns).Nodup := by simpa using nd
      exact (List.nodup_append.mp nd3).2.2 b hm b (by simp) rfl
    unfold fol
    have ea : add (pre ++ [h]) l = some (pre ++ [h] ++ [b]) := by
      unfold add
      rw [List.getLast?_concat]
      simp only
      rw [if_pos ⟨e2, by rw [e4]; exact hnb⟩, e4]
    simp only [e1, ea]
    have := path_fol ws ns (pre ++ [h]) b q2 (by simpa using nd)
    simpa using this
theorem path_go {lk : α → Option (β × β)} {ws : List α} {ns : List β} (h : Path lk ns ws) (nd : ns.Nodup) (hw : ws ≠ []) : ∃ NS, go lk 0 [] ws = .inr NS := by
  match ns, ws, h with
  | [_], [], _ => exact absurd rfl hw
  | [a, b], [x], ⟨q1, _⟩ =>
    rcases q1 with q1 | q1 <;> exact ⟨_, by unfold go; rw [q1]; rfl⟩
  | a :: b :: c :: ns, x :: y :: ws, ⟨q1, q2⟩ =>
    obtain ⟨q2, q3⟩ := q2
    simp only [List.nodup_cons, List.mem_cons, not_or] at nd
    obtain ⟨l, e1, e2, e3, e4, e5, e6⟩ := cn_on q1 nd.1.1
    obtain ⟨m, f1, f2, f3, f4, f5, f6⟩ := cn_on q2 nd.2.1.1
    have hma : on m a = false := f6 a nd.1.1 nd.1.2.1
    have et : turn [l.1, l.2] m = [a, b] := by
      rcases q1 with q1 | q1
      · rw [q1] at e1; cases e1
        simp [turn, f2]
      · rw [q1] at e1; cases e1
        simp [turn, hma]
    have ha : add [a, b] m = some [a, b, c] := by
      unfold add
      simp only [List.getLast?_cons_cons, List.getLast?_singleton]
      rw [f4, if_pos ⟨f2, by simp; exact ⟨fun e => nd.1.2.1 e.symm, fun e => nd.2.1.1 e.symm⟩⟩]; rfl
    refine ⟨a :: b :: c :: ns, ?_⟩
    unfold go
    simp only [e1, stp, if_true]
    unfold go
    simp only [f1, show ∀ (ns : List β) l, stp (0 + 1) ns l = add (turn ns l) l from fun _ _ => rfl]
    rw [et, ha]
    refine fol_go ws _ 0 ?_
    refine path_fol ws ns [a, b] c q3 ?_
    simp only [List.cons_append, List.nil_append, List.nodup_cons, List.mem_cons, not_or]
    exact nd
/-! ### other names -/
theorem go_map {α' β' : Type} [DecidableEq β'] {lk : α → Option (β × β)} {lk' : α' → Option (β' × β')} (f : α → α') (g : β → β') (hg : ∀ a b, g a = g b → a = b) (hl : ∀ x, lk' (f x) = (lk x).map fun p => (g p.1, g p.2)) : ∀ (xs : List α) (i : Nat) (ns : List β), go lk' i (ns.map g) (xs.map f) = (match go lk i ns xs with | .inl k => .inl k | .inr NS => .inr (NS.map g))
  | [], i, ns => rfl
  | x :: xs, i, ns => by
    have hon : ∀ (l : β × β) a, on (g l.1, g l.2) (g a) = on l a := fun l a => by
      unfold on
      simp only
      have e1 : g a = g l.1 ↔ a = l.1 := ⟨hg _ _, fun e => by rw [e]⟩
      have e2 : g a = g l.2 ↔ a = l.2 := ⟨hg _ _, fun e => by rw [e]⟩
      simp only [e1, e2]
    have hoth : ∀ (l : β × β) a, oth (g l.1, g l.2) (g a) = g (oth l a) := fun l a => by
      unfold oth
      simp only
      by_cases h : l.1 = a
      · rw [if_pos h, if_pos (by rw [h])]
      · rw [if_neg h, if_neg fun e => h (hg _ _ e)]
    have hmem : ∀ (ms : List β) a, g a ∈ ms.map g ↔ a ∈ ms := fun ms a => by
      rw [List.mem_map]
      exact ⟨fun ⟨b, hb, e⟩ => hg _ _ e ▸ hb, fun h => ⟨a, h, rfl⟩⟩
    have hadd : ∀ (ms : List β) (l : β × β), add (ms.map g) (g l.1, g l.2) = (add ms l).map (List.map g) := fun ms l => by
      unfold add
      rw [List.getLast?_map]
      cases ms.getLast? with
      | none => rfl
      | some a =>
        simp only [Option.map_some, hon, hoth, hmem]
        by_cases q : on l a = true ∧ oth l a ∉ ms
        · rw [if_pos q, if_pos q]; simp
        · rw [if_neg q, if_neg q]; rfl
    have hturn : ∀ (ms : List β) (l : β × β), turn (ms.map g) (g l.1, g l.2) = (turn ms l).map g := fun ms l => by
      match ms with
      | [] => rfl
      | [_] => rfl
      | [a, b] =>
        simp only [turn, List.map_cons, List.map_nil, hon]
        split <;> rfl
      | _ :: _ :: _ :: _ => rfl
    have hstp : ∀ (ms : List β) (l : β × β), stp i (ms.map g) (g l.1, g l.2) = (stp i ms l).map (List.map g) := fun ms l => by
      unfold stp
      split
      · rfl
      · split
        · rw [hturn, hadd]
        · exact hadd ms l
    rw [List.map_cons]
    unfold go
    rw [hl x]
    cases hx : lk x with
    | none => rfl
    | some l =>
      simp only [Option.map_some, hstp]
      cases hs : stp i ns l with
      | none => rfl
      | some ns' =>
        simp only [Option.map_some]
        exact go_map f g hg hl xs (i + 1) ns'
end
end K07
namespace K07
open PySem Det
/-! ### the ends of the links -/
def pD (p : Str × Str) : D := .tup [.str p.1, .str p.2]
def lkR (rs : List Row) (x : Str) : Option (Str × Str) := (rs.find? fun l => decide (l.1 = x)).map (·.2)
section
variable {mh : MH} {Q : D → MH → Prop} {E : Exn → MH → Prop} {rs : List Row} {A B C : D}
theorem link_ends_wp (hl : rs.length ≤ 500) (hn : (rs.map (·.1)).Nodup) (hq : ∀ kds, (∀ x, valD kds (.inr x) = (lkR rs x).map pD) → Q (.ref mh.length) (mh ++ [.dk kds])) : (m_link_ends [.tup [A, .tup (rs.map rowD), B, C]] mh).wp Q E := by
  have hz : (1000 : Nat) ≤ sizeLine := by decide
  have h2 : (2 : Nat) ≤ sizeLine := by decide
  unfold m_link_ends
  rw [wp_runF]
  simp
  refine loopX_put rowD (fun l => l.1) (fun l => pD l.2) (fun _ => rfl) rs [] (by simp; omega) ?_ ?_
  · intro l hl o
    refine ⟨_, rfl, ?_, ?_⟩
    · simp [setMany, wipeD, rowD]
    · simp [setMany, wipeD, rowD, pD, h2]
  · refine hq _ fun x => ?_
    rw [valD_puts _ _ x rs [] hn]
    unfold lkR
    cases rs.find? fun l => decide (l.1 = x) with
    | none => simp [valD]
    | some l => rfl
def plR (rs : List Row) (x : Str) : Option Nat := rs.findIdx? fun l => decide (l.1 = x)
theorem zip_find (x : Str) : ∀ (rs : List Row) (k : Nat), ((rs.zipIdx k).find? fun q => decide (q.1.1 = x)).map (·.2) = (rs.findIdx? fun l => decide (l.1 = x)).map (· + k)
  | [], k => by simp
  | l :: rs, k => by
    rw [List.zipIdx_cons, List.find?_cons, List.findIdx?_cons]
    by_cases h : l.1 = x
    · simp [h]
    · simp only [h, decide_false, Bool.false_eq_true, if_false]
      rw [zip_find x rs (k + 1)]
      rw [Option.map_map]
      congr 1
      funext i
      simp; omega
theorem places_wp {ns : List Str} (hl : rs.length ≤ 500) (hl2 : ns.length ≤ 500) (hn : (rs.map (·.1)).Nodup) (hq : ∀ k1 k2, (∀ x, valD k2 (.inr x) = (plR rs x).map fun i => .int (i : Nat)) → Q (.tup [.ref mh.length, .ref (mh.length + 1)]) (mh ++ [.dk k1, .dk k2])) : (m_places_of [.tup [.tup (ns.map .str), .tup (rs.map rowD), B, C]] mh).wp Q E := by
  have hz : (1000 : Nat) ≤ sizeLine := by decide
  have h2 : (2 : Nat) ≤ sizeLine := by decide
  unfold m_places_of
  rw [wp_runF]
  simp
  rw [enF_idx]
  have e1 : ((ns.map D.str).zipIdx 0).map (fun q => D.tup [.int (q.2 : Nat), q.1]) = (ns.zipIdx 0).map fun q => D.tup [.int (q.2 : Nat), .str q.1] := by
    rw [List.zipIdx_map, List.map_map]; rfl
  rw [e1]
  refine loopX_put (fun q : Str × Nat => D.tup [.int (q.2 : Nat), .str q.1]) (fun q => q.1) (fun q => .int (q.2 : Nat)) (fun _ => rfl) _ [] (by simp; omega) ?_ ?_
  · intro l hl o
    refine ⟨_, rfl, ?_, ?_⟩ <;> simp [setMany, wipeD]
  rw [enF_idx]
  have e2 : ((rs.map rowD).zipIdx 0).map (fun q => D.tup [.int (q.2 : Nat), q.1]) = (rs.zipIdx 0).map fun q => D.tup [.int (q.2 : Nat), rowD q.1] := by
    rw [List.zipIdx_map, List.map_map]; rfl
  rw [e2]
  generalize (ns.zipIdx 0).foldl _ _ = k1
  refine loopX_put (mh := mh ++ [Ob.dk k1]) (fun q : Row × Nat => D.tup [.int (q.2 : Nat), rowD q.1]) (fun q => q.1.1) (fun q => .int (q.2 : Nat)) (fun _ => rfl) _ [] (by simp; omega) ?_ ?_
  · intro l hl o
    refine ⟨_, rfl, ?_, ?_⟩ <;> simp [setMany, wipeD, rowD]
  · have := hq k1 ((rs.zipIdx 0).foldl (putS (fun q : Row × Nat => q.1.1) (fun q => .int (q.2 : Nat))) []) fun x => by
      rw [valD_puts _ _ x _ [] (by
        have : (rs.zipIdx 0).map (fun q : Row × Nat => q.1.1) = rs.map (·.1) := by
          rw [← List.zipIdx_map_fst 0 rs, List.map_map]; simp
        rw [this]; exact hn)]
      have hz := zip_find x rs 0
      unfold plR
      cases hf : (rs.zipIdx 0).find? fun q => decide (q.1.1 = x) with
      | none =>
        rw [hf] at hz
        simp at hz
        simp [← hz, valD]
      | some q =>
        rw [hf] at hz
        simp at hz
        simp [← hz]
    simpa [h2] using this
end
end K07
namespace K07
open PySem Det
/-- what a list of values says of a value: a way, or the first wrong place -/
def strs? : List D → Option (List Str)
  | [] => some []
  | .str x :: ds => (strs? ds).map (x :: ·)
  | _ :: _ => none
@[simp] theorem blws_rows {n : Nat} {l : List Row} : D.blws n (l.map rowD) = true := blws_map fun l _ => by simp [rowD]
theorem strs_map : ∀ (ws : List Str), strs? (ws.map .str) = some ws
  | [] => rfl
  | w :: ws => by simp [strs?, strs_map ws]
theorem of_strs : ∀ (ds : List D) {ws : List Str}, strs? ds = some ws → ds = ws.map .str
  | [], ws, h => by simp [strs?] at h; subst h; rfl
  | d :: ds, ws, h => by
    cases d with
    | str x =>
      simp only [strs?, Option.map_eq_some_iff] at h
      obtain ⟨us, h1, rfl⟩ := h
      rw [of_strs ds h1]; rfl
    | _ => simp [strs?] at h
def easy : D → Bool
  | .non => true
  | .bl _ => true
  | .int _ => true
  | .str _ => true
  | .tup _ => true
  | .rol _ => true
  | _ => false
def isS : D → Bool
  | .str _ => true
  | _ => false
theorem isi_s {d : D} {mh : MH} (h : easy d = true) : oIsi [d, .ty "str"] mh = some (.bl (isS d), mh) := by
  cases d with
  | ty _ => cases h
  | ref _ => cases h
  | exc _ _ _ => cases h
  | _ => simp [isS]
theorem strs_none : ∀ (ds : List D), strs? ds = none ↔ ∃ d ∈ ds, isS d = false
  | [] => by simp [strs?]
  | d :: ds => by
    cases d with
    | str x => simp [strs?, strs_none ds, isS]
    | _ => simp [strs?, isS]
/-- a thing asked about: a value that is easy, a tuple of easy ones -/
def Th : D → Prop
  | .tup ds => ds.length ≤ 1000 ∧ ∀ d ∈ ds, easy d = true
  | d => easy d = true
def upR : Nat ⊕ List Str → Int ⊕ List Str
  | .inl k => .inl (k : Nat)
  | .inr ns => .inr ns
def flt (rs : List Row) : D → Int ⊕ List Str
  | .tup [] => .inl (-1)
  | .tup ds => match strs? ds with
    | none => .inl (-1)
    | some ws => upR (go (lkR rs) 0 [] ws)
  | _ => .inl (-1)
def fD : Int ⊕ List Str → D
  | .inl k => .int k
  | .inr _ => .non
section
variable {mh : MH} {rs : List Row} {A B C : D}
/-- the first loop of both: all are strings, or out -/
theorem loop_strs {ds : List D} {mk : Option D → Nv} {r : MS} {O : Po} {k : Nat} (he : ∀ d ∈ ds, easy d = true) (hk : ∀ v (d : D), (mk v).set k (some d) = mk (some d)) (hg : ∀ d : D, (mk (some d))[k]? = some (some d)) (v : Option D)
    (h1 : ∀ ws v, strs? ds = some ws → O.nx (mk v) mh) (h2 : ∀ v (O' : Po), O'.rt = O.rt → strs? ds = none → (r (mk v) mh).wp O') :
    (loopF (fun _ => true) (.nm k) (sif (tnot (tru (ap oIsi (acons (vr k) (acons (kn (.ty "str")) (anil)))))) r (nop)) ds (mk v) mh).wp O := by
  have e0 : ds = ds.map id := by simp
  rw [e0]
  obtain ⟨I, hI⟩ : ∃ I : Nat → List D → Nv → MH → Prop, ∀ i xs e h, I i xs e h ↔ ∃ v, e = mk v ∧ h = mh ∧ (strs? ds = none → strs? xs = none) := ⟨_, fun _ _ _ _ => Iff.rfl⟩
  refine loop_as ds id I ((hI _ _ _ _).mpr ⟨v, rfl, rfl, id⟩) ?_ ?_
  · intro i x xs e h hd hi hx q
    obtain ⟨v, rfl, rfl, hn⟩ := (hI _ _ _ _).mp q
    refine ⟨rfl, _, rfl, ?_⟩
    have ex := he x (List.mem_of_getElem? hx)
    simp only [id, hk]
    rw [wp_sif, wp_tnot, wp_tru, wp_ap, wp_acons, wp_vr]
    refine ⟨x, hg x, ?_⟩
    rw [wp_acons, wp_kn, wp_anil, isi_s ex, owp_some]
    refine ⟨_, rfl, ?_⟩
    cases hs : isS x with
    | true =>
      simp
      rw [hI]
      refine ⟨_, rfl, rfl, fun z => ?_⟩
      have := (strs_none _).mp (hn z)
      rw [strs_none]
      obtain ⟨d, hd, e⟩ := this
      rcases List.mem_cons.mp hd with rfl | hd
      · rw [hs] at e; cases e
      · exact ⟨d, hd, e⟩
    | false =>
      simp
      exact h2 (some x) _ rfl ((strs_none _).mpr ⟨x, List.mem_of_getElem? hx, hs⟩)
  · intro e h q
    obtain ⟨v, rfl, rfl, hn⟩ := (hI _ _ _ _).mp q
    refine ⟨rfl, ?_⟩
    cases hs : strs? ds with
    | none => have := hn hs; simp [strs?] at this
    | some ws => exact h1 ws v hs
theorem on_mem {p : Str × Str} {a : Str} : decide (a ∈ [p.1, p.2]) = on p a := by simp [on]
theorem in_pD {p : Str × Str} {a : Str} {h : MH} : oIn (.str a) (pD p) h = some (.bl (on p a), h) := by
  rw [← on_mem]; exact o_in_s (l := [p.1, p.2]) rfl
theorem notIn_pD {p : Str × Str} {a : Str} {h : MH} : oNotIn (.str a) (pD p) h = some (.bl (!on p a), h) := by
  rw [← on_mem]; exact o_notIn_s (l := [p.1, p.2]) rfl
theorem get_end {mh g : MH} {o u : Ob} : (mh ++ o :: (g ++ [u]))[mh.length + (g.length + 1)]? = some u := by
  rw [show mh ++ o :: (g ++ [u]) = (mh ++ o :: g) ++ [u] by simp, List.getElem?_append_right (by simp)]
  simp
theorem fault_strs (hl : rs.length ≤ 500) (hn : (rs.map (·.1)).Nodup) {ws : List Str} (hw : ws ≠ []) (hwl : ws.length ≤ 1000) : m_way_fault [.tup [A, .tup (rs.map rowD), B, C], .tup (ws.map .str)] mh = .ok (fD (flt rs (.tup (ws.map .str)))) mh := by
  have hz : (2000 : Nat) ≤ sizeLine := by decide
  have h2 : (2 : Nat) ≤ sizeLine := by decide
  have hF : flt rs (.tup (ws.map .str)) = upR (go (lkR rs) 0 [] ws) := by
    cases ws with
    | nil => exact absurd rfl hw
    | cons w ws => simp [flt, strs?, strs_map]
  rw [hF]
  generalize hR : go (lkR rs) 0 [] ws = R
  refine ok_of_wp ?_
  unfold m_way_fault
  rw [wp_zF, wp_runF]
  generalize hN : D.tup [A, .tup (rs.map rowD), B, C] = N
  simp [hw]
  refine loop_strs (k := 2) (ds := ws.map .str) (mk := fun v => [some N, some (.tup (ws.map .str)), v, none, none, none, none, none, none]) (fun d hd => by obtain ⟨_, _, rfl⟩ := List.mem_map.mp hd; rfl) (fun _ _ => rfl) (fun _ => rfl) none ?_ (fun v O' _ hs => by rw [strs_map] at hs; cases hs)
  intro ws' v hws
  rw [strs_map] at hws
  cases hws
  subst hN
  simp
  refine link_ends_wp hl hn fun kds hk => ?_
  generalize hN : D.tup [A, .tup (rs.map rowD), B, C] = N
  have hnot : ∀ (w : Str) (g : MH), oNotInX (.str w) (.ref mh.length) (mh ++ Ob.dk kds :: g) = some (.bl (!(lkR rs w).isSome), mh ++ Ob.dk kds :: g) := fun w g => by
    rw [notInX_dk (kds := kds) (by simp), hk w]; simp
  have hix : ∀ (w : Str) (p : Str × Str) (g : MH), lkR rs w = some p → oIxX (.ref mh.length) (.str w) (mh ++ Ob.dk kds :: g) = some (pD p, mh ++ Ob.dk kds :: g) := fun w p g e => ixX_dk (kds := kds) (by simp) (by rw [hk w, e]; rfl)
  clear hk
  obtain ⟨I, hI⟩ : ∃ I : Nat → List Str → Nv → MH → Prop, ∀ i xs e h, I i xs e h ↔ ∃ (g : MH) (ns : List Str) (k : Nat) (v2 v5 v6 v7 v8 : Option D), h = mh ++ Ob.dk kds :: g ∧ h[k]? = some (.lst (ns.map .str)) ∧ mh.length < k ∧ e = [some N, some (.tup (ws.map .str)), v2, some (.ref mh.length), some (.ref k), v5, v6, v7, v8] ∧ go (lkR rs) i ns xs = R ∧ (0 < i → ns.length = i + 1) := ⟨_, fun _ _ _ _ => Iff.rfl⟩
  refine loop_en ws .str I ((hI _ _ _ _).mpr ⟨[.lst []], [], mh.length + 1, v, none, none, none, none, by simp, by simp, by omega, by simp, hR, by omega⟩) ?_ ?_
  · intro i w xs e h hd hi hx q
    obtain ⟨g, ns, k, v2, v5, v6, v7, v8, rfl, hk1, hk2, rfl, hgo, hlen⟩ := (hI _ _ _ _).mp q
    refine ⟨rfl, _, rfl, ?_⟩
    unfold go at hgo
    cases hp : lkR rs w with
    | none =>
      simp only [hp] at hgo
      subst hgo
      simp [setMany, hnot, hp, fD, upR]
    | some p =>
      simp only [hp] at hgo
      refine seq_cut (fun e h => e = [some N, some (.tup (ws.map .str)), v2, some (.ref mh.length), some (.ref k), some (.int (i : Nat)), some (.str w), v7, v8] ∧ mh ++ Ob.dk kds :: g = h) (by simp [setMany, hnot, hp]) ?_
      rintro e h ⟨rfl, rfl⟩
      refine seq_cut (fun e h => e = [some N, some (.tup (ws.map .str)), v2, some (.ref mh.length), some (.ref k), some (.int (i : Nat)), some (.str w), some (pD p), v8] ∧ mh ++ Ob.dk kds :: g = h) (by simp [hix w p _ hp]) ?_
      rintro e h ⟨rfl, rfl⟩
      by_cases hi0 : i = 0
      · subst hi0
        simp only [stp, if_true] at hgo
        simp [pD, h2]
        rw [hI]
        exact ⟨g ++ [.lst [.str p.1, .str p.2]], [p.1, p.2], mh.length + (g.length + 1), v2, some (.int (0 : Nat)), some (.str w), some (pD p), v8, by simp, get_end, by omega, by simp [pD], hgo, by simp⟩
      · have hi1 : 0 < i := by omega
        have hi2 : ¬ (i : Int) = 0 := by omega
        have hns := hlen hi1
        rw [wp_sif, wp_tb, wp_bi, wp_vr]
        refine ⟨_, rfl, ?_⟩
        rw [wp_kn, o_eq_i, owp_some]
        refine ⟨_, rfl, fun z => by simp [hi0] at z, fun _ => ?_⟩
        obtain ⟨J, hJ⟩ : ∃ J : Nv → MH → Prop, ∀ e h, J e h ↔ ∃ (g : MH) (ns' : List Str) (k : Nat), h = mh ++ Ob.dk kds :: g ∧ h[k]? = some (.lst (ns'.map .str)) ∧ mh.length < k ∧ e = [some N, some (.tup (ws.map .str)), v2, some (.ref mh.length), some (.ref k), some (.int (i : Nat)), some (.str w), some (pD p), v8] ∧ add ns' p = stp i ns p ∧ ns'.length = i + 1 := ⟨_, fun _ _ => Iff.rfl⟩
        refine seq_cut J ?_ ?_
        · by_cases hi3 : i = 1
          · subst hi3
            match ns, hns with
            | [a, b], _ =>
              have hs : stp 1 [a, b] p = add (turnP [a, b] p) p := (add_turn _ _).symm
              cases ho : on p a with
              | false =>
                simp [hk1, in_pD, ho]
                rw [hJ]; exact ⟨g, [a, b], k, rfl, by simpa using hk1, by omega, by simp, by simp [hs, turnP, ho], by simp⟩
              | true =>
                simp [hk1, in_pD, ho, h2]
                rw [hJ]; exact ⟨g ++ [.lst [.str b, .str a]], [b, a], mh.length + (g.length + 1), by simp, get_end, by omega, by simp, by simp [hs, turnP, ho], by simp⟩
          · have hi4 : ¬ (i : Int) = 1 := by omega
            have hs : stp i ns p = add ns p := by unfold stp; rw [if_neg hi0, if_neg hi3]
            simp [hi4]
            rw [hJ]; exact ⟨g, ns, k, rfl, by simpa using hk1, by omega, by simp, hs.symm, hns⟩
        intro e h hj
        obtain ⟨g, ns', k, rfl, hk1, hk2, rfl, ha, hl'⟩ := (hJ _ _).mp hj
        rw [← ha] at hgo
        have hne : ns' ≠ [] := fun z => by rw [z] at hl'; simp at hl'
        obtain ⟨pre, last, rfl⟩ : ∃ pre last, ns' = pre ++ [last] := ⟨ns'.dropLast, ns'.getLast hne, (List.dropLast_concat_getLast hne).symm⟩
        have hat : L2.atI (pre.map D.str ++ [D.str last]) (-1) = some (.str last) := by rw [atI_last]; simp
        cases ho : on p last with
        | false =>
          have : add (pre ++ [last]) p = none := by unfold add; simp [ho]
          rw [this] at hgo
          simp only at hgo
          subst hgo
          simp [hk1, hat, notIn_pD, ho, fD, upR]
        | true =>
          refine seq_cut (fun e h => e = [some N, some (.tup (ws.map .str)), v2, some (.ref mh.length), some (.ref k), some (.int (i : Nat)), some (.str w), some (pD p), v8] ∧ mh ++ Ob.dk kds :: g = h) (by simp [hk1, hat, notIn_pD, ho]) ?_
          rintro e h ⟨rfl, rfl⟩
          refine seq_cut (fun e h => e = [some N, some (.tup (ws.map .str)), v2, some (.ref mh.length), some (.ref k), some (.int (i : Nat)), some (.str w), some (pD p), some (.str (oth p last))] ∧ mh ++ Ob.dk kds :: g = h) ?_ ?_
          · have ho2 : p.1 ≠ last → p.2 = last := fun z => by
              simp only [on, decide_eq_true_eq] at ho
              exact (ho.resolve_left fun e => z e.symm).symm
            by_cases hp1 : p.1 = last
            · simp [pD, hk1, hat, oth, hp1]
            · simp [pD, hk1, hat, oth, hp1, ho2 hp1]
          rintro e h ⟨rfl, rfl⟩
          have hin : oIn (.str (oth p last)) (.ref k) (mh ++ Ob.dk kds :: g) = some (.bl (decide (oth p last ∈ pre ++ [last])), mh ++ Ob.dk kds :: g) := o_in_s (l := pre ++ [last]) (by simp [itemsD, hk1])
          by_cases hm : oth p last ∈ pre ++ [last]
          · have : add (pre ++ [last]) p = none := by
              unfold add
              rw [List.getLast?_concat]
              simp only
              rw [if_neg fun q => q.2 hm]
            rw [this] at hgo
            simp only at hgo
            subst hgo
            rw [decide_eq_true hm] at hin
            simp [hin, fD, upR]
          · have : add (pre ++ [last]) p = some (pre ++ [last] ++ [oth p last]) := by
              unfold add
              rw [List.getLast?_concat]
              simp only
              rw [if_pos ⟨ho, hm⟩]
            rw [this] at hgo
            simp only at hgo
            rw [decide_eq_false hm] at hin
            have hkl := (List.getElem?_eq_some_iff.mp hk1).1
            simp [hin, hk1]
            refine ⟨by simp at hl'; omega, ?_⟩
            rw [hI]
            refine ⟨g.set (k - mh.length - 1) (.lst ((pre ++ [last] ++ [oth p last]).map .str)), pre ++ [last] ++ [oth p last], k, v2, _, _, _, _, ?_, ?_, hk2, rfl, hgo, fun _ => by simp at hl' ⊢; omega⟩
            · rw [List.set_append_right _ _ (by omega)]
              obtain ⟨m, hm⟩ : ∃ m, k - mh.length = m + 1 := ⟨k - mh.length - 1, by omega⟩
              rw [hm]
              simp
            · rw [List.getElem?_set_self hkl]; simp
  · intro e h q
    obtain ⟨g, ns, k, v2, v5, v6, v7, v8, rfl, hk1, hk2, rfl, hgo, hlen⟩ := (hI _ _ _ _).mp q
    simp only [go] at hgo
    subst hgo
    simp [fD, upR]
end
end K07
namespace K07
open PySem Det
section
variable {mh : MH} {rs : List Row} {A B C : D} {Q : D → MH → Prop} {E : Exn → MH → Prop}
@[simp] theorem other_ok {l : Row} {a : Str} {mh : MH} : m__law_other [rowD l, .str a] mh = .ok (.str (oth l.2 a)) mh := by
  refine ok_of_wp ?_
  unfold m__law_other
  rw [wp_zF, wp_runF]
  obtain ⟨x, y, z⟩ := l
  by_cases h : y = a <;> simp [rowD, oth, h]
/-- what _law_steps hands back over mh -/
def stQ (mh : MH) (R : Int ⊕ List Str) (d : D) (h : MH) : Prop := ∃ (g : MH) (k : Nat), h = mh ++ g ∧ d = .ref k ∧ mh.length ≤ k ∧ match R with
  | .inl i => h[k]? = some (.lst [.int i])
  | .inr ns => ∃ j, mh.length ≤ j ∧ h[k]? = some (.lst [.non, .ref j]) ∧ h[j]? = some (.lst (ns.map .str))
theorem lk_filter {w : Str} : lkR rs w = ((rs.filter fun l => decide (l.1 = w)).head?).map (·.2) := by
  unfold lkR; rw [List.head?_filter]
theorem in_pair {l : Row} {a : Str} {h : MH} : oIn (.str a) (.tup [.str l.2.1, .str l.2.2]) h = some (.bl (on l.2 a), h) := by
  rw [← on_mem]; exact o_in_s (l := [l.2.1, l.2.2]) rfl
theorem notIn_pair {l : Row} {a : Str} {h : MH} : oNotIn (.str a) (.tup [.str l.2.1, .str l.2.2]) h = some (.bl (!on l.2 a), h) := by
  rw [← on_mem]; exact o_notIn_s (l := [l.2.1, l.2.2]) rfl
theorem get_end0 {mh g : MH} {u : Ob} : (mh ++ (g ++ [u]))[mh.length + g.length]? = some u := by
  rw [← List.append_assoc, List.getElem?_append_right (by simp)]
  simp
theorem steps_strs (hl : rs.length ≤ 500) {ws : List Str} (hw : ws ≠ []) (hwl : ws.length ≤ 1000) (hq : ∀ d h, stQ mh (flt rs (.tup (ws.map .str))) d h → Q d h) : (m__law_steps [.tup [A, .tup (rs.map rowD), B, C], .tup (ws.map .str)] mh).wp Q E := by
  have hz : (2000 : Nat) ≤ sizeLine := by decide
  have h2 : (2 : Nat) ≤ sizeLine := by decide
  have h1 : (1 : Nat) ≤ sizeLine := by decide
  have hF : flt rs (.tup (ws.map .str)) = upR (go (lkR rs) 0 [] ws) := by
    cases ws with
    | nil => exact absurd rfl hw
    | cons w ws => simp [flt, strs?, strs_map]
  rw [hF] at hq
  generalize hR : go (lkR rs) 0 [] ws = R at hq
  unfold m__law_steps
  rw [wp_runF]
  generalize hN : D.tup [A, .tup (rs.map rowD), B, C] = N
  simp [hw]
  refine loop_strs (k := 2) (ds := ws.map .str) (mk := fun v => [some N, some (.tup (ws.map .str)), v, none, none, none, none]) (fun d hd => by obtain ⟨_, _, rfl⟩ := List.mem_map.mp hd; rfl) (fun _ _ => rfl) (fun _ => rfl) none ?_ (fun v O' _ hs => by rw [strs_map] at hs; cases hs)
  intro ws' v hws
  rw [strs_map] at hws
  cases hws
  subst hN
  simp
  refine ⟨okB_of (by omega) (by omega), ?_⟩
  generalize hN : D.tup [A, .tup (rs.map rowD), B, C] = N
  obtain ⟨I, hI⟩ : ∃ I : Nat → List Str → Nv → MH → Prop, ∀ i xs e h, I i xs e h ↔ ∃ (g : MH) (ns : List Str) (k : Nat) (v2 v4 v5 v6 : Option D), h = mh ++ g ∧ h[k]? = some (.lst (ns.map .str)) ∧ mh.length ≤ k ∧ e = [some N, some (.tup (ws.map .str)), v2, some (.ref k), v4, v5, v6] ∧ go (lkR rs) i ns xs = R ∧ (0 < i → ns.length = i + 1) := ⟨_, fun _ _ _ _ => Iff.rfl⟩
  refine loop_rg ws (by simp) I ((hI _ _ _ _).mpr ⟨[.lst []], [], mh.length, _, _, _, _, by simp, by simp, by omega, rfl, hR, by omega⟩) ?_ ?_
  · intro i w xs e h hd hi hx q
    obtain ⟨g, ns, k, v2, v4, v5, v6, rfl, hk1, hk2, rfl, hgo, hlen⟩ := (hI _ _ _ _).mp q
    refine ⟨rfl, _, rfl, ?_⟩
    unfold go at hgo
    rw [lk_filter] at hgo
    -- found
    refine seq_cut (fun e h => e = [some N, some (.tup (ws.map .str)), v2, some (.ref k), some (.int (i : Nat)), some (.rol ((rs.filter fun l => decide (l.1 = w)).map rowD)), v6] ∧ mh ++ g = h) ?_ ?_
    · generalize mh ++ g = H
      subst hN
      simp
      refine lc_map2 H rs rowD (fun l => decide (l.1 = w)) rowD (by simp) (by simp) (by omega) (fun _ => rfl) ?_ ?_
      · intro l hl acc
        refine ⟨_, rfl, ?_, fun _ => by simp [wipeD]⟩
        have ha : L2.atI (ws.map D.str) (i : Nat) = some (.str w) := by rw [atI_nat, List.getElem?_map, hx]; rfl
        simp [wipeD, rowD, ha]
        by_cases e : l.1 = w <;> simp [e]
      · rw [fq_push]
        exact ⟨blws_rows, by simp⟩
    rintro e h ⟨rfl, rfl⟩
    cases hf : rs.filter fun l => decide (l.1 = w) with
    | nil =>
      simp only [hf, List.head?_nil, Option.map_none] at hgo
      subst hgo
      simp [h1]
      exact hq _ _ ⟨g ++ [.lst [.int (i : Nat)]], (mh ++ g).length, by simp, by simp, by simp, by simp [upR, List.getElem?_append]⟩
    | cons l ls =>
      simp only [hf, List.head?_cons, Option.map_some] at hgo
      refine seq_cut (fun e h => e = [some N, some (.tup (ws.map .str)), v2, some (.ref k), some (.int (i : Nat)), some (.rol ((l :: ls).map rowD)), v6] ∧ mh ++ g = h) (by
        have : ¬ ((ls.length : Int) + 1 = 0) := by omega
        simp [this]) ?_
      rintro e h ⟨rfl, rfl⟩
      refine seq_cut (fun e h => e = [some N, some (.tup (ws.map .str)), v2, some (.ref k), some (.int (i : Nat)), some (.rol ((l :: ls).map rowD)), some (rowD l)] ∧ mh ++ g = h) (by simp) ?_
      rintro e h ⟨rfl, rfl⟩
      obtain ⟨J, hJ⟩ : ∃ J : Nv → MH → Prop, ∀ e h, J e h ↔ ∃ (g : MH) (ns' : List Str) (k : Nat), h = mh ++ g ∧ h[k]? = some (.lst (ns'.map .str)) ∧ mh.length ≤ k ∧ e = [some N, some (.tup (ws.map .str)), v2, some (.ref k), some (.int (i : Nat)), some (.rol ((l :: ls).map rowD)), some (rowD l)] ∧ (0 < i → add ns' l.2 = stp i ns l.2 ∧ ns'.length = i + 1) := ⟨_, fun _ _ => Iff.rfl⟩
      have x1 : ∀ (h : MH), oIx (rowD l) (.int 1) h = some (.str l.2.1, h) := fun h => by simp [rowD, oIx, itemsD]
      have x2 : ∀ (h : MH), oIx (rowD l) (.int 2) h = some (.str l.2.2, h) := fun h => by simp [rowD, oIx, itemsD]
      refine seq_cut J ?_ ?_
      · by_cases hi3 : i = 1
        · subst hi3
          have hns := hlen (by omega)
          match ns, hns with
          | [a, b], _ =>
            have hs : stp 1 [a, b] l.2 = add (turn [a, b] l.2) l.2 := rfl
            cases ho : on l.2 b with
            | true =>
              simp [hk1, x1, x2, h2, notIn_pair, ho]
              rw [hJ]; exact ⟨g, [a, b], k, rfl, by simpa using hk1, by omega, by simp, fun _ => ⟨by simp [hs, turn, ho], by simp⟩⟩
            | false =>
              simp [hk1, x1, x2, h2, notIn_pair, ho]
              rw [hJ]; exact ⟨g ++ [.lst [.str b, .str a]], [b, a], mh.length + g.length, by simp, by simp [get_end0], by omega, by simp, fun _ => ⟨by simp [hs, turn, ho], by simp⟩⟩
        · have hi4 : ¬ (i : Int) = 1 := by omega
          simp [hi4]
          rw [hJ]; exact ⟨g, ns, k, rfl, by simpa using hk1, by omega, by simp, fun hi => ⟨by unfold stp; rw [if_neg (by omega), if_neg hi3], hlen hi⟩⟩
      intro e h hj
      obtain ⟨g, ns', k, rfl, hk1, hk2, rfl, hj2⟩ := (hJ _ _).mp hj
      by_cases hi0 : i = 0
      · subst hi0
        simp only [stp, if_true] at hgo
        simp [x1, x2, h2]
        rw [hI]
        exact ⟨g ++ [.lst [.str l.2.1, .str l.2.2]], [l.2.1, l.2.2], mh.length + g.length, v2, some (.int (0 : Nat)), some (.rol ((l :: ls).map rowD)), some (rowD l), by simp, by simp [get_end0], by omega, by simp, hgo, by simp⟩
      · obtain ⟨ha, hl'⟩ := hj2 (by omega)
        rw [← ha] at hgo
        have hi2 : ¬ (i : Int) = 0 := by omega
        rw [wp_sif, wp_tb, wp_bi, wp_vr]
        refine ⟨_, rfl, ?_⟩
        rw [wp_kn, o_eq_i, owp_some]
        refine ⟨_, rfl, fun z => by simp [hi0] at z, fun _ => ?_⟩
        have hne : ns' ≠ [] := fun z => by rw [z] at hl'; simp at hl'
        obtain ⟨pre, last, rfl⟩ : ∃ pre last, ns' = pre ++ [last] := ⟨ns'.dropLast, ns'.getLast hne, (List.dropLast_concat_getLast hne).symm⟩
        have hpl : pre.length = i := by simp at hl'; exact hl'
        have hat : L2.atI (pre.map D.str ++ [D.str last]) (i : Nat) = some (.str last) := by rw [atI_nat, ← hpl]; simp
        have hin : oIn (.str (oth l.2 last)) (.ref k) (mh ++ g) = some (.bl (decide (oth l.2 last ∈ pre ++ [last])), mh ++ g) := o_in_s (l := pre ++ [last]) (by simp [itemsD, hk1])
        by_cases hc : on l.2 last = true ∧ oth l.2 last ∉ pre ++ [last]
        · have : add (pre ++ [last]) l.2 = some (pre ++ [last] ++ [oth l.2 last]) := by
            unfold add
            rw [List.getLast?_concat]
            simp only
            rw [if_pos hc]
          rw [this] at hgo
          simp only at hgo
          rw [decide_eq_false hc.2] at hin
          have hkl := (List.getElem?_eq_some_iff.mp hk1).1
          simp [hk1, hat, x1, x2, h2, notIn_pair, hc.1, hin]
          refine ⟨by omega, ?_⟩
          rw [hI]
          refine ⟨g.set (k - mh.length) (.lst ((pre ++ [last] ++ [oth l.2 last]).map .str)), pre ++ [last] ++ [oth l.2 last], k, v2, _, _, _, ?_, ?_, hk2, rfl, hgo, fun _ => by simp; omega⟩
          · rw [List.set_append_right _ _ (by omega)]; simp
          · rw [List.getElem?_set_self hkl]; simp
        · have : add (pre ++ [last]) l.2 = none := by
            unfold add
            rw [List.getLast?_concat]
            simp only
            rw [if_neg hc]
          rw [this] at hgo
          simp only at hgo
          subst hgo
          have fin := hq (.ref (mh.length + g.length)) (mh ++ (g ++ [.lst [.int (i : Nat)]])) ⟨g ++ [.lst [.int (i : Nat)]], mh.length + g.length, by simp, rfl, by omega, by simp [upR, get_end0]⟩
          cases ho : on l.2 last with
          | false => simp [hk1, hat, x1, x2, h2, notIn_pair, ho, h1, fin]
          | true =>
            have hm : oth l.2 last ∈ pre ++ [last] := Classical.byContradiction fun z => hc ⟨ho, z⟩
            rw [decide_eq_true hm] at hin
            simp [hk1, hat, x1, x2, h2, notIn_pair, ho, h1, hin, fin]
  · intro e h q
    obtain ⟨g, ns, k, v2, v4, v5, v6, rfl, hk1, hk2, rfl, hgo, hlen⟩ := (hI _ _ _ _).mp q
    refine ⟨rfl, ?_⟩
    simp only [go] at hgo
    subst hgo
    simp [h2]
    refine hq _ _ ⟨g ++ [.lst [.non, .ref k]], (mh ++ g).length, by simp, by simp, by simp, k, hk2, by simp [List.getElem?_append], ?_⟩
    rw [← List.append_assoc, List.getElem?_append_left (List.getElem?_eq_some_iff.mp hk1).1]; exact hk1
end
end K07
namespace K07
open PySem Det
section
variable {mh : MH} {rs : List Row} {A B C : D} {Q : D → MH → Prop} {E : Exn → MH → Prop}
abbrev bwx (i : Int) : Exn := ⟨"BadWay", [("at", .int i)]⟩
def outW (R : Int ⊕ List Str) (mh : MH) : Res D := match R with
  | .inl i => .ex (bwx i) mh
  | .inr _ => .ok .non mh
theorem fault_ok (hl : rs.length ≤ 500) (hn : (rs.map (·.1)).Nodup) {d : D} (ht : Th d) : m_way_fault [.tup [A, .tup (rs.map rowD), B, C], d] mh = .ok (fD (flt rs d)) mh := by
  have other : ∀ d, (∀ ds, d ≠ .tup ds) → easy d = true → m_way_fault [.tup [A, .tup (rs.map rowD), B, C], d] mh = .ok (.int (-1)) mh := fun d hd he => by
    refine ok_of_wp ?_
    unfold m_way_fault
    rw [wp_zF, wp_runF]
    cases d with
    | tup ds => exact absurd rfl (hd ds)
    | ty _ => cases he
    | ref _ => cases he
    | exc _ _ _ => cases he
    | _ => simp
  cases d with
  | tup ds =>
    cases ds with
    | nil =>
      refine ok_of_wp ?_
      unfold m_way_fault
      rw [wp_zF, wp_runF]
      simp [flt, fD]
    | cons d0 ds =>
      obtain ⟨h1, h2⟩ := ht
      cases hs : strs? (d0 :: ds) with
      | some ws =>
        have e := of_strs _ hs
        rw [e]
        refine fault_strs hl hn (fun z => ?_) (by rw [e] at h1; simpa using h1)
        rw [z] at e; cases e
      | none =>
        refine ok_of_wp ?_
        have ef : flt rs (.tup (d0 :: ds)) = .inl (-1) := by simp [flt, hs]
        rw [ef]
        unfold m_way_fault
        rw [wp_zF, wp_runF]
        generalize hN : D.tup [A, .tup (rs.map rowD), B, C] = N
        simp
        refine .inl ⟨by omega, ?_⟩
        refine loop_strs (k := 2) (ds := d0 :: ds) (mk := fun v => [some N, some (.tup (d0 :: ds)), v, none, none, none, none, none, none]) h2 (fun _ _ => rfl) (fun _ => rfl) none (fun ws v hw => by rw [hs] at hw; cases hw) ?_
        intro v O' hO _
        simp [hO, fD]
  | ty _ => exact absurd ht (by simp [Th, easy])
  | ref _ => exact absurd ht (by simp [Th, easy])
  | exc _ _ _ => exact absurd ht (by simp [Th, easy])
  | _ => exact other _ (fun _ => by simp) rfl
theorem check_ok (hl : rs.length ≤ 500) (hn : (rs.map (·.1)).Nodup) {d : D} (ht : Th d) : m_check_way [.tup [A, .tup (rs.map rowD), B, C], d] mh = outW (flt rs d) mh := by
  cases hR : flt rs d with
  | inl i =>
    refine ex_of_wp ?_
    unfold m_check_way
    rw [wp_zF, wp_runF]
    simp [fault_ok hl hn ht, hR, fD, oIsNot, isD, FE]
  | inr ns =>
    refine ok_of_wp ?_
    unfold m_check_way
    rw [wp_zF, wp_runF]
    simp [fault_ok hl hn ht, hR, fD, oIsNot, isD]
theorem steps_wp (hl : rs.length ≤ 500) {d : D} (ht : Th d) (hq : ∀ x h, stQ mh (flt rs d) x h → Q x h) : (m__law_steps [.tup [A, .tup (rs.map rowD), B, C], d] mh).wp Q E := by
  have h1 : (1 : Nat) ≤ sizeLine := by decide
  have hm : flt rs d = .inl (-1) → Q (.ref mh.length) (mh ++ [.lst [.int (-1)]]) := fun e => hq _ _ (by
    rw [e]; exact ⟨[.lst [.int (-1)]], mh.length, rfl, rfl, Nat.le_refl _, by simp⟩)
  have other : (∀ ds, d ≠ .tup ds) → easy d = true → flt rs d = .inl (-1) → (m__law_steps [.tup [A, .tup (rs.map rowD), B, C], d] mh).wp Q E := fun hd he hf => by
    have := hm hf
    unfold m__law_steps
    rw [wp_runF]
    cases d with
    | tup ds => exact absurd rfl (hd ds)
    | ty _ => cases he
    | ref _ => cases he
    | exc _ _ _ => cases he
    | _ => simp [h1, this]
  cases d with
  | tup ds =>
    cases ds with
    | nil =>
      have := hm rfl
      unfold m__law_steps
      rw [wp_runF]
      simp [h1, this]
    | cons d0 ds =>
      obtain ⟨h1', h2⟩ := ht
      cases hs : strs? (d0 :: ds) with
      | some ws =>
        have e := of_strs _ hs
        rw [e] at hq ⊢
        refine steps_strs hl (fun z => ?_) (by rw [e] at h1'; simpa using h1') hq
        rw [z] at e; cases e
      | none =>
        have := hm (by simp [flt, hs])
        unfold m__law_steps
        rw [wp_runF]
        generalize hN : D.tup [A, .tup (rs.map rowD), B, C] = N
        simp
        refine .inl ⟨by omega, ?_⟩
        refine loop_strs (k := 2) (ds := d0 :: ds) (mk := fun v => [some N, some (.tup (d0 :: ds)), v, none, none, none, none]) h2 (fun _ _ => rfl) (fun _ => rfl) none (fun ws v hw => by rw [hs] at hw; cases hw) ?_
        intro v O' hO _
        simp [hO, h1, this]
  | ty _ => exact absurd ht (by simp [Th, easy])
  | ref _ => exact absurd ht (by simp [Th, easy])
  | exc _ _ _ => exact absurd ht (by simp [Th, easy])
  | _ => exact other (fun _ => by simp) rfl rfl
def tD (R : Int ⊕ List Str) : D := match R with
  | .inl i => .rol [.int 1, .rol kW, .int i]
  | .inr _ => .rol [.int 0, .non]
theorem told_ok (hl : rs.length ≤ 500) (hn : (rs.map (·.1)).Nodup) {d : D} (ht : Th d) : m__law_told [.tup [A, .tup (rs.map rowD), B, C], d] mh = .ok (tD (flt rs d)) mh := by
  have h3 : (3 : Nat) ≤ sizeLine ∧ (2 : Nat) ≤ sizeLine ∧ (2 : Nat) < sizeLine := by decide
  obtain ⟨h3, h2, h2'⟩ := h3
  refine ok_of_wp ?_
  unfold m__law_told
  rw [wp_zF, wp_runF]
  generalize hN : D.tup [A, .tup (rs.map rowD), B, C] = N
  have hc := fun mh => check_ok (A := A) (B := B) (C := C) (mh := mh) hl hn ht
  rw [hN] at hc
  cases hR : flt rs d with
  | inl i =>
    simp [hc, hR, outW, excD, kinds_W, h2, h2']
    exact ⟨_, _, _, ⟨rfl, rfl, rfl⟩, by simp [kW, tD]⟩
  | inr ns =>
    simp [hc, hR, outW, h2, tD]
theorem ne_kW {mh : MH} : oNe (.rol kW) (.rol kW) mh = some (.bl false, mh) := by
  have : eqD mh (.rol kW) (.rol kW) = some true := by
    simp only [eqD, kW, datD]
    simp [datD, SeqAt.shaped]
    decide +kernel
  simp only [oNe, this]; rfl
theorem good_ok (hl : rs.length ≤ 500) (hn : (rs.map (·.1)).Nodup) {d : D} (ht : Th d) : m__law_good [.tup [A, .tup (rs.map rowD), B, C], d] mh = .ok (.bl true) mh := by
  have h4 : (4 : Nat) ≤ sizeLine := by decide
  refine ok_of_wp ?_
  unfold m__law_good
  rw [wp_zF, wp_runF]
  simp
  refine steps_wp hl ht fun x h q => ?_
  obtain ⟨g, k, rfl, rfl, hk, q⟩ := q
  cases hR : flt rs d with
  | inl i =>
    rw [hR] at q
    simp at q
    have hk : D.rol [D.str (Str.ofString "ValueError"), D.str (Str.ofString "NetError"), D.str (Str.ofString "DataError"), D.str (Str.ofString "BadWay")] = .rol kW := rfl
    simp [q, told_ok hl hn ht, hR, tD, oIs, isD, h4, hk]
    rw [ne_kW, owp_some]; simp
  | inr ns =>
    rw [hR] at q
    obtain ⟨j, hj, q1, q2⟩ := q
    simp [q1, told_ok hl hn ht, hR, tD, oIs, isD, h4, kW]
end
end K07
namespace K07
open PySem Det
@[simp] theorem wp_par2 {i j : Nat} {fa : MA} {env : Nv} {mh : MH} {O : Po} : (par2 i j fa env mh).wp O ↔ (fa env mh).wp (fun ds h => ∃ d e, ds = [d, e] ∧ O.nx ((env.set i (some d)).set j (some e)) h) (fun x h => O.ex x env h) := wp_lift_iff fun ds h => by
  match ds with
  | [] => simp
  | [_] => simp
  | [a, b] => exact swp_nx.trans ⟨fun q => ⟨a, b, rfl, q⟩, fun ⟨_, _, e, q⟩ => by cases e; exact q⟩
  | _ :: _ :: _ :: _ => simp
theorem cut_1 {xs : List D} : cutD xs (some 1) none = xs.drop 1 := by
  unfold cutD
  rw [HT.sIx_none, show (some (1 : Int)) = some ((1 : Nat) : Int) from rfl, HT.sIx_nat]
  cases xs with
  | nil => rfl
  | cons a l => simp [List.take_of_length_le]
theorem cut_mid {xs : List D} (h : 2 ≤ xs.length) : cutD xs (some 1) (some (-1)) = (xs.drop 1).take (xs.length - 2) := by
  unfold cutD
  rw [show (some (1 : Int)) = some ((1 : Nat) : Int) from rfl, HT.sIx_nat]
  have : HT.sIx xs.length xs.length (some (-1)) = xs.length - 1 := by
    show (if (-1 : Int) < 0 then ((-1 : Int) + (xs.length : Int)).toNat else min (-1 : Int).toNat xs.length) = xs.length - 1
    rw [if_pos (by omega)]; omega
  rw [this, show min 1 xs.length = 1 by omega]
  congr 1
theorem cut_mid2 {xs : List D} (h : 2 ≤ xs.length) {k : Int} (hk : k = (xs.length : Int) - 1) : cutD xs (some 1) (some k) = (xs.drop 1).take (xs.length - 2) := by
  unfold cutD
  obtain rfl : k = ((xs.length - 1 : Nat) : Int) := by omega
  rw [show (some (1 : Int)) = some ((1 : Nat) : Int) from rfl, HT.sIx_nat, HT.sIx_nat]
  rw [show min 1 xs.length = 1 by omega, show min (xs.length - 1) xs.length = xs.length - 1 by omega]
  congr 1
theorem atI_len {α : Type} {l : List α} (h : l ≠ []) : L2.atI l ((l.length : Int) - 1) = l.getLast? := by
  have : l.length ≠ 0 := fun e => h (List.length_eq_zero_iff.mp e)
  rw [show (l.length : Int) - 1 = ((l.length - 1 : Nat) : Int) by omega, atI_nat, List.getLast?_eq_getElem?]
section
variable {mh : MH} {rs : List Row} {A B C : D} {Q : D → MH → Prop} {E : Exn → MH → Prop} {ws NS : List Str}
theorem way_nodes_ok (hl : rs.length ≤ 500) (hn : (rs.map (·.1)).Nodup) (hw : ws ≠ []) (hwl : ws.length ≤ 1000) (hg : go (lkR rs) 0 [] ws = .inr NS) : m_way_nodes [.tup [A, .tup (rs.map rowD), B, C], .tup (ws.map .str)] mh = .ok (.tup (NS.map .str)) mh := by
  have hz : (2000 : Nat) ≤ sizeLine := by decide
  have h2 : (2 : Nat) ≤ sizeLine := by decide
  refine ok_of_wp ?_
  unfold m_way_nodes
  rw [wp_zF, wp_runF]
  generalize hN : D.tup [A, .tup (rs.map rowD), B, C] = N
  simp
  subst hN
  refine link_ends_wp hl hn fun kds hk => ?_
  generalize hN : D.tup [A, .tup (rs.map rowD), B, C] = N
  have hix : ∀ (w : Str) (p : Str × Str) (g : MH), lkR rs w = some p → oIxX (.ref mh.length) (.str w) (mh ++ Ob.dk kds :: g) = some (pD p, mh ++ Ob.dk kds :: g) := fun w p g e => ixX_dk (kds := kds) (by simp) (by rw [hk w, e]; rfl)
  clear hk
  match ws, hw, hg with
  | [x], _, hg =>
    obtain ⟨p, hp, rfl⟩ := go_one hg
    have := hix x p [] hp
    simp [this, pD, setP, setMany, h2, cut_1, loopF]
  | x :: y :: ys, _, hg =>
    obtain ⟨p, l, hp, hy, hf⟩ := go_two hg
    have e1 := hix x p [] hp
    have e2 := hix y l [] hy
    have hlen : ¬ ((ys.length : Int) + 1 + 1 ≤ 1) := by omega
    have hlen2 : ((1 : Int) < (ys.length : Int) + 1 + 1) := by omega
    obtain ⟨a, b, hab⟩ : ∃ a b, turnP [p.1, p.2] l = [a, b] := by
      unfold turnP; simp only; split <;> exact ⟨_, _, rfl⟩
    have key : ∀ v3 v4 : Option D, (loopF (fun _ => true) (.nm 6) (sq (asg (.tp [7, 8]) (bi oIxX (vr 2) (vr 6))) (drp (app (vr 5) (eif (tb (bi oEq (vr 7) (bi oIx (vr 5) (un oNeg (kn (.int 1)))))) (vr 8) (vr 7))))) ((y :: ys).map D.str)
        [some N, some (.tup ((x :: y :: ys).map .str)), some (.ref mh.length), v3, v4, some (.ref (mh.length + 1)), none, none, none] (mh ++ [.dk kds, .lst [.str a, .str b]])).wp
        { nx := fun e h => ∃ v6 v7 v8, e = [some N, some (.tup ((x :: y :: ys).map .str)), some (.ref mh.length), v3, v4, some (.ref (mh.length + 1)), v6, v7, v8] ∧ h = mh ++ [.dk kds, .lst (NS.map .str)], rt := fun _ _ => False, bk := fun _ _ => False, ct := fun _ _ => False, ex := fun _ _ _ => False } := fun v3 v4 => by
      obtain ⟨I, hI⟩ : ∃ I : Nat → List Str → Nv → MH → Prop, ∀ i xs e h, I i xs e h ↔ ∃ (ns : List Str) (v6 v7 v8 : Option D), h = mh ++ [.dk kds, .lst (ns.map .str)] ∧ e = [some N, some (.tup ((x :: y :: ys).map .str)), some (.ref mh.length), v3, v4, some (.ref (mh.length + 1)), v6, v7, v8] ∧ fol (lkR rs) ns xs = some NS ∧ ns.length = i + 2 := ⟨_, fun _ _ _ _ => Iff.rfl⟩
      refine loop_as (y :: ys) .str I ((hI _ _ _ _).mpr ⟨[a, b], _, _, _, rfl, rfl, by rw [← hab]; exact hf, rfl⟩) ?_ ?_
      · intro i w xs e h hd hi hx q
        obtain ⟨ns, v6, v7, v8, rfl, rfl, hfo, hlen'⟩ := (hI _ _ _ _).mp q
        refine ⟨rfl, _, rfl, ?_⟩
        unfold fol at hfo
        cases hlk : lkR rs w with
        | none => simp [hlk] at hfo
        | some m =>
          simp only [hlk] at hfo
          cases ha : add ns m with
          | none => simp [ha] at hfo
          | some ns' =>
            simp only [ha] at hfo
            obtain ⟨last, q1, q2, q3, rfl⟩ := add_some ha
            have hne : ns ≠ [] := fun z => by rw [z] at q1; cases q1
            obtain ⟨pre, rfl⟩ : ∃ pre, ns = pre ++ [last] := ⟨ns.dropLast, by
              have := List.dropLast_concat_getLast hne
              rw [List.getLast?_eq_some_getLast hne] at q1
              cases q1; exact this.symm⟩
            have hat : L2.atI (pre.map D.str ++ [D.str last]) (-1) = some (.str last) := by rw [atI_last]; simp
            have hxx := hix w m [.lst ((pre ++ [last]).map .str)] hlk
            have hz2 : pre.length + 1 < sizeLine := by
              simp at hlen' hi
              have : i < 1000 := by simp at hwl; omega
              omega
            have fin : ∀ v7 v8, I (i + 1) xs [some N, some (.tup ((x :: y :: ys).map .str)), some (.ref mh.length), v3, v4, some (.ref (mh.length + 1)), some (.str w), v7, v8] (mh ++ [.dk kds, .lst ((pre ++ [last] ++ [oth m last]).map .str)]) := fun v7 v8 => (hI _ _ _ _).mpr ⟨_, _, _, _, rfl, rfl, hfo, by simp at hlen' ⊢; omega⟩
            have hxx' : oIxX (.ref mh.length) (.str w) (mh ++ [Ob.dk kds, .lst (pre.map .str ++ [.str last])]) = some (pD m, mh ++ [Ob.dk kds, .lst (pre.map .str ++ [.str last])]) := by simpa using hxx
            simp [hxx', pD, setP, setMany]
            rw [hat]
            by_cases hm1 : m.1 = last
            · have e9 : oth m last = m.2 := by unfold oth; rw [if_pos hm1]
              have := fin (some (.str m.1)) (some (.str m.2))
              rw [e9] at this
              simp [hm1, hz2]
              simpa [hm1] using this
            · have e9 : oth m last = m.1 := by unfold oth; rw [if_neg hm1]
              have := fin (some (.str m.1)) (some (.str m.2))
              rw [e9] at this
              simp [hm1, hz2]
              simpa using this
      · intro e h q
        obtain ⟨ns, v6, v7, v8, rfl, rfl, hfo, hlen'⟩ := (hI _ _ _ _).mp q
        simp only [fol, Option.some.injEq] at hfo
        subst hfo
        exact ⟨rfl, v6, v7, v8, rfl, rfl⟩
    have hm : pD p = .tup [.str p.1, .str p.2] := rfl
    have fin : ∀ v3 v4 : Option D, FQ mh (fun d h => d = D.tup (NS.map .str) ∧ h = mh) (.tup (NS.map .str)) (mh ++ [.dk kds, .lst (NS.map .str)]) := fun _ _ => by simp
    cases ho : on l p.1 with
    | false =>
      have hab2 : [a, b] = [p.1, p.2] := by rw [← hab]; simp [turnP, ho]
      cases hab2
      simp [e1, e2, hm, setP, setMany, hlen2, in_pD, ho, h2, cut_1]
      refine SRes.wp_mono (key _ _) (fun e h q => ?_) (fun _ _ q => q.elim) (fun _ _ q => q.elim) (fun _ _ q => q.elim) (fun _ _ _ q => q.elim)
      obtain ⟨v6, v7, v8, rfl, rfl⟩ := q
      simp
    | true =>
      have hab2 : [a, b] = [p.2, p.1] := by rw [← hab]; simp [turnP, ho]
      cases hab2
      simp [e1, e2, hm, setP, setMany, hlen2, in_pD, ho, h2, cut_1]
      refine ⟨_, _, ⟨rfl, rfl⟩, ?_⟩
      refine SRes.wp_mono (key _ _) (fun e h q => ?_) (fun _ _ q => q.elim) (fun _ _ q => q.elim) (fun _ _ q => q.elim) (fun _ _ _ q => q.elim)
      obtain ⟨v6, v7, v8, rfl, rfl⟩ := q
      simp
end
end K07
namespace K07
open PySem Det
section
variable {mh : MH} {rs : List Row} {ms gs : List Str} {A B C : D} {Q : D → MH → Prop} {E : Exn → MH → Prop} {ws NS : List Str}
/-- what is known of a way in a net -/
structure Way (rs : List Row) (ws NS : List Str) : Prop where
  hl : rs.length ≤ 500
  hn : (rs.map (·.1)).Nodup
  hw : ws ≠ []
  hwl : ws.length ≤ 1000
  hg : go (lkR rs) 0 [] ws = .inr NS
theorem go_len {α β : Type} [DecidableEq β] {lk : α → Option (β × β)} {xs : List α} {NS : List β} (h : go lk 0 [] xs = .inr NS) (hx : xs ≠ []) : NS.length = xs.length + 1 := by
  have fl : ∀ (xs : List α) (ns : List β) {NS : List β}, fol lk ns xs = some NS → NS.length = ns.length + xs.length := fun xs => by
    induction xs with
    | nil => intro ns NS h; simp [fol] at h; subst h; simp
    | cons x xs ih =>
      intro ns NS h
      unfold fol at h
      cases hx : lk x with
      | none => simp [hx] at h
      | some l =>
        simp only [hx] at h
        cases ha : add ns l with
        | none => simp [ha] at h
        | some ns' =>
          simp only [ha] at h
          obtain ⟨a, _, _, _, rfl⟩ := add_some ha
          rw [ih _ h]; simp; omega
  match xs, hx, h with
  | [x], _, h =>
    obtain ⟨p, _, rfl⟩ := go_one h
    simp
  | x :: y :: ys, _, h =>
    obtain ⟨p, l, _, _, h3⟩ := go_two h
    rw [fl _ _ h3]
    have : (turnP [p.1, p.2] l).length = 2 := by unfold turnP; simp only; split <;> rfl
    rw [this]; simp; omega
theorem Way.len (w : Way rs ws NS) : NS.length = ws.length + 1 := go_len w.hg w.hw
theorem Way.two (w : Way rs ws NS) : 2 ≤ NS.length := by
  have := w.len
  have : ws.length ≠ 0 := fun e => w.hw (List.length_eq_zero_iff.mp e)
  omega
theorem Way.ends (w : Way rs ws NS) : ∃ a z, NS[0]? = some a ∧ NS.getLast? = some z := by
  have := w.two
  match NS, this with
  | a :: b :: r, _ => exact ⟨a, (a :: b :: r).getLast (by simp), rfl, List.getLast?_eq_some_getLast _⟩
def rtB (ms NS : List Str) : Bool := match NS[0]?, NS.getLast? with
  | some a, some z => decide (a ∈ ms) && (decide (z ∈ ms) && ltS a z)
  | _, _ => false
theorem flt_way (w : Way rs ws NS) : flt rs (.tup (ws.map .str)) = .inr NS := by
  cases ws with
  | nil => exact absurd rfl w.hw
  | cons x xs =>
    have := w.hg
    simp [flt, strs?, strs_map, this, upR]
theorem th_way (w : Way rs ws NS) : Th (.tup (ws.map .str)) := ⟨by simpa using w.hwl, fun d hd => by obtain ⟨_, _, rfl⟩ := List.mem_map.mp hd; rfl⟩
theorem o_lt_s {x y : Str} {h : MH} : oLt (.str x) (.str y) h = some (.bl (ltS x y), h) := rfl
theorem is_route_ok (w : Way rs ws NS) : m_is_route [.tup [A, .tup (rs.map rowD), .tup (ms.map .str), C], .tup (ws.map .str)] mh = .ok (.bl (rtB ms NS)) mh := by
  obtain ⟨a, z, ha, hz⟩ := w.ends
  have hat : L2.atI (NS.map D.str) 0 = some (.str a) := by rw [show (0 : Int) = ((0 : Nat) : Int) from rfl, atI_nat, List.getElem?_map, ha]; rfl
  have hzt : L2.atI (NS.map D.str) (-1) = some (.str z) := by rw [atI_last, List.getLast?_map, hz]; rfl
  have oi : ∀ (x : Str) (h : MH), oIn (.str x) (.tup (ms.map .str)) h = some (.bl (decide (x ∈ ms)), h) := fun x h => o_in_s (l := ms) rfl
  refine ok_of_wp ?_
  unfold m_is_route
  rw [wp_zF, wp_runF]
  have hr : rtB ms NS = (decide (a ∈ ms) && (decide (z ∈ ms) && ltS a z)) := by unfold rtB; rw [ha, hz]
  rw [hr]
  simp [way_nodes_ok w.hl w.hn w.hw w.hwl w.hg, hat, hzt, oi, o_lt_s]
  by_cases h1 : a ∈ ms
  · by_cases h2 : z ∈ ms
    · simp [h1, h2, hzt, oi]
    · simp [h1, h2, hzt, oi]
  · simp [h1]
theorem law_route_ok (w : Way rs ws NS) : m__law_route [.tup [A, .tup (rs.map rowD), .tup (ms.map .str), C], .tup (ws.map .str)] mh = .ok (.bl (rtB ms NS)) mh := by
  obtain ⟨a, z, ha, hz⟩ := w.ends
  have hne : NS.map D.str ≠ [] := fun e => by
    have := w.two
    rw [List.map_eq_nil_iff] at e
    rw [e] at this; simp at this
  have hat : L2.atI (NS.map D.str) 0 = some (.str a) := by rw [show (0 : Int) = ((0 : Nat) : Int) from rfl, atI_nat, List.getElem?_map, ha]; rfl
  have hzt : L2.atI (NS.map D.str) ((NS.length : Int) - 1) = some (.str z) := by
    have := atI_len hne
    rw [List.length_map, List.getLast?_map, hz] at this
    exact this
  have oi : ∀ (x : Str) (h : MH), oIn (.str x) (.tup (ms.map .str)) h = some (.bl (decide (x ∈ ms)), h) := fun x h => o_in_s (l := ms) rfl
  refine ok_of_wp ?_
  unfold m__law_route
  rw [wp_zF, wp_runF]
  have hr : rtB ms NS = (decide (a ∈ ms) && (decide (z ∈ ms) && ltS a z)) := by unfold rtB; rw [ha, hz]
  rw [hr]
  generalize hN : D.tup [A, .tup (rs.map rowD), .tup (ms.map .str), C] = N
  have on2 : ∀ h, oIx N (.int 2) h = some (.tup (ms.map .str), h) := fun h => by rw [← hN]; simp [oIx, itemsD]
  simp
  subst hN
  refine steps_wp w.hl (th_way w) fun x h q => ?_
  rw [flt_way w] at q
  obtain ⟨g, k, rfl, rfl, hk, j, hj, q1, q2⟩ := q
  generalize D.tup [A, .tup (rs.map rowD), .tup (ms.map .str), C] = N at on2 ⊢
  by_cases h1 : a ∈ ms
  · by_cases h2 : z ∈ ms
    · simp [h1, h2, q1, q2, hat, hzt, oi, o_lt_s, on2]
    · simp [h1, h2, q1, q2, hat, hzt, oi, o_lt_s, on2]
  · simp [h1, q1, q2, hat, oi, on2]
theorem is_probe_ok (w : Way rs ws NS) : m_is_probe [.tup [A, .tup (rs.map rowD), .tup (ms.map .str), .tup (gs.map .str)], .tup (ws.map .str)] mh = .ok (.bl (rtB ms NS || (decide (ws.length = 1) && decide (∀ x ∈ ws, x ∈ gs)))) mh := by
  have oi : ∀ (x : Str) (h : MH), oIn (.str x) (.tup (gs.map .str)) h = some (.bl (decide (x ∈ gs)), h) := fun x h => o_in_s (l := gs) rfl
  refine ok_of_wp ?_
  unfold m_is_probe
  rw [wp_zF, wp_runF]
  have hf := fun mh => fault_ok (A := A) (B := .tup (ms.map .str)) (C := .tup (gs.map .str)) (mh := mh) w.hl w.hn (th_way w)
  have hr := fun mh => is_route_ok (A := A) (ms := ms) (C := .tup (gs.map .str)) (mh := mh) w
  simp [hf, flt_way w, fD, oIsNot, isD, hr]
  match ws, w.hw with
  | [x], _ =>
    by_cases hx : x ∈ gs
    · simp [oi, hx]
    · simp [oi, hx]
  | x :: y :: xs, _ =>
    have h1 : ¬ ((xs.length : Int) + 1 + 1 = 1) := by omega
    simp [h1]
theorem is_short_ok (w : Way rs ws NS) : m_is_short [.tup [A, .tup (rs.map rowD), .tup (ms.map .str), C], .tup (ws.map .str)] mh = .ok (.bl (((NS.drop 1).take (NS.length - 2)).all fun x => decide (x ∉ ms))) mh := by
  have oi : ∀ (x : Str) (h : MH), oIn (.str x) (.tup (ms.map .str)) h = some (.bl (decide (x ∈ ms)), h) := fun x h => o_in_s (l := ms) rfl
  refine ok_of_wp ?_
  unfold m_is_short
  rw [wp_zF, wp_runF]
  have hwn := fun mh => way_nodes_ok (A := A) (B := .tup (ms.map .str)) (C := C) (mh := mh) w.hl w.hn w.hw w.hwl w.hg
  generalize hN : D.tup [A, .tup (rs.map rowD), .tup (ms.map .str), C] = N at hwn ⊢
  have on2 : ∀ h, oIx N (.int 2) h = some (.tup (ms.map .str), h) := fun h => by rw [← hN]; simp [oIx, itemsD]
  have hc : cutD (NS.map .str) (some 1) (some (-1)) = ((NS.drop 1).take (NS.length - 2)).map .str := by
    rw [cut_mid (by simpa using w.two), List.length_map, ← List.map_drop, ← List.map_take]
  generalize (NS.drop 1).take (NS.length - 2) = inn at hc ⊢
  simp [hwn, hc]
  obtain ⟨I, hI⟩ : ∃ I : Nat → List Str → Nv → MH → Prop, ∀ i xs e h, I i xs e h ↔ h = mh ∧ ∃ v, e = [some N, some (.tup (ws.map .str)), v] ∧ (inn.all fun x => decide (x ∉ ms)) = xs.all fun x => decide (x ∉ ms) := ⟨_, fun _ _ _ _ => Iff.rfl⟩
  refine loop_as inn .str I ((hI _ _ _ _).mpr ⟨rfl, _, rfl, rfl⟩) ?_ ?_
  · intro i x xs e h hd hi hx q
    obtain ⟨rfl, v, rfl, q2⟩ := (hI _ _ _ _).mp q
    refine ⟨rfl, _, rfl, ?_⟩
    by_cases hm : x ∈ ms
    · simp [oi, on2, hm]
      exact ⟨x, List.mem_of_getElem? hx, hm⟩
    · simp [oi, on2, hm]
      rw [hI]
      exact ⟨rfl, _, rfl, by rw [q2]; simp [hm]⟩
  · intro e h q
    obtain ⟨rfl, v, rfl, q2⟩ := (hI _ _ _ _).mp q
    refine ⟨rfl, ?_⟩
    simp at q2
    simp
    exact q2
end
end K07
namespace K07
open PySem Det
/-! ### sums along a way -/
def gv (zs : List (Row × Int)) (x : Str) : Int := match zs.find? fun q => decide (q.1.1 = x) with
  | some q => q.2
  | none => 0
theorem gv_cons {q : Row × Int} {zs : List (Row × Int)} {x : Str} : gv (q :: zs) x = if q.1.1 = x then q.2 else gv zs x := by
  unfold gv
  rw [List.find?_cons]
  by_cases h : q.1.1 = x <;> simp [h]
theorem sum_in (x : Str) (ws : List Str) (hx : x ∉ ws) : ∀ zs : List (Row × Int), (zs.map (·.1.1)).Nodup → (zs.map fun q => if q.1.1 ∈ x :: ws then q.2 else 0).sum = gv zs x + (zs.map fun q => if q.1.1 ∈ ws then q.2 else 0).sum
  | [], _ => by simp [gv]
  | q :: zs, hn => by
    rw [List.map_cons, List.nodup_cons] at hn
    rw [List.map_cons, List.sum_cons, List.map_cons, List.sum_cons, gv_cons]
    by_cases h : q.1.1 = x
    · have h0 : ∀ z ∈ zs, z.1.1 ≠ x := fun z hz e => hn.1 (List.mem_map.mpr ⟨z, hz, by rw [e, h]⟩)
      have e1 : (zs.map fun q => if q.1.1 ∈ x :: ws then q.2 else 0) = zs.map fun q => if q.1.1 ∈ ws then q.2 else 0 := List.map_congr_left fun z hz => by simp [h0 z hz]
      rw [e1]
      simp [h, hx]
    · rw [sum_in x ws hx zs hn.2]
      simp [h]
      omega
theorem sum_way (zs : List (Row × Int)) (hn : (zs.map (·.1.1)).Nodup) : ∀ ws : List Str, ws.Nodup → (zs.map fun q => if q.1.1 ∈ ws then q.2 else 0).sum = (ws.map (gv zs)).sum
  | [], _ => by
    simp
    induction zs with
    | nil => rfl
    | cons q zs ih => simp at hn; simpa using ih (by simpa using hn.2)
  | x :: ws, h => by
    rw [List.nodup_cons] at h
    rw [sum_in x ws h.1 zs hn, sum_way zs hn ws h.2]; simp
theorem place_gv (x : Str) : ∀ (rs : List Row) (ds : List Int), rs.length = ds.length → ∀ i, plR rs x = some i → i < rs.length ∧ ds[i]? = some (gv (rs.zip ds) x)
  | [], [], _, i, h => by simp [plR] at h
  | l :: rs, d :: ds, hl, i, h => by
    unfold plR at h
    rw [List.findIdx?_cons] at h
    rw [List.zip_cons_cons, gv_cons]
    by_cases hx : l.1 = x
    · simp [hx] at h
      subst h
      simp [hx]
    · simp [hx] at h
      obtain ⟨j, hj, rfl⟩ := h
      have := place_gv x rs ds (by simpa using hl) j hj
      simp [hx, this]
      
theorem lk_pl {rs : List Row} {x : Str} : (lkR rs x).isSome = true → ∃ i, plR rs x = some i := by
  unfold lkR plR
  rw [Option.isSome_map, List.find?_isSome]
  rintro ⟨l, hl, h⟩
  cases hi : rs.findIdx? fun l => decide (l.1 = x) with
  | some i => exact ⟨i, rfl⟩
  | none =>
    rw [List.findIdx?_eq_none_iff] at hi
    have := hi l hl
    rw [h] at this; cases this
section
variable {mh : MH} {rs : List Row} {ms gs ns : List Str} {A B C : D} {Q : D → MH → Prop} {E : Exn → MH → Prop} {ws NS : List Str} {ds : List Int}
theorem reading_ok (w : Way rs ws NS) (hns : ns.length ≤ 500) (hd : rs.length = ds.length) : m_reading_of [.tup [.tup (ns.map .str), .tup (rs.map rowD), B, C], .tup (ws.map .str), .tup (ds.map .int)] mh = .ok (.int (ws.map (gv (rs.zip ds))).sum) mh := by
  have hz : (2000 : Nat) ≤ sizeLine := by decide
  refine ok_of_wp ?_
  unfold m_reading_of
  rw [wp_zF, wp_runF]
  generalize hN : D.tup [.tup (ns.map .str), .tup (rs.map rowD), B, C] = N
  simp
  subst hN
  refine places_wp w.hl hns w.hn fun k1 k2 hk => ?_
  generalize hN : D.tup [.tup (ns.map .str), .tup (rs.map rowD), B, C] = N
  simp
  refine lc_map2 (mh ++ [Ob.dk k1, Ob.dk k2]) ws .str (fun _ => true) (fun x => .int (gv (rs.zip ds) x)) (by simp) (by simp) (by have := w.hwl; omega) (fun _ => rfl) ?_ ?_
  · intro x hx acc
    refine ⟨_, rfl, by simp, fun _ => ?_⟩
    obtain ⟨i, hi⟩ := lk_pl ((go_nodup w.hg).2 x hx)
    obtain ⟨h1, h2⟩ := place_gv x rs ds hd i hi
    have hix : oIxX (.ref (mh.length + 1)) (.str x) (mh ++ Ob.dk k1 :: Ob.dk k2 :: [.lst acc]) = some (.int (i : Nat), mh ++ Ob.dk k1 :: Ob.dk k2 :: [.lst acc]) := ixX_dk (kds := k2) (by simp) (by rw [hk x, hi]; rfl)
    have hat : L2.atI (ds.map D.int) (i : Nat) = some (.int (gv (rs.zip ds) x)) := by rw [atI_nat, List.getElem?_map, h2]; rfl
    simp [wipeD]
    rw [hix]
    simp [hat]
  · have e0 : (ws.filter fun _ => true).map (fun x => D.int (gv (rs.zip ds) x)) = (ws.map (gv (rs.zip ds))).map D.int := by rw [List.filter_eq_self.mpr (by simp), List.map_map]; rfl
    rw [e0, fq_push]
    refine ⟨blws_int, ?_⟩
    rw [o_sum (ns := ws.map (gv (rs.zip ds))) (by simp [lstD])]
    simp
theorem yes_ok {b : Bool} : m__law_yes [.bl b, .bl b] mh = .ok (.bl true) mh := by
  refine ok_of_wp ?_
  unfold m__law_yes
  rw [wp_zF, wp_runF]
  cases b <;> simp [oIs, isD]
end
end K07
namespace K07
open PySem Det
section
variable {mh : MH} {rs : List Row} {ms gs ns : List Str} {Q : D → MH → Prop} {E : Exn → MH → Prop} {ws NS : List Str} {ds : List Int}
theorem good_way_ok (w : Way rs ws NS) (hns : ns.length ≤ 500) (hd : rs.length = ds.length) : m__law_good_way [netD ns rs ms gs, .tup (ws.map .str), .tup (ds.map .int)] mh = .ok (.bl true) mh := by
  have hz : (2000 : Nat) ≤ sizeLine := by decide
  have hrl := w.hl
  refine ok_of_wp ?_
  unfold m__law_good_way
  rw [wp_zF, wp_runF]
  have gN : netD ns rs ms gs = D.tup [.tup (ns.map .str), .tup (rs.map rowD), .tup (ms.map .str), .tup (gs.map .str)] := rfl
  have z1 := fun mh => law_route_ok (A := .tup (ns.map .str)) (ms := ms) (C := .tup (gs.map .str)) (mh := mh) w
  have z2 := fun mh => good_ok (A := .tup (ns.map .str)) (B := .tup (ms.map .str)) (C := .tup (gs.map .str)) (mh := mh) w.hl w.hn (th_way w)
  have z3 := fun mh => is_route_ok (A := .tup (ns.map .str)) (ms := ms) (C := .tup (gs.map .str)) (mh := mh) w
  have z4 := fun mh => is_probe_ok (A := .tup (ns.map .str)) (ms := ms) (gs := gs) (mh := mh) w
  have z5 := fun mh => is_short_ok (A := .tup (ns.map .str)) (ms := ms) (C := .tup (gs.map .str)) (mh := mh) w
  have z6 := fun mh => reading_ok (B := .tup (ms.map .str)) (C := .tup (gs.map .str)) (mh := mh) w hns hd
  have z0 := fun (mh : MH) (Q : D → MH → Prop) (E : Exn → MH → Prop) => steps_wp (A := .tup (ns.map .str)) (B := .tup (ms.map .str)) (C := .tup (gs.map .str)) (mh := mh) (Q := Q) (E := E) w.hl (th_way w)
  have on1 : ∀ h, oIx (netD ns rs ms gs) (.int 1) h = some (.tup (rs.map rowD), h) := fun h => by rw [gN]; simp [oIx, itemsD]
  have on2 : ∀ h, oIx (netD ns rs ms gs) (.int 2) h = some (.tup (ms.map .str), h) := fun h => by rw [gN]; simp [oIx, itemsD]
  have on3 : ∀ h, oIx (netD ns rs ms gs) (.int 3) h = some (.tup (gs.map .str), h) := fun h => by rw [gN]; simp [oIx, itemsD]
  rw [← gN] at z1 z2 z3 z4 z5 z6 z0
  generalize netD ns rs ms gs = N at z1 z2 z3 z4 z5 z6 z0 on1 on2 on3 ⊢
  obtain ⟨J, hJ⟩ : ∃ J : D → Option D → Option D → Nv → MH → Prop, ∀ v3 v4 v5 e h, J v3 v4 v5 e h ↔ ∃ (g : MH) (v9 : Option D), h = mh ++ g ∧ (∃ j, v3 = .ref j ∧ mh.length ≤ j ∧ h[j]? = some (.lst (NS.map .str))) ∧ e = [some N, some (.tup (ws.map .str)), some (.tup (ds.map .int)), some v3, v4, v5, none, none, none, v9] := ⟨_, fun _ _ _ _ _ => Iff.rfl⟩
  show (sq _ _ [some N, some (.tup (ws.map .str)), some (.tup (ds.map .int)), none, none, none, none, none, none, none] mh).wp _
  refine seq_cut (fun e h => ∃ v3, J v3 none none e h) ?_ ?_
  · simp
    refine z0 _ _ _ fun x h q => ?_
    rw [flt_way w] at q
    obtain ⟨g, k, rfl, rfl, hk, j, hj, q1, q2⟩ := q
    simp [q1]
    exact ⟨.ref j, (hJ _ _ _ _ _).mpr ⟨g, none, rfl, ⟨j, rfl, hj, q2⟩, rfl⟩⟩
  rintro e h ⟨v3, hj⟩
  obtain ⟨g, v9, rfl, ⟨j, rfl, hj1, hj2⟩, rfl⟩ := (hJ _ _ _ _ _).mp hj
  generalize hb : rtB ms NS = b at z1 z3 z4
  refine seq_cut (J (.ref j) (some (.bl b)) none) ?_ ?_
  · simp [z1]
    exact (hJ _ _ _ _ _).mpr ⟨g, v9, rfl, ⟨j, rfl, hj1, hj2⟩, rfl⟩
  intro e h hj
  obtain ⟨g, v9, rfl, ⟨_, e3, hj1, hj2⟩, rfl⟩ := (hJ _ _ _ _ _).mp hj
  cases e3
  refine seq_cut (J (.ref j) (some (.bl b)) none) ?_ ?_
  · simp [z2, z3, yes_ok]
    exact (hJ _ _ _ _ _).mpr ⟨g, v9, rfl, ⟨j, rfl, hj1, hj2⟩, rfl⟩
  intro e h hj
  obtain ⟨g, v9, rfl, ⟨_, e3, hj1, hj2⟩, rfl⟩ := (hJ _ _ _ _ _).mp hj
  cases e3
  refine seq_cut (J (.ref j) (some (.bl b)) none) ?_ ?_
  · have oi : ∀ (x : Str) (h : MH), oIn (.str x) (.tup (gs.map .str)) h = some (.bl (decide (x ∈ gs)), h) := fun x h => o_in_s (l := gs) rfl
    have fin : ∀ v9, J (.ref j) (some (.bl b)) none [some N, some (.tup (ws.map .str)), some (.tup (ds.map .int)), some (.ref j), some (.bl b), none, none, none, none, v9] (mh ++ g) := fun v9 => (hJ _ _ _ _ _).mpr ⟨g, v9, rfl, ⟨j, rfl, hj1, hj2⟩, rfl⟩
    have y1 := fun (t : Bool) (h : MH) => yes_ok (b := t) (mh := h)
    cases b with
    | true =>
      simp [z4, y1]
      exact fin _
    | false =>
      rcases ws with _ | ⟨x, _ | ⟨y, xs⟩⟩
      · exact absurd rfl w.hw
      ·
        simp only [List.map_cons, List.map_nil] at z4 fin
        by_cases hx : x ∈ gs
        · simp [z4, on3, oi, hx, y1]
          exact fin _
        · simp [z4, on3, oi, hx, y1]
          exact fin _
      · 
        have h1 : ¬ ((xs.length : Int) + 1 + 1 = 1) := by omega
        simp only [List.map_cons, List.map_nil] at z4 fin
        have h2 : (((xs.length : Int) + 1 + 1) == 1) = false := by simp; omega
        simp [z4, h1, h2, y1]
        exact fin _
  intro e h hj
  obtain ⟨g, v9, rfl, ⟨_, e3, hj1, hj2⟩, rfl⟩ := (hJ _ _ _ _ _).mp hj
  cases e3
  refine seq_cut (fun e h => ∃ v5, J (.ref j) (some (.bl b)) v5 e h) ?_ ?_
  · cases b with
    | false =>
      simp
      exact ⟨none, (hJ _ _ _ _ _).mpr ⟨g, v9, rfl, ⟨j, rfl, hj1, hj2⟩, rfl⟩⟩
    | true =>
      have hc : cutD (NS.map .str) (some 1) (some ((NS.length : Int) - 1)) = ((NS.drop 1).take (NS.length - 2)).map .str := by
        rw [cut_mid2 (by simpa using w.two) (by simp), List.length_map, ← List.map_drop, ← List.map_take]
      have oi : ∀ (x : Str) (h : MH), oIn (.str x) (.tup (ms.map .str)) h = some (.bl (decide (x ∈ ms)), h) := fun x h => o_in_s (l := ms) rfl
      have hlen : ((NS.drop 1).take (NS.length - 2)).length ≤ 2000 := by
        have := w.len
        have := w.hwl
        rw [List.length_take, List.length_drop]; omega
      generalize (NS.drop 1).take (NS.length - 2) = inn at hc hlen z5
      have hsl : oSl (.ref j) (some 1) (some ((NS.length : Int) - 1)) (mh ++ g) = some (.ref (mh ++ g).length, (mh ++ g) ++ [.lst (inn.map .str)]) := by
        simp [oSl, itemsD, hj2, hc]
      simp [hj2]
      rw [hsl, owp_some]
      refine ⟨_, itD_ref (xs := inn.map .str) (by simp), ?_⟩
      refine lc_map2 ((mh ++ g) ++ [.lst (inn.map .str)]) inn .str (fun x => decide (x ∈ ms)) .str (by simp) (by simp) (by omega) (fun acc => lstIs_of (by simp)) ?_ ?_
      · intro x hx acc
        refine ⟨_, rfl, ?_, fun _ => by simp [wipeD]⟩
        simp [wipeD, on2, oi]
      · rw [fq_new (xs := (inn.filter fun x => decide (x ∈ ms)).map .str) (by simp) (by simp)]
        refine ⟨blws_str, by rw [List.append_assoc]; exact Kept.add, ?_⟩
        have ht : List.take (mh ++ g).length ((mh ++ g) ++ [Ob.lst (inn.map .str)] ++ [.lst ((inn.filter fun x => decide (x ∈ ms)).map .str)]) = mh ++ g := by
          rw [List.append_assoc, List.take_left']; rfl
        rw [ht]
        have hbb : (((inn.filter fun x => decide (x ∈ ms)).length : Int) == 0) = inn.all fun x => decide (x ∉ ms) := by
          cases hall : inn.all fun x => decide (x ∉ ms) with
          | true =>
            rw [List.all_eq_true] at hall
            have : inn.filter (fun x => decide (x ∈ ms)) = [] := List.filter_eq_nil_iff.mpr fun x hx => by have := hall x hx; simpa using this
            rw [this]; rfl
          | false =>
            rw [List.all_eq_false] at hall
            obtain ⟨x, hx, hm⟩ := hall
            have : x ∈ inn.filter (fun x => decide (x ∈ ms)) := List.mem_filter.mpr ⟨hx, by simpa using hm⟩
            have h0 := List.length_pos_of_mem this
            exact beq_eq_false_iff_ne.mpr (by omega)
        simp [z5]
        rw [hbb]
        simp [yes_ok]
        exact ⟨_, (hJ _ _ _ _ _).mpr ⟨g, v9, rfl, ⟨j, rfl, hj1, hj2⟩, rfl⟩⟩
  rintro e h ⟨v5, hj⟩
  obtain ⟨g, v9, rfl, ⟨_, e3, hj1, hj2⟩, rfl⟩ := (hJ _ _ _ _ _).mp hj
  cases e3
  simp [on1]
  refine ⟨okB_of (by omega) (by omega), ?_⟩
  have hzl : (rs.zip ds).length = rs.length := by rw [List.length_zip]; omega
  have hsum := sum_way (rs.zip ds) (by
    have : (rs.zip ds).map (·.1.1) = rs.map (·.1) := by
      have := congrArg (List.map Prod.fst) (List.map_fst_zip (l₁ := rs) (l₂ := ds) (by omega))
      rw [List.map_map] at this
      exact this
    rw [this]; exact w.hn) ws (go_nodup w.hg).1
  obtain ⟨I, hI⟩ : ∃ I : Nat → List (Row × Int) → Nv → MH → Prop, ∀ i xs e h, I i xs e h ↔ h = mh ++ g ∧ ∃ (acc : Int) (v7 : Option D), e = [some N, some (.tup (ws.map .str)), some (.tup (ds.map .int)), some (.ref j), some (.bl b), v5, some (.int acc), v7, none, v9] ∧ acc + (xs.map fun q => if q.1.1 ∈ ws then q.2 else 0).sum = (ws.map (gv (rs.zip ds))).sum := ⟨_, fun _ _ _ _ => Iff.rfl⟩
  refine loop_rg (rs.zip ds) hzl.symm I ((hI _ _ _ _).mpr ⟨rfl, 0, none, rfl, by rw [hsum]; omega⟩) ?_ ?_
  · intro i q xs e h hd hi hx qq
    obtain ⟨rfl, acc, v7, rfl, hacc⟩ := (hI _ _ _ _).mp qq
    refine ⟨rfl, _, rfl, ?_⟩
    obtain ⟨r, d⟩ := q
    have hr : rs[i]? = some r ∧ ds[i]? = some d := by
      rw [List.getElem?_zip_eq_some] at hx; exact hx
    have h1 : L2.atI (rs.map rowD) (i : Nat) = some (rowD r) := by rw [atI_nat, List.getElem?_map, hr.1]; rfl
    have h2 : L2.atI (ds.map D.int) (i : Nat) = some (.int d) := by rw [atI_nat, List.getElem?_map, hr.2]; rfl
    have oi : ∀ (x : Str) (h : MH), oIn (.str x) (.tup (ws.map .str)) h = some (.bl (decide (x ∈ ws)), h) := fun x h => o_in_s (l := ws) rfl
    have x0 : ∀ (h : MH), oIx (rowD r) (.int 0) h = some (.str r.1, h) := fun h => by simp [rowD, oIx, itemsD]
    rw [List.map_cons, List.sum_cons] at hacc
    by_cases hm : r.1 ∈ ws
    · simp [on1, h1, h2, x0, oi, hm]
      rw [hI]
      exact ⟨rfl, _, _, rfl, by simp [hm] at hacc; omega⟩
    · simp [on1, h1, h2, x0, oi, hm]
      rw [hI]
      exact ⟨rfl, _, _, rfl, by simp [hm] at hacc; omega⟩
  · intro e h qq
    obtain ⟨rfl, acc, v7, rfl, hacc⟩ := (hI _ _ _ _).mp qq
    refine ⟨rfl, ?_⟩
    simp at hacc
    simp [z6, hacc]
end
end K07
namespace K07
open PySem Det
theorem some_lc {α : Type} {p : Pl} {loc : MH} {Q : D → MH → Prop} {E : Exn → MH → Prop} {chk : MH → Bool} {pat : Pat} {env : Nv} {f : ME} {many : Int} {n : Nat} {m0 : MH} (hn : n = loc.length + 1) (hm0 : m0 = p.ob :: (loc ++ [.lst []])) (as : List α) (g : α → D) (out : α → D) (h1 : 0 < many) (h2 : many < 1000000000) (hl : as.length ≤ 1000)
    (hchk : ∀ (p' : Pl) acc, chk (p'.ob :: (loc ++ [.lst acc])) = true) (hs : ∀ a ∈ as, ∃ e, setP pat (g a) env = some e ∧ e[0]? = some (some (.ref 0)) ∧ ∀ mh, (f e mh).wp (fun y h => h = mh ∧ y = out a) (fun _ _ => False))
    (hb : ∀ a ∈ as, D.blw (loc.length + 1) (out a) = true) (hd : ∀ (bs : List α) p', bs.Sublist as → Q (.rol (bs.map out)) (Pl.ob p' :: loc)) :
    (loopC n chk pat (tb (bi oEq (cal 2 m__law_pick (acons (vr 0) (acons (kn (.int many)) anil))) (kn (.int 0)))) f env (as.map g) m0).wp (FQ (p.ob :: loc) Q) E := by
  have hz : (1000 : Nat) ≤ sizeLine := by decide
  subst hn; subst hm0
  obtain ⟨I, hI⟩ : ∃ I : Nat → List D → MH → Prop, ∀ i acc h, I i acc h ↔ ∃ (p' : Pl) (bs : List α), h = p'.ob :: (loc ++ [.lst acc]) ∧ acc = bs.map out ∧ bs.Sublist (as.take i) := ⟨_, fun _ _ _ => Iff.rfl⟩
  refine comp_wp I [] (by simp) ((hI _ _ _).mpr ⟨p, [], rfl, rfl, by simp⟩) ?_ ?_ ?_
  · intro i acc h hi
    obtain ⟨p', bs, rfl, rfl, _⟩ := (hI _ _ _).mp hi
    simp
  · intro i d acc h hd hi
    obtain ⟨p', bs, rfl, rfl, hsub⟩ := (hI _ _ _).mp hi
    obtain ⟨a, ha, rfl⟩ : ∃ w, as[i]? = some w ∧ g w = d := by
      rw [List.getElem?_map] at hd
      cases hx : as[i]? with
      | none => rw [hx] at hd; cases hd
      | some w => rw [hx] at hd; exact ⟨w, rfl, Option.some.inj hd⟩
    obtain ⟨e, e1, e2, e3⟩ := hs a (List.mem_of_getElem? ha)
    have tk : as.take (i + 1) = as.take i ++ [a] := by rw [List.take_add_one, ha]; rfl
    have il := (List.getElem?_eq_some_iff.mp ha).1
    have bl := hsub.length_le
    rw [List.length_take] at bl
    refine ⟨hchk _ _, e, e1, ?_⟩
    rw [wp_tb, wp_bi, wp_cal, wp_acons, wp_vr]
    refine ⟨_, e2, ?_⟩
    rw [wp_acons, wp_kn, wp_anil]
    refine ⟨rfl, ?_⟩
    refine pick_ok h1 h2 fun r p2 r0 r1 => ?_
    rw [wp_kn, o_eq_i, owp_some]
    refine ⟨_, rfl, fun hb => ?_, fun hb => ?_⟩
    · refine Res.wp_mono (e3 _) (fun y h q => ?_) fun _ _ q => q
      obtain ⟨rfl, rfl⟩ := q
      refine ⟨by simp, by simp; omega, ?_⟩
      rw [hI]
      refine ⟨p2, bs ++ [a], by simp, by simp, ?_⟩
      rw [tk]
      exact hsub.append (List.Sublist.refl _)
    · rw [hI]
      refine ⟨p2, bs, rfl, rfl, ?_⟩
      rw [tk]
      exact hsub.trans (List.sublist_append_left _ _)
  · intro acc h hi
    obtain ⟨p', bs, rfl, rfl, hsub⟩ := (hI _ _ _).mp hi
    refine ⟨hchk _ _, ?_⟩
    rw [List.length_map, List.take_length] at hsub
    refine fq_pl_lst (g := []) (blws_map fun a ha => hb a (hsub.subset ha)) (hd bs p' hsub)

theorem set_end {p : Pl} {L : MH} {o u : Ob} : (p.ob :: (L ++ [o])).set (L.length + 1) u = p.ob :: (L ++ [u]) := by simp
theorem isS_all (xs : List Str) : D.blws n (xs.map .str) = true := blws_str
/-- rows made of names and pairs -/
def mkR (q : Str × (Str × Str)) : Row := (q.1, mnS q.2.1 q.2.2, mxS q.2.1 q.2.2)
theorem net_ok {p : Pl} {loc : MH} {many count : Nat} {chain : Bool} {Q : D → MH → Prop} {E : Exn → MH → Prop} (hm : 2 ≤ many) (hm2 : many ≤ 30) (hc : 1 ≤ count) (hc2 : count ≤ 60)
    (hq : ∀ (nodes names ms gs : List Str) (es : List (Str × Str)) p', nodes.Nodup → nodes.length = many → (∀ x ∈ nodes, x.length ≤ 30) → names.Nodup → names.length = es.length → (∀ x ∈ names, x.length ≤ 30) → 1 ≤ es.length → es.length ≤ 60 → (count = 60 → es.length = 60) →
      (chain = true → ∀ i a b, i + 1 < many → nodes[i]? = some a → nodes[i + 1]? = some b → es[i]? = some (a, b)) → ms.length ≤ 60 → gs.length ≤ 60 →
      Q (.rol [netD (isort leS nodes) (isort leR ((names.zip es).map mkR)) ms gs, .rol (names.map .str), .rol (nodes.map .str)]) (Pl.ob p' :: loc)) :
    (m__law_net [.ref 0, .int (many : Nat), .int (count : Nat), .bl chain] (p.ob :: loc)).wp Q E := by
  have hz : (1000 : Nat) ≤ sizeLine := by decide
  have z2 : (2 : Nat) ≤ sizeLine := by decide
  have z3 : (3 : Nat) ≤ sizeLine := by decide
  have z4 : (4 : Nat) ≤ sizeLine := by decide
  unfold m__law_net
  rw [wp_zF, wp_runF]
  show (sq _ _ [some (.ref 0), some (.int (many : Nat)), some (.int (count : Nat)), some (.bl chain), none, none, none, none, none, none, none, none, none, none, none, none] (p.ob :: loc)).wp _
  refine seq_cut (fun e h => ∃ (p' : Pl) (nodes : List Str), h = p'.ob :: loc ∧ e = [some (.ref 0), some (.int (many : Nat)), some (.int (count : Nat)), some (.bl chain), some (.rol (nodes.map .str)), none, none, none, none, none, none, none, none, none, none, none] ∧ nodes.Nodup ∧ nodes.length = many ∧ ∀ x ∈ nodes, x.length ≤ 30) ?_ ?_
  · rw [wp_sst, wp_cal, wp_acons, wp_vr]
    refine ⟨_, rfl, ?_⟩
    rw [wp_acons, wp_vr]
    refine ⟨_, rfl, ?_⟩
    rw [wp_anil]
    exact ⟨rfl, words_ok (by omega) fun ws p' h1 h2 h3 => ⟨p', ws, rfl, rfl, h1, h2, h3⟩⟩
  rintro e h ⟨p1, nodes, rfl, rfl, nd, nl, nsh⟩
  -- the pairs
  let PE (es : List (Str × Str)) : Prop := (∀ q ∈ es, q.1 ∈ nodes ∧ q.2 ∈ nodes) ∧ (chain = true → ∀ i a b, i + 1 < many → nodes[i]? = some a → nodes[i + 1]? = some b → es[i]? = some (a, b))
  obtain ⟨J, hJ⟩ : ∃ J : Nat → Nv → MH → Prop, ∀ n e h, J n e h ↔ ∃ (p' : Pl) (g : MH) (es : List (Str × Str)) (v6 v7 v8 : Option D), h = p'.ob :: ((loc ++ g) ++ [.lst (es.map pD)]) ∧ e = [some (.ref 0), some (.int (many : Nat)), some (.int (count : Nat)), some (.bl chain), some (.rol (nodes.map .str)), some (.ref ((loc ++ g).length + 1)), v6, v7, v8, none, none, none, none, none, none, none] ∧ es.length = n ∧ PE es := ⟨_, fun _ _ _ => Iff.rfl⟩
  have ixn : ∀ (i : Nat) (a : Str) (h : MH), nodes[i]? = some a → oIx (.rol (nodes.map .str)) (.int (i : Nat)) h = some (.str a, h) := fun i a h e => by
    have : L2.atI (nodes.map D.str) (i : Nat) = some (.str a) := by rw [atI_nat, List.getElem?_map, e]; rfl
    simp [oIx, itemsD, this]
  refine seq_cut (fun e h => e = [some (.ref 0), some (.int (many : Nat)), some (.int (count : Nat)), some (.bl chain), some (.rol (nodes.map .str)), some (.ref (loc.length + 1)), none, none, none, none, none, none, none, none, none, none] ∧ p1.ob :: (loc ++ [Ob.lst []]) = h) (by simp) ?_
  rintro e h ⟨rfl, rfl⟩
  refine seq_cut (J (if chain = true then many - 1 else 0)) ?_ ?_
  · cases chain with
    | false =>
      simp
      rw [hJ]
      exact ⟨p1, [], [], none, none, none, by simp, by simp, rfl, by simp, fun z => by cases z⟩
    | true =>
      simp
      refine ⟨okB_of (by omega) (by omega), ?_⟩
      have erg : rgD 0 (many - 1) = (List.range (many - 1)).map fun i : Nat => D.int (i : Nat) := by simp [rgD]
      rw [erg]
      refine lc_map2 (p1.ob :: (loc ++ [Ob.lst []])) (List.range (many - 1)) (fun i : Nat => D.int (i : Nat)) (fun _ => true) (fun i => pD (nodes.getD i "", nodes.getD (i + 1) "")) (by simp) (by simp) (by simp; omega) (fun _ => rfl) ?_ ?_
      · intro i hi acc
        have hi : i < many - 1 := List.mem_range.mp hi
        refine ⟨_, rfl, by simp, fun _ => ?_⟩
        have h1 : nodes[i]? = some (nodes.getD i "") := by
          rw [List.getD_eq_getElem?_getD, List.getElem?_eq_getElem (by omega)]; rfl
        have h2 : nodes[i + 1]? = some (nodes.getD (i + 1) "") := by
          rw [List.getD_eq_getElem?_getD, List.getElem?_eq_getElem (by omega)]; rfl
        have h1' := fun h => ixn i _ h h1
        have h2' := fun h => ixn (i + 1) _ h h2
        simp only [Int.natCast_add, Int.cast_ofNat_Int] at h2'
        simp [wipeD, h1', h2', z2, pD]
      · rw [hJ]
        refine ⟨p1, [.lst []], (List.range (many - 1)).map fun i => (nodes.getD i "", nodes.getD (i + 1) ""), none, none, none, ?_, by simp, by simp, ?_, ?_⟩
        · rw [List.filter_eq_self.mpr (by simp), List.map_map]; simp
        · intro q hq
          obtain ⟨i, hi, rfl⟩ := List.mem_map.mp hq
          have hi : i < many - 1 := List.mem_range.mp hi
          have h1 : i < nodes.length := by omega
          have h2 : i + 1 < nodes.length := by omega
          simp only [List.getD_eq_getElem?_getD, List.getElem?_eq_getElem h1, List.getElem?_eq_getElem h2, Option.getD_some]
          exact ⟨List.getElem_mem _, List.getElem_mem _⟩
        · intro _ i a b hi h1 h2
          rw [List.getElem?_map, List.getElem?_range (by omega)]
          simp [List.getD_eq_getElem?_getD, h1, h2]
  intro e h hj
  have hN0 : (if chain = true then many - 1 else 0) ≤ 29 := by split <;> omega
  generalize hn0 : (if chain = true then many - 1 else 0) = n0 at hj hN0
  obtain ⟨p2, g, es, v6, v7, v8, rfl, rfl, hes, hpe⟩ := (hJ _ _ _).mp hj
  clear hj
  have hk : ((count : Int) - (n0 : Int)).toNat = count - n0 := by omega
  have glen : ∀ (p' : Pl) (o : Ob), (p'.ob :: ((loc ++ g) ++ [o]))[(loc ++ g).length + 1]? = some o := fun p' o => by simp [← List.append_assoc]
  generalize hL : loc ++ g = L at glen
  obtain ⟨J2, hJ2⟩ : ∃ J : Nat → Nv → MH → Prop, ∀ n e h, J n e h ↔ ∃ (p' : Pl) (es : List (Str × Str)) (v6 v7 v8 : Option D), h = p'.ob :: (L ++ [.lst (es.map pD)]) ∧ e = [some (.ref 0), some (.int (many : Nat)), some (.int (count : Nat)), some (.bl chain), some (.rol (nodes.map .str)), some (.ref (L.length + 1)), v6, v7, v8, none, none, none, none, none, none, none] ∧ es.length = n ∧ PE es := ⟨_, fun _ _ _ => Iff.rfl⟩
  refine seq_cut (J2 (n0 + (count - n0))) ?_ ?_
  · rw [wp_sfor, wp_range1, wp_bi, wp_vr]
    refine ⟨_, rfl, ?_⟩
    rw [wp_ap, wp_acons, wp_vr]
    refine ⟨_, rfl, ?_⟩
    rw [wp_anil, len_ref]
    refine .inl ⟨_, glen _ _, ?_⟩
    rw [List.length_map, hes, o_sub_i, owp_some]
    refine ⟨_, rfl, okB_of (by omega) (by omega), ?_⟩
    rw [hk]
    refine loop_n (fun i => J2 (n0 + i)) ((hJ2 _ _ _).mpr ⟨p2, es, v6, v7, v8, rfl, rfl, hes, hpe⟩) ?_ (fun e h q => ⟨rfl, q⟩)
    intro i e h hi hj
    obtain ⟨p3, es, v6, v7, v8, rfl, rfl, hes, hpe⟩ := (hJ2 _ _ _).mp hj
    refine ⟨rfl, _, rfl, ?_⟩
    obtain ⟨J3, hJ3⟩ : ∃ J : Nv → MH → Prop, ∀ e h, J e h ↔ ∃ (p' : Pl) (a b : Nat), h = p'.ob :: (L ++ [.lst (es.map pD)]) ∧ e = [some (.ref 0), some (.int (many : Nat)), some (.int (count : Nat)), some (.bl chain), some (.rol (nodes.map .str)), some (.ref (L.length + 1)), some (.int (i : Nat)), some (.int (a : Nat)), some (.int (b : Nat)), none, none, none, none, none, none, none] ∧ a < many ∧ b < many := ⟨_, fun _ _ => Iff.rfl⟩
    have fin : ∀ (p' : Pl) (q : Str × Str) v7 v8, q.1 ∈ nodes → q.2 ∈ nodes → J2 (n0 + (i + 1)) [some (.ref 0), some (.int (many : Nat)), some (.int (count : Nat)), some (.bl chain), some (.rol (nodes.map .str)), some (.ref (L.length + 1)), some (.int (i : Nat)), v7, v8, none, none, none, none, none, none, none] (p'.ob :: (L ++ [.lst (es.map pD ++ [pD q])])) := fun p' q v7 v8 h1 h2 => by
      rw [hJ2]
      refine ⟨p', es ++ [q], _, _, _, by simp, rfl, by simp; omega, fun x hx => ?_, fun hc i a b h3 h4 h5 => ?_⟩
      · rcases List.mem_append.mp hx with hx | hx
        · exact hpe.1 x hx
        · rw [List.mem_singleton.mp hx]; exact ⟨h1, h2⟩
      · have := hpe.2 hc i a b h3 h4 h5
        rw [List.getElem?_append_left (List.getElem?_eq_some_iff.mp this).1]; exact this
    refine seq_cut (fun e h => ∃ (p' : Pl) (a : Nat), h = p'.ob :: (L ++ [.lst (es.map pD)]) ∧ e = [some (.ref 0), some (.int (many : Nat)), some (.int (count : Nat)), some (.bl chain), some (.rol (nodes.map .str)), some (.ref (L.length + 1)), some (.int (i : Nat)), some (.int (a : Nat)), v8, none, none, none, none, none, none, none] ∧ a < many) ?_ ?_
    · rw [wp_sst, wp_cal, wp_acons, wp_vr]
      refine ⟨_, rfl, ?_⟩
      rw [wp_acons, wp_vr]
      refine ⟨_, rfl, ?_⟩
      rw [wp_anil]
      refine ⟨rfl, pick_ok (by omega) (by omega) fun r p4 r0 r1 => ?_⟩
      obtain ⟨a, rfl⟩ := Int.eq_ofNat_of_zero_le r0
      exact ⟨p4, a, rfl, rfl, by omega⟩
    rintro e h ⟨p4, a, rfl, rfl, ha⟩
    refine seq_cut (fun e h => ∃ (p' : Pl) (b : Nat), h = p'.ob :: (L ++ [.lst (es.map pD)]) ∧ e = [some (.ref 0), some (.int (many : Nat)), some (.int (count : Nat)), some (.bl chain), some (.rol (nodes.map .str)), some (.ref (L.length + 1)), some (.int (i : Nat)), some (.int (a : Nat)), some (.int (b : Nat)), none, none, none, none, none, none, none] ∧ b + 1 < many) ?_ ?_
    · rw [wp_sst, wp_cal, wp_acons, wp_vr]
      refine ⟨_, rfl, ?_⟩
      rw [wp_acons, wp_bi, wp_vr]
      refine ⟨_, rfl, ?_⟩
      rw [wp_kn, o_sub_i, owp_some, wp_anil]
      refine ⟨rfl, pick_ok (by omega) (by omega) fun r p4 r0 r1 => ?_⟩
      obtain ⟨b, rfl⟩ := Int.eq_ofNat_of_zero_le r0
      exact ⟨p4, b, rfl, rfl, by omega⟩
    rintro e h ⟨p5, b, rfl, rfl, hb⟩
    refine seq_cut J3 ?_ ?_
    · simp
      by_cases hab : a ≤ b
      · refine .inr ⟨by omega, ?_⟩
        rw [hJ3]
        exact ⟨p5, a, b + 1, by simp, by simp, ha, hb⟩
      · refine .inl ⟨by omega, ?_⟩
        rw [hJ3]
        exact ⟨p5, a, b, by simp, by simp, ha, by omega⟩
    intro e h hj3
    obtain ⟨p6, a, b, rfl, rfl, ha, hb⟩ := (hJ3 _ _).mp hj3
    have ha2 : a < nodes.length := by omega
    have hb2 : b < nodes.length := by omega
    have xa := fun h => ixn a nodes[a] h (by simp [ha2])
    have xb := fun h => ixn b nodes[b] h (by simp [hb2])
    have elen : es.length < sizeLine := by omega
    have new : ∀ p' : Pl, (drp (app (vr 5) (dtup (acons (bi oIx (vr 4) (vr 7)) (acons (bi oIx (vr 4) (vr 8)) (anil))))) [some (.ref 0), some (.int (many : Nat)), some (.int (count : Nat)), some (.bl chain), some (.rol (nodes.map .str)), some (.ref (L.length + 1)), some (.int (i : Nat)), some (.int (a : Nat)), some (.int (b : Nat)), none, none, none, none, none, none, none] (p'.ob :: (L ++ [.lst (es.map pD)]))).wp { nx := J2 (n0 + (i + 1)), ct := J2 (n0 + (i + 1)), bk := fun _ _ => False, rt := fun _ _ => False, ex := fun _ _ _ => False } := fun p' => by
      simp [xa, xb, z2, elen]
      exact fin p' (nodes[a], nodes[b]) _ _ (List.getElem_mem _) (List.getElem_mem _)
    rw [wp_sif, wp_tand, wp_tb, wp_bi, wp_ap, wp_acons, wp_vr]
    refine ⟨_, rfl, ?_⟩
    rw [wp_anil, len_ref]
    refine .inl ⟨_, glen _ _, ?_⟩
    rw [wp_kn, o_gt_i, owp_some, List.length_map]
    refine ⟨_, rfl, fun hpos => ?_, fun _ => ⟨fun z => (by cases z), fun _ => SRes.wp_mono (new p6) (fun _ _ q => q) (fun _ _ q => q.elim) (fun _ _ q => q.elim) (fun _ _ q => q) fun _ _ _ q => q.elim⟩⟩
    have hpos : 0 < es.length := by simpa using hpos
    rw [wp_tb, wp_bi, wp_cal, wp_acons, wp_vr]
    refine ⟨_, rfl, ?_⟩
    rw [wp_acons, wp_kn, wp_anil]
    refine ⟨rfl, pick_ok (by omega) (by omega) fun r p7 r0 r1 => ?_⟩
    rw [wp_kn, o_eq_i, owp_some]
    refine ⟨_, rfl, fun _ => ?_, fun _ => SRes.wp_mono (new p7) (fun _ _ q => q) (fun _ _ q => q.elim) (fun _ _ q => q.elim) (fun _ _ q => q) fun _ _ _ q => q.elim⟩
    simp
    refine pick_ok (by omega) (by omega) fun r p8 r0 r1 => ?_
    obtain ⟨c, rfl⟩ := Int.eq_ofNat_of_zero_le r0
    have hc2 : c < es.length := by omega
    have hat : L2.atI (es.map pD) (c : Nat) = some (pD es[c]) := by rw [atI_nat, List.getElem?_map, List.getElem?_eq_getElem hc2]; rfl
    simp [hat, elen]
    exact fin p8 es[c] _ _ (hpe.1 _ (List.getElem_mem _)).1 (hpe.1 _ (List.getElem_mem _)).2
  clear hpe hes es p2 v6 v7 v8
  intro e h hj
  obtain ⟨p2, es, v6, v7, v8, rfl, rfl, hes, hpe⟩ := (hJ2 _ _ _).mp hj
  clear hj hJ hJ2 J J2
  have el1 : 1 ≤ es.length := by omega
  have el2 : es.length ≤ 60 := by omega
  refine seq_cut (fun e h => ∃ (p' : Pl) (names : List Str), h = p'.ob :: (L ++ [.lst (es.map pD)]) ∧ e = [some (.ref 0), some (.int (many : Nat)), some (.int (count : Nat)), some (.bl chain), some (.rol (nodes.map .str)), some (.ref (L.length + 1)), v6, v7, v8, some (.rol (names.map .str)), none, none, none, none, none, none] ∧ names.Nodup ∧ names.length = es.length ∧ ∀ x ∈ names, x.length ≤ 30) ?_ ?_
  · rw [wp_sst, wp_cal, wp_acons, wp_vr]
    refine ⟨_, rfl, ?_⟩
    rw [wp_acons, wp_ap, wp_acons, wp_vr]
    refine ⟨_, rfl, ?_⟩
    rw [wp_anil, len_ref]
    refine .inl ⟨_, glen _ _, ?_⟩
    rw [wp_anil, List.length_map]
    refine ⟨rfl, ?_⟩
    refine words_ok (m := es.length) (p := p2) (loc := L ++ [Ob.lst (es.map pD)]) el2 ?_
    intro ws p' h1 h2 h3
    exact ⟨p', ws, rfl, rfl, h1, h2, h3⟩
  rintro e h ⟨p3, names, rfl, rfl, hnd, hnl, hnsh⟩
  refine seq_cut (fun e h => e = [some (.ref 0), some (.int (many : Nat)), some (.int (count : Nat)), some (.bl chain), some (.rol (nodes.map .str)), some (.ref (L.length + 1)), v6, v7, v8, some (.rol (names.map .str)), some (.ref (L.length + 2)), none, none, none, none, none] ∧ h = p3.ob :: (L ++ [.lst (es.map pD), .lst []])) (by simp) ?_
  rintro e h ⟨rfl, rfl⟩
  have g1 : ∀ (p' : Pl) (o : Ob), (p'.ob :: (L ++ [Ob.lst (es.map pD), o]))[L.length + 1]? = some (.lst (es.map pD)) := fun p' o => by simp
  have g2 : ∀ (p' : Pl) (o : Ob), (p'.ob :: (L ++ [Ob.lst (es.map pD), o]))[L.length + 2]? = some o := fun p' o => by simp
  have s2 : ∀ (p' : Pl) (o u : Ob), (p'.ob :: (L ++ [Ob.lst (es.map pD), o])).set (L.length + 2) u = p'.ob :: (L ++ [Ob.lst (es.map pD), u]) := fun p' o u => by simp
  have zl : (names.zip es).length = es.length := by rw [List.length_zip]; omega
  obtain ⟨J, hJ⟩ : ∃ J : Nv → MH → Prop, ∀ e h, J e h ↔ ∃ (p' : Pl) (v11 : Option D), h = p'.ob :: (L ++ [.lst (es.map pD), .lst (((names.zip es).map mkR).map rowD)]) ∧ e = [some (.ref 0), some (.int (many : Nat)), some (.int (count : Nat)), some (.bl chain), some (.rol (nodes.map .str)), some (.ref (L.length + 1)), v6, v7, v8, some (.rol (names.map .str)), some (.ref (L.length + 2)), v11, none, none, none, none] := ⟨_, fun _ _ => Iff.rfl⟩
  refine seq_cut J ?_ ?_
  · rw [wp_sfor, wp_range1, wp_ap, wp_acons, wp_vr]
    refine ⟨_, rfl, ?_⟩
    rw [wp_anil, len_ref]
    refine .inl ⟨_, g1 _ _, ?_⟩
    rw [List.length_map]
    refine ⟨_, rfl, okB_of (by omega) (by omega), ?_⟩
    obtain ⟨I, hI⟩ : ∃ I : Nat → List (Str × (Str × Str)) → Nv → MH → Prop, ∀ i xs e h, I i xs e h ↔ ∃ (v11 : Option D), h = p3.ob :: (L ++ [.lst (es.map pD), .lst ((((names.zip es).take i).map mkR).map rowD)]) ∧ e = [some (.ref 0), some (.int (many : Nat)), some (.int (count : Nat)), some (.bl chain), some (.rol (nodes.map .str)), some (.ref (L.length + 1)), v6, v7, v8, some (.rol (names.map .str)), some (.ref (L.length + 2)), v11, none, none, none, none] := ⟨_, fun _ _ _ _ => Iff.rfl⟩
    refine loop_rg (names.zip es) (by simp; omega) I ((hI _ _ _ _).mpr ⟨none, by simp, rfl⟩) ?_ ?_
    · intro i q xs e h hd hi hx qq
      obtain ⟨v11, rfl, rfl⟩ := (hI _ _ _ _).mp qq
      refine ⟨rfl, _, rfl, ?_⟩
      obtain ⟨w, a, b⟩ := q
      rw [List.getElem?_zip_eq_some] at hx
      have x1 : L2.atI (names.map D.str) (i : Nat) = some (.str w) := by rw [atI_nat, List.getElem?_map, hx.1]; rfl
      have x2 : L2.atI (es.map pD) (i : Nat) = some (.tup [.str a, .str b]) := by rw [atI_nat, List.getElem?_map, hx.2]; rfl
      have tk : (names.zip es).take (i + 1) = (names.zip es).take i ++ [(w, a, b)] := by
        rw [List.take_add_one, (List.getElem?_zip_eq_some).mpr hx]; rfl
      have hlt : i < sizeLine := by omega
      have hlt2 : min i (min names.length es.length) < sizeLine := by omega
      simp [x1, x2, g1, g2, z3, hlt, hlt2]
      rw [hI]
      exact ⟨_, by rw [tk]; simp [mkR, rowD], rfl⟩
    · intro e h qq
      obtain ⟨v11, rfl, rfl⟩ := (hI _ _ _ _).mp qq
      refine ⟨rfl, ?_⟩
      show J _ _
      rw [hJ]
      exact ⟨p3, v11, by rw [List.take_length], rfl⟩
  intro e h hj
  obtain ⟨p4, v11, rfl, rfl⟩ := (hJ _ _).mp hj
  clear hj hJ J
  have hq := fun ms gs p' => hq nodes names ms gs es p' nd nl nsh hnd hnl hnsh el1 el2 (by omega) hpe.2
  obtain ⟨rs, hrs⟩ : ∃ rs, rs = (names.zip es).map mkR := ⟨_, rfl⟩
  rw [← hrs] at hq ⊢
  have rl : rs.length ≤ 60 := by rw [hrs, List.length_map]; omega
  obtain ⟨L2, hL2⟩ : ∃ L2, L2 = L ++ [Ob.lst (es.map pD), Ob.lst (rs.map rowD)] := ⟨_, rfl⟩
  have hg10 : ∀ p' : Pl, (p'.ob :: L2)[L.length + 2]? = some (.lst (rs.map rowD)) := fun p' => by rw [hL2]; exact g2 p' _
  rw [← hL2]
  have ss : ∀ (xs : List Str) (h : MH), xs.length ≤ 60 → oSorted [.rol (xs.map .str)] h = some (.ref h.length, h ++ [.lst ((isort leS xs).map .str)]) := fun xs h hx => o_sorted_s rfl (by omega)
  have il : ∀ xs : List Str, (isort leS xs).length = xs.length := fun xs => (isort_perm_self (le := leS) xs).length_eq
  clear g1 g2 s2 glen
  refine seq_cut (fun e h => ∃ (p' : Pl) (ms : List Str), h = p'.ob :: L2 ∧ e = [some (.ref 0), some (.int (many : Nat)), some (.int (count : Nat)), some (.bl chain), some (.rol (nodes.map .str)), some (.ref (L.length + 1)), v6, v7, v8, some (.rol (names.map .str)), some (.ref (L.length + 2)), v11, some (.tup (ms.map .str)), none, none, none] ∧ ms.length ≤ 60) ?_ ?_
  · simp
    rw [ss _ _ (by omega)]
    simp
    refine fq_pl_lst (g := []) blws_str ?_
    refine ⟨_, rfl, ?_⟩
    refine some_lc (p := p4) (loc := L2) (by simp) (by simp) (isort leS nodes) .str .str (by omega) (by omega) (by rw [il]; omega) (fun _ _ => rfl) ?_ (by simp) fun ms p7 hms => ?_
    · intro x hx
      exact ⟨_, rfl, rfl, fun mh => by simp [wipeD]⟩
    refine ⟨_, rfl, ⟨p7, rfl⟩, ms, rfl, ?_⟩
    have := hms.length_le
    rw [il] at this
    omega
  rintro e h ⟨p5, ms, rfl, rfl, hms⟩
  refine seq_cut (fun e h => ∃ (p' : Pl) (gs : List Str), h = p'.ob :: L2 ∧ e = [some (.ref 0), some (.int (many : Nat)), some (.int (count : Nat)), some (.bl chain), some (.rol (nodes.map .str)), some (.ref (L.length + 1)), v6, v7, v8, some (.rol (names.map .str)), some (.ref (L.length + 2)), v11, some (.tup (ms.map .str)), some (.tup (gs.map .str)), none, none] ∧ gs.length ≤ 60) ?_ ?_
  · simp
    rw [ss _ _ (by omega)]
    simp
    refine fq_pl_lst (g := []) blws_str ?_
    refine ⟨_, rfl, ?_⟩
    refine some_lc (p := p5) (loc := L2) (by simp) (by simp) (isort leS names) .str .str (by omega) (by omega) (by rw [il]; omega) (fun _ _ => rfl) ?_ (by simp) fun gs p7 hgs => ?_
    · intro x hx
      exact ⟨_, rfl, rfl, fun mh => by simp [wipeD]⟩
    refine ⟨_, rfl, ⟨p7, rfl⟩, gs, rfl, ?_⟩
    have := hgs.length_le
    rw [il] at this
    omega
  rintro e h ⟨p6, gs, rfl, rfl, hgs⟩
  have sr : ∀ (h : MH), h[L.length + 2]? = some (.lst (rs.map rowD)) → oSorted [.ref (L.length + 2)] h = some (.ref h.length, h ++ [.lst ((isort leR rs).map rowD)]) := fun h hh => o_sorted_r (by simp [itemsD, hh]) (by omega)
  simp
  rw [ss _ _ (by omega)]
  simp
  refine fq_pl_lst (g := []) blws_str ?_
  refine ⟨_, rfl, ?_⟩
  rw [sr _ (hg10 p6)]
  simp
  refine fq_pl_lst (g := []) blws_rows ?_
  refine ⟨_, rfl, z4, z3, ?_⟩
  refine fq_pl_lst (g := []) (by simp) ?_
  have := fq_pl (p := p) (p' := p6) (loc := loc) (g := g ++ [Ob.lst (es.map pD), Ob.lst (rs.map rowD)]) (d := .rol [netD (isort leS nodes) (isort leR rs) ms gs, .rol (names.map .str), .rol (nodes.map .str)]) (fun n => by simp) (by simp [netD]) (hq ms gs p6 hms hgs)
  rw [hL2, ← hL, List.append_assoc]
  exact this
end K07
namespace K07
open PySem Det
/-- a net, as far as the ways in it want it -/
structure Nw (ns : List Str) (rs : List Row) : Prop where
  n0 : 0 < ns.length
  n1 : ns.length ≤ 60
  r0 : 0 < rs.length
  r1 : rs.length ≤ 60
  nd : (rs.map (·.1)).Nodup
  sh : ∀ l ∈ rs, l.1.length ≤ 30
  nsh : ∀ x ∈ ns, x.length ≤ 30
theorem lk_mem {rs : List Row} (nd : (rs.map (·.1)).Nodup) {l : Row} (h : l ∈ rs) : lkR rs l.1 = some l.2 := by
  unfold lkR
  cases hf : rs.find? fun m => decide (m.1 = l.1) with
  | none =>
    rw [List.find?_eq_none] at hf
    have := hf l h
    simp at this
  | some m =>
    have h1 := List.mem_of_find?_eq_some hf
    have h2 : m.1 = l.1 := by simpa using List.find?_some hf
    rw [name_eq nd h1 h h2]; rfl
theorem way_of_path {rs : List Row} {ns : List Str} (W : Nw ns rs) {ws NS : List Str} (h : Path (lkR rs) NS ws) (nd : NS.Nodup) (hw : ws ≠ []) (hl : ws.length ≤ 1000) : ∃ NS', Way rs ws NS' := by
  obtain ⟨NS', hg⟩ := path_go h nd hw
  exact ⟨NS', ⟨by have := W.r1; omega, W.nd, hw, hl, hg⟩⟩
theorem cn_of {rs : List Row} (nd : (rs.map (·.1)).Nodup) {l : Row} (h : l ∈ rs) {a : Str} (ho : on l.2 a = true) : Cn (lkR rs) l.1 a (oth l.2 a) := by
  rw [Cn, lk_mem nd h]
  obtain ⟨x, y, z⟩ := l
  simp only [on, decide_eq_true_eq] at ho
  unfold oth
  simp only
  by_cases hy : y = a
  · left; simp [hy]
  · right
    have : a = z := ho.resolve_left fun e => hy e.symm
    simp [hy, this]
section
variable {p : Pl} {loc : MH} {rs : List Row} {ns ms gs : List Str} {Q : D → MH → Prop} {E : Exn → MH → Prop}
theorem n_ix (i : Nat) (h : MH) : oIx (netD ns rs ms gs) (.int 0) h = some (.tup (ns.map .str), h) ∧ oIx (netD ns rs ms gs) (.int 1) h = some (.tup (rs.map rowD), h) ∧ oIx (netD ns rs ms gs) (.int 2) h = some (.tup (ms.map .str), h) ∧ oIx (netD ns rs ms gs) (.int 3) h = some (.tup (gs.map .str), h) := by
  simp [netD, oIx, itemsD]
theorem walk_ok {most : Nat} (W : Nw ns rs) (hm : most ≤ 60) (hq : ∀ (ws NS : List Str) p', ws.length ≤ most → Path (lkR rs) NS ws → NS.Nodup → (∀ x ∈ ws, x.length ≤ 30) → Q (.rol (ws.map .str)) (Pl.ob p' :: loc)) : (m__law_walk [.ref 0, netD ns rs ms gs, .int (most : Nat)] (p.ob :: loc)).wp Q E := by
  have hz : (1000 : Nat) ≤ sizeLine := by decide
  have z1 : (1 : Nat) ≤ sizeLine := by decide
  have z2 : (2 : Nat) ≤ sizeLine := by decide
  obtain ⟨w1, w2, w3, w4, w5, w6, w7⟩ := W
  have i0 := fun h => (n_ix (ns := ns) (rs := rs) (ms := ms) (gs := gs) 0 h).1
  have i1 := fun h => (n_ix (ns := ns) (rs := rs) (ms := ms) (gs := gs) 0 h).2.1
  unfold m__law_walk
  rw [wp_zF, wp_runF]
  generalize netD ns rs ms gs = N at i0 i1
  show (sq _ _ [some (.ref 0), some N, some (.int (most : Nat)), none, none, none, none, none, none] (p.ob :: loc)).wp _
  obtain ⟨J, hJ⟩ : ∃ J : Nat → Nv → MH → Prop, ∀ i e h, J i e h ↔ ∃ (p' : Pl) (pre : List Str) (last : Str) (ws : List Str) (v5 v6 v7 v8 : Option D), h = p'.ob :: (loc ++ [.lst ((pre ++ [last]).map .str), .lst (ws.map .str)]) ∧ e = [some (.ref 0), some N, some (.int (most : Nat)), some (.ref (loc.length + 1)), some (.ref (loc.length + 2)), v5, v6, v7, v8] ∧ ws.length ≤ i ∧ Path (lkR rs) (pre ++ [last]) ws ∧ (pre ++ [last]).Nodup ∧ (∀ x ∈ ws, x.length ≤ 30) ∧ pre.length ≤ i := ⟨_, fun _ _ _ => Iff.rfl⟩
  refine seq_cutJ (fun e h => ∃ (p' : Pl) (a : Str), h = p'.ob :: (loc ++ [.lst [.str a]]) ∧ e = [some (.ref 0), some N, some (.int (most : Nat)), some (.ref (loc.length + 1)), none, none, none, none, none]) (fun J hJ => ?_) ?_
  · simp [i0]
    refine pick_ok (by omega) (by omega) fun r p1 r0 r1 => ?_
    obtain ⟨a, rfl⟩ := Int.eq_ofNat_of_zero_le r0
    have ha : a < ns.length := by omega
    have hat : L2.atI (ns.map D.str) (a : Nat) = some (.str ns[a]) := by rw [atI_nat, List.getElem?_map, List.getElem?_eq_getElem ha]; rfl
    simp [hat, z1]
    exact hJ _ _ ⟨p1, _, rfl, rfl⟩
  rintro e h ⟨p1, a, rfl, rfl⟩
  refine seq_cut (J 0) ?_ ?_
  · simp
    rw [hJ]
    exact ⟨p1, [], a, [], none, none, none, none, by simp, by simp, by simp, trivial, by simp, by simp, by simp⟩
  intro e h hj
  refine seq_cut (J most) ?_ ?_
  · obtain ⟨p2, pre, last, ws, v5, v6, v7, v8, rfl, rfl, h1, h2, h3, h4, h5⟩ := (hJ _ _ _).mp hj
    simp
    refine ⟨okB_of (by omega) (by omega), ?_⟩
    simp at hj
    refine loop_n J hj ?_ (fun e h q => ⟨rfl, q⟩)
    clear hj h1 h2 h3 h4 h5 v5 v6 v7 v8 pre last ws p2
    intro i e h hi hj
    obtain ⟨p2, pre, last, ws, v5, v6, v7, v8, rfl, rfl, h1, h2, h3, h4, h5⟩ := (hJ _ _ _).mp hj
    clear hj
    refine ⟨rfl, _, rfl, ?_⟩
    have hat : L2.atI ((pre ++ [last]).map D.str) (((pre ++ [last]).map D.str).length - 1 : Int) = some (.str last) := by rw [atI_len (by simp)]; simp
    have gk : ∀ p' : Pl, (p'.ob :: (loc ++ [Ob.lst ((pre ++ [last]).map .str), .lst (ws.map .str)]))[loc.length + 1]? = some (.lst ((pre ++ [last]).map .str)) := fun p' => by simp
    have gk2 : ∀ p' : Pl, (p'.ob :: (loc ++ [Ob.lst ((pre ++ [last]).map .str), .lst (ws.map .str)]))[loc.length + 2]? = some (.lst (ws.map .str)) := fun p' => by simp
    refine seq_cut (fun e h => e = [some (.ref 0), some N, some (.int (most : Nat)), some (.ref (loc.length + 1)), some (.ref (loc.length + 2)), some (.int (i : Nat)), some (.str last), v7, v8] ∧ h = p2.ob :: (loc ++ [.lst ((pre ++ [last]).map .str), .lst (ws.map .str)])) ?_ ?_
    · rw [wp_sst, wp_bi, wp_vr]
      refine ⟨_, rfl, ?_⟩
      rw [wp_bi, wp_ap, wp_acons, wp_vr]
      refine ⟨_, rfl, ?_⟩
      rw [wp_anil, len_ref]
      refine .inl ⟨_, gk _, ?_⟩
      rw [wp_kn, o_sub_i, owp_some, ix_ref]
      exact ⟨_, gk _, _, hat, rfl, rfl⟩
    rintro e h ⟨rfl, rfl⟩
    obtain ⟨sel, hsel⟩ : ∃ sel : Row → Bool, ∀ l, sel l = (on l.2 last && !decide (oth l.2 last ∈ pre ++ [last])) := ⟨_, fun _ => rfl⟩
    refine seq_cut (fun e h => e = [some (.ref 0), some N, some (.int (most : Nat)), some (.ref (loc.length + 1)), some (.ref (loc.length + 2)), some (.int (i : Nat)), some (.str last), some (.rol ((rs.filter sel).map rowD)), v8] ∧ p2.ob :: (loc ++ [.lst ((pre ++ [last]).map .str), .lst (ws.map .str)]) = h) ?_ ?_
    · have gk' := gk p2
      generalize p2.ob :: (loc ++ [Ob.lst ((pre ++ [last]).map .str), .lst (ws.map .str)]) = H at gk'
      simp [i1]
      refine lc_map2 H rs rowD sel rowD (by simp) (by simp) (by omega) (fun _ => rfl) ?_ ?_
      · intro l hl acc
        have x1 : ∀ (h : MH), oIx (rowD l) (.int 1) h = some (.str l.2.1, h) := fun h => by simp [rowD, oIx, itemsD]
        have x2 : ∀ (h : MH), oIx (rowD l) (.int 2) h = some (.str l.2.2, h) := fun h => by simp [rowD, oIx, itemsD]
        have hkk := (List.getElem?_eq_some_iff.mp gk').1
        have hni : oNotIn (.str (oth l.2 last)) (.ref (loc.length + 1)) (H ++ [.lst acc]) = some (.bl (!decide (oth l.2 last ∈ pre ++ [last])), H ++ [.lst acc]) := o_notIn_s (l := pre ++ [last]) (by rw [items_ref, List.getElem?_append_left hkk]; exact gk')
        refine ⟨_, rfl, ?_, fun _ => by simp [wipeD]⟩
        rw [hsel]
        cases ho : on l.2 last with
        | false => simp [wipeD, x1, x2, in_pair, z2, ho]
        | true => simp [wipeD, x1, x2, in_pair, z2, ho, hni]
      · rw [fq_push]
        exact ⟨blws_rows, by simp⟩
    rintro e h ⟨rfl, rfl⟩
    cases hf : rs.filter sel with
    | nil =>
      simp
      have := (hJ most [some (.ref 0), some N, some (.int (most : Nat)), some (.ref (loc.length + 1)), some (.ref (loc.length + 2)), some (.int (i : Nat)), some (.str last), some (.rol []), v8] (p2.ob :: (loc ++ [.lst ((pre ++ [last]).map .str), .lst (ws.map .str)]))).mpr ⟨p2, pre, last, ws, _, _, _, _, rfl, rfl, by omega, h2, h3, h4, by omega⟩
      simpa using this
    | cons l0 ls =>
      refine seq_cut (fun e h => e = [some (.ref 0), some N, some (.int (most : Nat)), some (.ref (loc.length + 1)), some (.ref (loc.length + 2)), some (.int (i : Nat)), some (.str last), some (.rol ((l0 :: ls).map rowD)), v8] ∧ p2.ob :: (loc ++ [.lst ((pre ++ [last]).map .str), .lst (ws.map .str)]) = h) (by
        have : ¬ ((ls.length : Int) + 1 = 0) := by omega
        simp [this]) ?_
      rintro e h ⟨rfl, rfl⟩
      have hsub : ∀ l ∈ l0 :: ls, l ∈ rs ∧ sel l = true := fun l hl => by rw [← hf] at hl; exact List.mem_filter.mp hl
      have hll : (l0 :: ls).length ≤ 60 := by rw [← hf]; exact Nat.le_trans (List.length_filter_le _ _) w4
      generalize hL : l0 :: ls = on' at hsub hll
      have hpos : 0 < on'.length := by rw [← hL]; simp
      refine seq_cutJ (fun e h => ∃ (p' : Pl) (l : Row), l ∈ on' ∧ e = [some (.ref 0), some N, some (.int (most : Nat)), some (.ref (loc.length + 1)), some (.ref (loc.length + 2)), some (.int (i : Nat)), some (.str last), some (.rol (on'.map rowD)), some (rowD l)] ∧ h = p'.ob :: (loc ++ [.lst ((pre ++ [last]).map .str), .lst (ws.map .str)])) (fun J' hJ' => ?_) ?_
      · simp
        refine pick_ok (by omega) (by omega) fun r p3 r0 r1 => ?_
        obtain ⟨a, rfl⟩ := Int.eq_ofNat_of_zero_le r0
        have ha : a < on'.length := by omega
        have hat : L2.atI (on'.map rowD) (a : Nat) = some (rowD on'[a]) := by rw [atI_nat, List.getElem?_map, List.getElem?_eq_getElem ha]; rfl
        simp [hat]
        exact hJ' _ _ ⟨p3, on'[a], List.getElem_mem _, rfl, by simp⟩
      rintro e h ⟨p3, l, hl, rfl, rfl⟩
      obtain ⟨hlr, hs⟩ := hsub l hl
      rw [hsel, Bool.and_eq_true] at hs
      obtain ⟨hs1, hs2⟩ := hs
      have hs2 : oth l.2 last ∉ pre ++ [last] := by simpa using hs2
      have x0 : ∀ (h : MH), oIx (rowD l) (.int 0) h = some (.str l.1, h) := fun h => by simp [rowD, oIx, itemsD]
      have e1 : ws.length < sizeLine := by omega
      have e2 : pre.length + 1 < sizeLine := by omega
      have cn := cn_of w5 hlr hs1
      have np : Path (lkR rs) (pre ++ [last] ++ [oth l.2 last]) (ws ++ [l.1]) := by
        rw [List.append_assoc]
        exact Path.snoc cn pre ws h2
      have fin := (hJ (i + 1) [some (.ref 0), some N, some (.int (most : Nat)), some (.ref (loc.length + 1)), some (.ref (loc.length + 2)), some (.int (i : Nat)), some (.str last), some (.rol (on'.map rowD)), some (rowD l)] (p3.ob :: (loc ++ [.lst ((pre ++ [last] ++ [oth l.2 last]).map .str), .lst ((ws ++ [l.1]).map .str)]))).mpr ⟨p3, pre ++ [last], oth l.2 last, ws ++ [l.1], _, _, _, _, rfl, rfl, by simp; omega, np, by
        rw [List.nodup_append]
        exact ⟨h3, by simp, fun x hx y hy e => by rw [List.mem_singleton] at hy; subst hy; subst e; exact hs2 hx⟩, fun x hx => by
        rcases List.mem_append.mp hx with hx | hx
        · exact h4 x hx
        · rw [List.mem_singleton.mp hx]; exact w6 l hlr, by simp; omega⟩
      simp [x0, e1, e2]
      simpa using fin
  intro e h hj
  obtain ⟨p2, pre, last, ws, v5, v6, v7, v8, rfl, rfl, h1, h2, h3, h4, h5⟩ := (hJ _ _ _).mp hj
  simp
  have fin := hq ws (pre ++ [last]) p2 h1 h2 h3 h4
  rw [fq_new (mh := p.ob :: loc) (xs := ws.map .str) (by simp) (by simp)]
  refine ⟨by simp, kept_pls, ?_⟩
  rw [List.length_cons, take_pl]
  exact fin
end
end K07
namespace K07
open PySem Det
section
variable {p : Pl} {loc : MH} {rs : List Row} {ns ms gs : List Str} {Q : D → MH → Prop} {E : Exn → MH → Prop}
theorem delays_ok {many : Nat} (hm : many ≤ 60) (hq : ∀ (ds : List Int) p', ds.length = many → Q (.tup (ds.map .int)) (Pl.ob p' :: loc)) : (m__law_delays [.ref 0, .int (many : Nat)] (p.ob :: loc)).wp Q E := by
  have hz : (1000 : Nat) ≤ sizeLine := by decide
  unfold m__law_delays
  rw [wp_zF, wp_runF]
  show (sq _ _ [some (.ref 0), some (.int (many : Nat)), none, none, none] (p.ob :: loc)).wp _
  obtain ⟨J, hJ⟩ : ∃ J : Nat → Nv → MH → Prop, ∀ i e h, J i e h ↔ ∃ (p' : Pl) (ds : List Int) (v3 v4 : Option D), h = p'.ob :: (loc ++ [.lst (ds.map .int)]) ∧ e = [some (.ref 0), some (.int (many : Nat)), some (.ref (loc.length + 1)), v3, v4] ∧ ds.length = i := ⟨_, fun _ _ _ => Iff.rfl⟩
  refine seq_cut (J 0) ?_ ?_
  · simp
    rw [hJ]; exact ⟨p, [], none, none, by simp, by simp, rfl⟩
  intro e h hj
  refine seq_cut (J many) ?_ ?_
  · obtain ⟨p1, ds, v3, v4, rfl, rfl, hl⟩ := (hJ _ _ _).mp hj
    simp
    refine ⟨okB_of (by omega) (by omega), ?_⟩
    refine loop_n J hj ?_ (fun e h q => ⟨rfl, q⟩)
    clear hj hl v3 v4 ds p1
    intro i e h hi hj
    obtain ⟨p1, ds, v3, v4, rfl, rfl, hl⟩ := (hJ _ _ _).mp hj
    refine ⟨rfl, _, rfl, ?_⟩
    refine seq_cutJ (fun e h => ∃ (p' : Pl) (w : Int), e = [some (.ref 0), some (.int (many : Nat)), some (.ref (loc.length + 1)), some (.int (i : Nat)), some (.int w)] ∧ h = p'.ob :: (loc ++ [.lst (ds.map .int)])) (fun J' hJ' => ?_) ?_
    · simp
      refine pick_ok (by omega) (by omega) fun r p2 r0 r1 => ?_
      exact hJ' _ _ ⟨p2, r, rfl, rfl⟩
    rintro e h ⟨p2, w, rfl, rfl⟩
    have fin : ∀ (p' : Pl) (x : Int), J (i + 1) [some (.ref 0), some (.int (many : Nat)), some (.ref (loc.length + 1)), some (.int (i : Nat)), some (.int w)] (p'.ob :: (loc ++ [.lst (ds.map .int ++ [.int x])])) := fun p' x => (hJ _ _ _).mpr ⟨p', ds ++ [x], _, _, by simp, rfl, by simp; omega⟩
    have hlt : ds.length < sizeLine := by omega
    have hi2 : i < sizeLine := by omega
    by_cases h0 : w = 0
    · subst h0
      simp [hl, hi2]
      exact fin _ _
    · by_cases h1 : w = 1
      · subst h1
        simp [hl, hi2]
        exact fin _ _
      · by_cases h2 : w = 2
        · subst h2
          simp
          refine pick_ok (by omega) (by omega) fun r p3 r0 r1 => ?_
          simp [hl, hi2]
          exact fin _ _
        · simp [h0, h1, h2]
          refine pick_ok (by omega) (by omega) fun r p3 r0 r1 => ?_
          refine pick_ok (by omega) (by omega) fun s p4 s0 s1 => ?_
          rw [o_mul_r (by omega)]
          rw [o_mul_r (by decide)]
          simp [hl, hi2]
          exact fin _ _
  intro e h hj
  obtain ⟨p1, ds, v3, v4, rfl, rfl, hl⟩ := (hJ _ _ _).mp hj
  simp
  exact ⟨kept_pls, hq ds p1 hl⟩
/-- a value that may stand in a bent way -/
def Odd (d : D) : Prop := easy d = true ∧ ∀ n, d.blw n = true
theorem odd_str (x : Str) : Odd (.str x) := ⟨rfl, fun _ => rfl⟩
theorem Odd.nref {d : D} (h : Odd d) : ∀ n, d ≠ .ref n := fun n e => by subst e; cases h.1
theorem odd_ok (W : Nw ns rs) (hq : ∀ (d : D) p', Odd d → Q d (Pl.ob p' :: loc)) : (m__law_odd [.ref 0, netD ns rs ms gs] (p.ob :: loc)).wp Q E := by
  have hz : (1000 : Nat) ≤ sizeLine := by decide
  have z1 : (1 : Nat) ≤ sizeLine := by decide
  have z0 : (0 : Nat) ≤ sizeLine := by decide
  have z14 : (14 : Nat) ≤ sizeLine := by decide
  have z14' : (14 : Nat) < sizeLine := by decide
  obtain ⟨w1, w2, w3, w4, w5, w6, w7⟩ := W
  have i0 := fun h => (n_ix (ns := ns) (rs := rs) (ms := ms) (gs := gs) 0 h).1
  have i1 := fun h => (n_ix (ns := ns) (rs := rs) (ms := ms) (gs := gs) 0 h).2.1
  unfold m__law_odd
  rw [wp_zF, wp_runF]
  generalize netD ns rs ms gs = N at i0 i1
  show (sq _ _ [some (.ref 0), some N, none, none] (p.ob :: loc)).wp _
  refine seq_cutJ (fun e h => ∃ (p' : Pl) (x : Str), e = [some (.ref 0), some N, some (.str x), none] ∧ h = p'.ob :: loc ∧ x.length ≤ 30) (fun J hJ => ?_) ?_
  · simp [i1]
    refine pick_ok (by omega) (by omega) fun r p1 r0 r1 => ?_
    obtain ⟨a, rfl⟩ := Int.eq_ofNat_of_zero_le r0
    have ha : a < rs.length := by omega
    have hat : L2.atI (rs.map rowD) (a : Nat) = some (rowD rs[a]) := by rw [atI_nat, List.getElem?_map, List.getElem?_eq_getElem ha]; rfl
    have x0 : ∀ (h : MH), oIx (rowD rs[a]) (.int 0) h = some (.str rs[a].1, h) := fun h => by simp [rowD, oIx, itemsD]
    simp [hat, x0]
    exact hJ _ _ ⟨p1, rs[a].1, rfl, rfl, w6 _ (List.getElem_mem _)⟩
  rintro e h ⟨p1, x, rfl, rfl, hx⟩
  obtain ⟨a, ha, hal⟩ : ∃ a : Str, L2.atI (ns.map D.str) 0 = some (.str a) ∧ a.length ≤ 30 := ⟨ns[0], by rw [show (0 : Int) = ((0 : Nat) : Int) from rfl, atI_nat, List.getElem?_map, List.getElem?_eq_getElem w1]; rfl, w7 _ (List.getElem_mem _)⟩
  refine seq_cutJ (fun e h => ∃ (xs : List D), e = [some (.ref 0), some N, some (.str x), some (.ref (loc.length + 1))] ∧ h = p1.ob :: (loc ++ [.lst xs]) ∧ xs.length = 14 ∧ ∀ d ∈ xs, Odd d) (fun J hJ => ?_) ?_
  · have l1 : (Str.ofString "x").length = 1 := rfl
    have l2 : (Str.ofString ".").length = 1 := rfl
    have l3 : (Str.ofString " ").length = 1 := rfl
    have a1 : x.length + 1 ≤ sizeLine := by omega
    have a2 : 1 + x.length ≤ sizeLine := by omega
    simp [l1, l2, l3, a1, a2, i0, ha, z1, z14]
    refine hJ _ _ ⟨_, rfl, rfl, rfl, fun d hd => ?_⟩
    simp at hd
    rcases hd with rfl | rfl | rfl | rfl | rfl | rfl | rfl | rfl | rfl | rfl | rfl | rfl | rfl | rfl <;> exact ⟨rfl, fun n => by simp⟩
  rintro e h ⟨xs, rfl, rfl, xl, xo⟩
  refine seq_cutJ (fun e h => e = [some (.ref 0), some N, some (.str x), some (.ref (loc.length + 1))] ∧ h = p1.ob :: (loc ++ [.lst (xs ++ [.str x])])) (fun J hJ => ?_) ?_
  · simp [xl, z14']
    exact hJ _ _ ⟨rfl, by simp⟩
  rintro e h ⟨rfl, rfl⟩
  have xo2 : ∀ d ∈ xs ++ [D.str x], Odd d := fun d hd => by
    rcases List.mem_append.mp hd with hd | hd
    · exact xo d hd
    · rw [List.mem_singleton.mp hd]; exact odd_str x
  have xl2 : (xs ++ [D.str x]).length = 15 := by simp [xl]
  generalize xs ++ [D.str x] = ys at xo2 xl2
  simp [xl2]
  refine pick_ok (by omega) (by omega) fun r p2 r0 r1 => ?_
  obtain ⟨b, rfl⟩ := Int.eq_ofNat_of_zero_le r0
  have hb : b < ys.length := by omega
  have hat : L2.atI ys (b : Nat) = some ys[b] := by rw [atI_nat, List.getElem?_eq_getElem hb]
  have ho := xo2 ys[b] (List.getElem_mem _)
  simp [hat]
  exact fq_pl ho.nref (ho.2 _) (hq _ p2 ho)
theorem bent_ok {w : D} {xs : List D} (W : Nw ns rs) (hw : ∀ h, itemsD h w = some xs) (hl : xs.length ≤ 100) (ho : ∀ d ∈ xs, Odd d) (hq : ∀ (ds : List D) p', ds.length ≤ xs.length + 1 → (∀ d ∈ ds, Odd d) → Q (.tup ds) (Pl.ob p' :: loc)) : (m__law_bent [.ref 0, netD ns rs ms gs, w] (p.ob :: loc)).wp Q E := by
  have hz : (1000 : Nat) ≤ sizeLine := by decide
  have z2 : (2 : Nat) ≤ sizeLine := by decide
  have i1 := fun h => (n_ix (ns := ns) (rs := rs) (ms := ms) (gs := gs) 0 h).2.1
  have od := fun (p : Pl) (loc : MH) (Q : D → MH → Prop) (E : Exn → MH → Prop) => odd_ok (p := p) (loc := loc) (ms := ms) (gs := gs) (Q := Q) (E := E) W
  obtain ⟨w1, w2, w3, w4, w5, w6, w7⟩ := W
  unfold m__law_bent
  rw [wp_zF, wp_runF]
  generalize netD ns rs ms gs = N at i1 od
  show (sq _ _ [some (.ref 0), some N, some w, none, none, none, none] (p.ob :: loc)).wp _
  refine seq_cutJ (fun e h => e = [some (.ref 0), some N, some w, some (.ref (loc.length + 1)), none, none, none] ∧ h = p.ob :: (loc ++ [.lst xs])) (fun J hJ => ?_) ?_
  · simp [hw]
    exact hJ _ _ ⟨rfl, rfl⟩
  rintro e h ⟨rfl, rfl⟩
  have gk : ∀ (p' : Pl) (ys : List D), (p'.ob :: (loc ++ [Ob.lst ys]))[loc.length + 1]? = some (.lst ys) := fun p' ys => by simp
  have sk : ∀ (p' : Pl) (ys : List D) (u : Ob), (p'.ob :: (loc ++ [Ob.lst ys])).set (loc.length + 1) u = p'.ob :: (loc ++ [u]) := fun p' ys u => by simp
  refine seq_cutJ (fun e h => ∃ (p' : Pl) (a : Nat), e = [some (.ref 0), some N, some w, some (.ref (loc.length + 1)), some (.int (a : Nat)), none, none] ∧ h = p'.ob :: (loc ++ [.lst xs]) ∧ a ≤ xs.length) (fun J hJ => ?_) ?_
  · simp
    refine pick_ok (by omega) (by omega) fun r p1 r0 r1 => ?_
    obtain ⟨a, rfl⟩ := Int.eq_ofNat_of_zero_le r0
    exact hJ _ _ ⟨p1, a, rfl, rfl, by omega⟩
  rintro e h ⟨p1, a, rfl, rfl, ha⟩
  refine seq_cutJ (fun e h => ∃ (p' : Pl) (k : Nat), e = [some (.ref 0), some N, some w, some (.ref (loc.length + 1)), some (.int (a : Nat)), some (.int (k : Nat)), none] ∧ h = p'.ob :: (loc ++ [.lst xs])) (fun J hJ => ?_) ?_
  · simp
    refine pick_ok (by omega) (by omega) fun r p1 r0 r1 => ?_
    obtain ⟨a, rfl⟩ := Int.eq_ofNat_of_zero_le r0
    exact hJ _ _ ⟨p1, a, rfl, rfl⟩
  rintro e h ⟨p2, k, rfl, rfl⟩
  refine seq_cutJ (fun e h => ∃ (p' : Pl) (x : Str), e = [some (.ref 0), some N, some w, some (.ref (loc.length + 1)), some (.int (a : Nat)), some (.int (k : Nat)), some (.str x)] ∧ h = p'.ob :: (loc ++ [.lst xs])) (fun J hJ => ?_) ?_
  · simp [i1]
    refine pick_ok (by omega) (by omega) fun r p1 r0 r1 => ?_
    obtain ⟨b, rfl⟩ := Int.eq_ofNat_of_zero_le r0
    have hb : b < rs.length := by omega
    have hat : L2.atI (rs.map rowD) (b : Nat) = some (rowD rs[b]) := by rw [atI_nat, List.getElem?_map, List.getElem?_eq_getElem hb]; rfl
    have x0 : ∀ (h : MH), oIx (rowD rs[b]) (.int 0) h = some (.str rs[b].1, h) := fun h => by simp [rowD, oIx, itemsD]
    simp [hat, x0]
    exact hJ _ _ ⟨p1, rs[b].1, rfl, rfl⟩
  rintro e h ⟨p3, x, rfl, rfl⟩
  have oz := odd_str x
  refine seq_cutJ (fun e h => ∃ (p' : Pl) (n : Nat) (g : MH) (ys : List D), e = [some (.ref 0), some N, some w, some (.ref n), some (.int (a : Nat)), some (.int (k : Nat)), some (.str x)] ∧ h = p'.ob :: (loc ++ g) ∧ h[n]? = some (.lst ys) ∧ ys.length ≤ xs.length + 1 ∧ ∀ d ∈ ys, Odd d) (fun J hJ => ?_) ?_
  · have one : ∀ (p' : Pl) (ys : List D), ys.length ≤ xs.length + 1 → (∀ d ∈ ys, Odd d) → J [some (.ref 0), some N, some w, some (.ref (loc.length + 1)), some (.int (a : Nat)), some (.int (k : Nat)), some (.str x)] (p'.ob :: (loc ++ [.lst ys])) := fun p' ys h1 h2 => hJ _ _ ⟨p', loc.length + 1, [.lst ys], ys, rfl, rfl, gk p' ys, h1, h2⟩
    have ins : ∀ (b : Nat) (d : D), Odd d → (xs.take b ++ [d] ++ xs.drop b).length ≤ xs.length + 1 ∧ ∀ y ∈ xs.take b ++ [d] ++ xs.drop b, Odd y := fun b d hd => by
      refine ⟨by simp; omega, fun y hy => ?_⟩
      rcases List.mem_append.mp hy with hy | hy
      · rcases List.mem_append.mp hy with hy | hy
        · exact ho y (List.mem_of_mem_take hy)
        · rw [List.mem_singleton.mp hy]; exact hd
      · exact ho y (List.mem_of_mem_drop hy)
    have sets : ∀ (b : Nat) (d : D), Odd d → (xs.set b d).length ≤ xs.length + 1 ∧ ∀ y ∈ xs.set b d, Odd y := fun b d hd => by
      refine ⟨by simp, fun y hy => ?_⟩
      rcases List.mem_or_eq_of_mem_set hy with hy | rfl
      · exact ho y hy
      · exact hd
    have hlt : xs.length < sizeLine := by omega
    have ha63 : (a : Int) < 9223372036854775808 := by omega
    -- insert of a given value at a given place
    have insx : ∀ (p' : Pl) (b : Nat) (d : D), b ≤ 200 → Odd d → J [some (.ref 0), some N, some w, some (.ref (loc.length + 1)), some (.int (a : Nat)), some (.int (k : Nat)), some (.str x)] (p'.ob :: (loc ++ [.lst (xs.take b ++ [d] ++ xs.drop b)])) := fun p' b d _ hd => one p' _ (ins b d hd).1 (ins b d hd).2
    have last : (drp (insAt (vr 3) (vr 4) (vr 6)) [some (.ref 0), some N, some w, some (.ref (loc.length + 1)), some (.int (a : Nat)), some (.int (k : Nat)), some (.str x)] (p3.ob :: (loc ++ [.lst xs]))).wp { nx := J, rt := fun _ _ => False, bk := fun _ _ => False, ct := fun _ _ => False, ex := fun _ _ _ => False } := by
      rw [wp_drp]
      refine wp_insAt_of ?_
      simp
      refine ⟨⟨hlt, ha63⟩, ?_⟩
      have := insx p3 a (.str x) (by omega) oz
      simpa using this
    have last' : ∀ {O : Po}, O.nx = J → (drp (insAt (vr 3) (vr 4) (vr 6)) [some (.ref 0), some N, some w, some (.ref (loc.length + 1)), some (.int (a : Nat)), some (.int (k : Nat)), some (.str x)] (p3.ob :: (loc ++ [.lst xs]))).wp O := fun hO => SRes.wp_mono last (fun _ _ q => by rw [hO]; exact q) (fun _ _ q => q.elim) (fun _ _ q => q.elim) (fun _ _ q => q.elim) fun _ _ _ q => q.elim
    by_cases k0 : k = 0
    · subst k0
      rw [wp_sif, wp_tb, wp_bi, wp_vr]
      refine ⟨_, rfl, ?_⟩
      rw [wp_kn, o_eq_i, owp_some]
      refine ⟨_, rfl, fun _ => ?_, fun z => by simp at z⟩
      rw [wp_drp]
      refine wp_insAt_of ?_
      simp
      refine od _ (loc ++ [Ob.lst xs]) _ _ fun d p4 hd => ?_
      refine ⟨_, gk _ _, ⟨hlt, ha63⟩, ?_⟩
      have := insx p4 a d (by omega) hd
      rw [sk]
      simpa using this
    rw [wp_sif, wp_tb, wp_bi, wp_vr]
    refine ⟨_, rfl, ?_⟩
    rw [wp_kn, o_eq_i, owp_some]
    refine ⟨_, rfl, fun z => by simp at z; omega, fun _ => ?_⟩
    obtain ⟨E0, hE0⟩ : ∃ E0 : Nv, E0 = [some (.ref 0), some N, some w, some (.ref (loc.length + 1)), some (.int (a : Nat)), some (.int (k : Nat)), some (.str x)] := ⟨_, rfl⟩
    have test : ∀ (c : Int) (s t : MS) (O : Po), ((k : Int) = c → a < xs.length → (s E0 (p3.ob :: (loc ++ [.lst xs]))).wp O) → ((t E0 (p3.ob :: (loc ++ [.lst xs]))).wp O) → (sif (tand (tb (bi oEq (vr 5) (kn (.int c)))) (tb (bi oLt (vr 4) (ap oLen (acons (vr 3) (anil)))))) s t E0 (p3.ob :: (loc ++ [.lst xs]))).wp O := fun c s t O h1 h2 => by
      subst hE0
      rw [wp_sif, wp_tand, wp_tb, wp_bi, wp_vr]
      refine ⟨_, rfl, ?_⟩
      rw [wp_kn, o_eq_i, owp_some]
      refine ⟨_, rfl, fun hk => ?_, fun _ => ⟨fun z => (by cases z), fun _ => h2⟩⟩
      rw [wp_tb, wp_bi, wp_vr]
      refine ⟨_, rfl, ?_⟩
      rw [wp_ap, wp_acons, wp_vr]
      refine ⟨_, rfl, ?_⟩
      rw [wp_anil, len_ref]
      refine .inl ⟨_, gk _ _, ?_⟩
      rw [o_lt_i, owp_some]
      exact ⟨_, rfl, fun hb => h1 (by simpa using hk) (by simpa using hb), fun _ => h2⟩
    rw [← hE0]
    refine test 1 _ _ _ (fun hk hal => ?_) ?_
    · subst hE0
      have hix : L2.ixN xs.length (a : Int) = some a := by rw [ixN_of (by omega) (by exact_mod_cast hal)]; rfl
      rw [wp_setIx, wp_cal, wp_acons, wp_vr]
      refine ⟨_, rfl, ?_⟩
      rw [wp_acons, wp_vr]
      refine ⟨_, rfl, ?_⟩
      rw [wp_anil]
      refine ⟨rfl, od _ (loc ++ [Ob.lst xs]) _ _ fun d p4 hd => ?_⟩
      simp [hix]
      exact one p4 _ (sets a d hd).1 (sets a d hd).2
    refine test 2 _ _ _ (fun hk hal => ?_) ?_
    · subst hE0
      have hat : L2.atI xs (a : Nat) = some xs[a] := by rw [atI_nat, List.getElem?_eq_getElem hal]
      have oa := ho xs[a] (List.getElem_mem _)
      rw [wp_drp]
      refine wp_insAt_of ?_
      simp
      refine pick_ok (loc := loc ++ [Ob.lst xs]) (by omega) (by omega) fun r p4 r0 r1 => ?_
      obtain ⟨b, rfl⟩ := Int.eq_ofNat_of_zero_le r0
      simp [hat]
      refine ⟨⟨hlt, by omega⟩, ?_⟩
      have := insx p4 b xs[a] (by omega) oa
      simpa using this
    refine test 3 _ _ _ (fun hk hal => ?_) ?_
    · subst hE0
      have hix : L2.ixN xs.length (a : Int) = some a := by rw [ixN_of (by omega) (by exact_mod_cast hal)]; rfl
      simp [hix]
      exact one p3 _ (sets a (.str x) oz).1 (sets a (.str x) oz).2
    refine test 4 _ _ _ (fun hk hal => ?_) ?_
    · subst hE0
      have hix : seqIndex? (a : Int) xs.length = some a := by rw [seqIx_of (by omega) (by exact_mod_cast hal)]; rfl
      have hget : xs[a]? = some xs[a] := List.getElem?_eq_getElem hal
      rw [wp_drp, wp_popAt, wp_vr]
      refine ⟨_, rfl, _, rfl, ⟨_, gk _ _⟩, ?_⟩
      rw [wp_vr]
      refine ⟨_, rfl, (a : Nat), xs, a, xs[a], rfl, gk _ _, ⟨by omega, by omega⟩, hix, hget, ?_⟩
      rw [sk]
      exact one p3 _ (by rw [List.length_eraseIdx]; split <;> omega) fun y hy => ho y (List.mem_of_mem_eraseIdx hy)
    have last2 : ∀ {O : Po}, O.nx = J → (drp (insAt (vr 3) (vr 4) (vr 6)) E0 (p3.ob :: (loc ++ [.lst xs]))).wp O := by subst hE0; exact last'
    rw [wp_sif, wp_tand, wp_tb, wp_bi, hE0, wp_vr]
    refine ⟨_, rfl, ?_⟩
    rw [wp_kn, o_eq_i, owp_some, ← hE0]
    refine ⟨_, rfl, fun _ => ?_, fun _ => ⟨fun z => (by cases z), fun _ => last2 rfl⟩⟩
    rw [wp_tb, wp_bi, wp_bi, hE0, wp_vr]
    refine ⟨_, rfl, ?_⟩
    rw [wp_kn, o_add_i, owp_some, wp_ap, wp_acons, wp_vr]
    refine ⟨_, rfl, ?_⟩
    rw [wp_anil, len_ref]
    refine .inl ⟨_, gk _ _, ?_⟩
    rw [o_lt_i, owp_some, ← hE0]
    refine ⟨_, rfl, fun hb => ?_, fun _ => last2 rfl⟩
    have hb : a + 1 < xs.length := by simp at hb; omega
    subst hE0
    have hat : L2.atI xs (a : Nat) = some xs[a] := by rw [atI_nat, List.getElem?_eq_getElem (by omega)]
    have hat1 : L2.atI xs ((a : Int) + 1) = some xs[a + 1] := by rw [show (a : Int) + 1 = ((a + 1 : Nat) : Int) by omega, atI_nat, List.getElem?_eq_getElem hb]
    have oa := ho xs[a] (List.getElem_mem _)
    have ob := ho xs[a + 1] (List.getElem_mem _)
    have hc1 : ∀ lo hi, (∀ y ∈ cutD xs lo hi, Odd y) := fun lo hi y hy => ho y (List.mem_of_mem_drop (List.mem_of_mem_take hy))
    have blo : ∀ ys : List D, (∀ y ∈ ys, Odd y) → ∀ n, D.blws n ys = true := fun ys h n => blws_iff.mpr fun y hy => (h y hy).2 n
    have cl1 : (cutD xs none (some (a : Int))).length ≤ a := by
      unfold cutD
      rw [HT.sIx_nat, List.length_take]
      have : HT.sIx xs.length 0 none = 0 := rfl
      omega
    have cl2 : (cutD xs (some ((a : Int) + 2)) none).length ≤ xs.length - (a + 2) := by
      unfold cutD
      rw [show (a : Int) + 2 = ((a + 2 : Nat) : Int) by omega, HT.sIx_nat, List.length_take, List.length_drop]
      omega
    simp
    have fin := fun (ys : List D) (h1 : ys.length ≤ xs.length + 1) (h2 : ∀ d ∈ ys, Odd d) => hJ [some (.ref 0), some N, some w, some (.ref (p3.ob :: (loc ++ [Ob.lst xs])).length), some (.int (a : Nat)), some (.int (k : Nat)), some (.str x)] (p3.ob :: (loc ++ [Ob.lst xs]) ++ [.lst ys]) ⟨p3, _, [.lst xs, .lst ys], ys, rfl, by simp, by simp, h1, h2⟩
    have gkH := gk p3 xs
    generalize p3.ob :: (loc ++ [Ob.lst xs]) = H at gkH fin
    rw [o_sl_ref gkH, owp_some, fq_push]
    refine ⟨blo _ (hc1 _ _) _, ?_⟩
    simp [gkH, hat, hat1, z2]
    rw [addX_l (xs := cutD xs none (some (a : Int))) (ys := [xs[a + 1], xs[a]]) rfl (by simp [lstD]) (.inl ⟨_, rfl⟩) (by simp; omega), owp_some, fq_next]
    have o2 : ∀ y ∈ cutD xs none (some (a : Int)) ++ [xs[a + 1], xs[a]], Odd y := fun y hy => by
      rcases List.mem_append.mp hy with hy | hy
      · exact hc1 _ _ y hy
      · simp at hy
        rcases hy with rfl | rfl
        · exact ob
        · exact oa
    refine ⟨blo _ o2 _, ?_⟩
    rw [o_sl_ref gkH, owp_some, fq_push]
    refine ⟨blo _ (hc1 _ _) _, ?_⟩
    rw [addX_l (xs := cutD xs none (some (a : Int)) ++ [xs[a + 1], xs[a]]) (ys := cutD xs (some ((a : Int) + 2)) none) rfl rfl (.inl ⟨_, rfl⟩) (by simp; omega), owp_some]
    refine fin _ (by simp; omega) fun y hy => ?_
    rcases List.mem_append.mp hy with hy | hy
    · exact o2 y hy
    · exact hc1 _ _ y hy
  rintro e h ⟨p4, n, g, ys, rfl, rfl, hn, hyl, hyo⟩
  simp [hn]
  exact ⟨blws_iff.mpr fun d hd => (hyo d hd).2 _, kept_pls, hq ys p4 hyl hyo⟩
end
end K07
namespace K07
open PySem Det
section
variable {p : Pl} {loc : MH} {rs : List Row} {ns ms gs : List Str} {Q : D → MH → Prop} {E : Exn → MH → Prop}
theorem way_single (W : Nw ns rs) {l : Row} (h : l ∈ rs) : Way rs [l.1] [l.2.1, l.2.2] :=
  ⟨by have := W.r1; omega, W.nd, by simp, by simp, by unfold go; rw [lk_mem W.nd h]; rfl⟩
theorem good_net_ok {laps : Nat} (W : Nw ns rs) (hlp : laps ≤ 100) (hq : ∀ p', Q (.bl true) (Pl.ob p' :: loc)) : (m__law_good_net [.ref 0, netD ns rs ms gs, .int (laps : Nat)] (p.ob :: loc)).wp Q E := by
  have hz : (1000 : Nat) ≤ sizeLine := by decide
  have z1 : (1 : Nat) ≤ sizeLine := by decide
  have i1 := fun h => (n_ix (ns := ns) (rs := rs) (ms := ms) (gs := gs) 0 h).2.1
  have bw := fun (p : Pl) (loc : MH) (w : D) (xs : List D) (Q : D → MH → Prop) (E : Exn → MH → Prop) => bent_ok (p := p) (loc := loc) (ms := ms) (gs := gs) (w := w) (xs := xs) (Q := Q) (E := E) W
  have wk := fun (p : Pl) (loc : MH) (most : Nat) (Q : D → MH → Prop) (E : Exn → MH → Prop) => walk_ok (p := p) (loc := loc) (ms := ms) (gs := gs) (most := most) (Q := Q) (E := E) W
  have gw := fun (mh : MH) (ws NS : List Str) (ds : List Int) (w : Way rs ws NS) (hd : rs.length = ds.length) => good_way_ok (mh := mh) (ms := ms) (gs := gs) (ns := ns) w (by have := W.n1; omega) hd
  have gd : ∀ (mh : MH) (d : D), Th d → m__law_good [netD ns rs ms gs, d] mh = .ok (.bl true) mh := fun mh d ht => good_ok (A := .tup (ns.map .str)) (B := .tup (ms.map .str)) (C := .tup (gs.map .str)) (mh := mh) (by have := W.r1; omega) W.nd ht
  have r0 := W.r0
  have r1 := W.r1
  unfold m__law_good_net
  rw [wp_zF, wp_runF]
  generalize netD ns rs ms gs = N at i1 bw wk gw gd
  show (sq _ _ [some (.ref 0), some N, some (.int (laps : Nat)), none, none, none, none, none, none] (p.ob :: loc)).wp _
  obtain ⟨J, hJ⟩ : ∃ J : Nv → MH → Prop, ∀ e h, J e h ↔ ∃ (p' : Pl) (v3 v4 v5 v6 v7 v8 : Option D), h = p'.ob :: loc ∧ e = [some (.ref 0), some N, some (.int (laps : Nat)), v3, v4, v5, v6, v7, v8] := ⟨_, fun _ _ => Iff.rfl⟩
  refine seq_cut J ?_ ?_
  · simp
    refine ⟨okB_of (by omega) (by omega), ?_⟩
    refine loop_n (fun _ => J) ((hJ _ _).mpr ⟨p, _, _, _, _, _, _, rfl, rfl⟩) ?_ (fun e h q => ⟨rfl, q⟩)
    intro i e h hi hj
    obtain ⟨p1, v3, v4, v5, v6, v7, v8, rfl, rfl⟩ := (hJ _ _).mp hj
    refine ⟨rfl, _, rfl, ?_⟩
    refine seq_cutJ (fun e h => ∃ (p' : Pl) (ws NS : List Str), h = p'.ob :: loc ∧ e = [some (.ref 0), some N, some (.int (laps : Nat)), some (.int (i : Nat)), some (.rol (ws.map .str)), v5, v6, v7, v8] ∧ ws.length ≤ 60 ∧ Path (lkR rs) NS ws ∧ NS.Nodup) (fun J' hJ' => ?_) ?_
    · simp
      refine pick_ok (by omega) (by omega) fun r p2 q0 q1 => ?_
      obtain ⟨m, rfl⟩ := Int.eq_ofNat_of_zero_le q0
      rw [o_add_i, owp_some, show (1 : Int) + (m : Int) = ((1 + m : Nat) : Int) by omega]
      refine wk _ _ _ _ _ (by omega) fun ws NS p3 h1 h2 h3 _ => ?_
      exact hJ' _ _ ⟨p3, ws, NS, rfl, rfl, by omega, h2, h3⟩
    rintro e h ⟨p2, ws, NS, rfl, rfl, wl, wp, wn⟩
    refine seq_cutJ (fun e h => ∃ (p' : Pl) (ds : List Int), h = p'.ob :: loc ∧ e = [some (.ref 0), some N, some (.int (laps : Nat)), some (.int (i : Nat)), some (.rol (ws.map .str)), some (.tup (ds.map .int)), v6, v7, v8] ∧ ds.length = rs.length) (fun J' hJ' => ?_) ?_
    · simp [i1]
      refine delays_ok (by omega) fun ds p3 hd => ?_
      exact hJ' _ _ ⟨p3, ds, rfl, rfl, hd⟩
    rintro e h ⟨p3, ds, rfl, rfl, dl⟩
    refine seq_cutJ (fun e h => h = p3.ob :: loc ∧ e = [some (.ref 0), some N, some (.int (laps : Nat)), some (.int (i : Nat)), some (.rol (ws.map .str)), some (.tup (ds.map .int)), some (.tup (ws.reverse.map .str)), v7, v8]) (fun J' hJ' => ?_) ?_
    · simp
      refine ⟨okB_of (by omega) (by omega), ?_⟩
      have erg : rgD 0 ws.length = (List.range ws.length).map fun i : Nat => D.int (i : Nat) := by simp [rgD]
      rw [erg]
      refine lc_map2 (p3.ob :: loc) (List.range ws.length) (fun i : Nat => D.int (i : Nat)) (fun _ => true) (fun i => .str (ws.getD (ws.length - 1 - i) "")) (by simp) (by simp) (by simp; omega) (fun _ => rfl) ?_ ?_
      · intro i hi acc
        have hi : i < ws.length := List.mem_range.mp hi
        refine ⟨_, rfl, by simp, fun _ => ?_⟩
        have hat : L2.atI (ws.map D.str) ((ws.length : Int) - 1 - (i : Nat)) = some (.str (ws.getD (ws.length - 1 - i) "")) := by
          rw [show (ws.length : Int) - 1 - (i : Nat) = ((ws.length - 1 - i : Nat) : Int) by omega, atI_nat, List.getElem?_map, List.getD_eq_getElem?_getD, List.getElem?_eq_getElem (by omega)]; rfl
        simp [wipeD]
        rw [hat]
        simp
      · have e0 : ((List.range ws.length).filter fun _ => true).map (fun i => D.str (ws.getD (ws.length - 1 - i) "")) = ws.reverse.map .str := by
          rw [List.filter_eq_self.mpr (by simp)]
          refine List.ext_getElem? fun i => ?_
          rw [List.getElem?_map, List.getElem?_map]
          by_cases hi : i < ws.length
          · rw [List.getElem?_range hi, List.getElem?_reverse hi]
            rw [List.getElem?_eq_getElem (by omega)]
            simp [List.getD_eq_getElem?_getD, List.getElem?_eq_getElem (show ws.length - 1 - i < ws.length by omega)]
          · rw [List.getElem?_eq_none (by simp; omega), List.getElem?_eq_none (by simp; omega)]; rfl
        rw [e0, fq_push]
        refine ⟨blws_str, ?_⟩
        refine ⟨_, rfl, ?_⟩
        exact hJ' _ _ ⟨rfl, rfl⟩
    rintro e h ⟨rfl, rfl⟩
    refine seq_cutJ (fun e h => h = p3.ob :: loc ∧ e = [some (.ref 0), some N, some (.int (laps : Nat)), some (.int (i : Nat)), some (.rol (ws.map .str)), some (.tup (ds.map .int)), some (.tup (ws.reverse.map .str)), v7, v8]) (fun J' hJ' => ?_) ?_
    · have fin := hJ' _ _ ⟨rfl, rfl⟩
      by_cases hw : ws = []
      · subst hw
        simp
        simpa using fin
      · obtain ⟨N1, w1⟩ := way_of_path W wp wn hw (by omega)
        obtain ⟨N2, w2⟩ := way_of_path W (Path.rev _ _ wp) ((List.reverse_perm NS).nodup_iff.mpr wn) (by simpa using hw) (by simp; omega)
        have y1 := fun mh => gw mh _ _ ds w1 dl.symm
        have y2 := fun mh => gw mh _ _ ds w2 dl.symm
        rw [List.map_reverse] at y2 fin
        have hpos : (0 : Int) < (ws.length : Int) := by
          have := List.length_pos_iff.mpr hw
          omega
        simp [hpos, y1, y2]
        exact .inr ⟨List.length_pos_iff.mpr hw, fin⟩
    rintro e h ⟨rfl, rfl⟩
    refine seq_cutJ (fun e h => ∃ p' : Pl, h = p'.ob :: loc ∧ e = [some (.ref 0), some N, some (.int (laps : Nat)), some (.int (i : Nat)), some (.rol (ws.map .str)), some (.tup (ds.map .int)), some (.tup (ws.reverse.map .str)), v7, v8]) (fun J' hJ' => ?_) ?_
    · simp [i1, z1]
      refine pick_ok (by omega) (by omega) fun r p4 q0 q1 => ?_
      obtain ⟨a, rfl⟩ := Int.eq_ofNat_of_zero_le q0
      have ha : a < rs.length := by omega
      have hat : L2.atI (rs.map rowD) (a : Nat) = some (rowD rs[a]) := by rw [atI_nat, List.getElem?_map, List.getElem?_eq_getElem ha]; rfl
      have x0 : ∀ (h : MH), oIx (rowD rs[a]) (.int 0) h = some (.str rs[a].1, h) := fun h => by simp [rowD, oIx, itemsD]
      have y := fun mh => gw mh _ _ ds (way_single W (List.getElem_mem ha)) dl.symm
      simp only [List.map_cons, List.map_nil] at y
      simp [hat, x0, y]
      have := hJ' _ _ ⟨p4, rfl, rfl⟩
      simpa using this
    rintro e h ⟨p4, rfl, rfl⟩
    have strs_odd : ∀ d ∈ ws.map D.str, Odd d := fun d hd => by obtain ⟨x, _, rfl⟩ := List.mem_map.mp hd; exact odd_str x
    have th_of : ∀ ds : List D, ds.length ≤ 1000 → (∀ d ∈ ds, Odd d) → Th (.tup ds) := fun ds h1 h2 => ⟨h1, fun d hd => (h2 d hd).1⟩
    refine seq_cutJ (fun e h => ∃ (p' : Pl) (xs : List D), h = p'.ob :: loc ∧ e = [some (.ref 0), some N, some (.int (laps : Nat)), some (.int (i : Nat)), some (.rol (ws.map .str)), some (.tup (ds.map .int)), some (.tup (ws.reverse.map .str)), some (.tup xs), v8] ∧ xs.length ≤ 61 ∧ ∀ d ∈ xs, Odd d) (fun J' hJ' => ?_) ?_
    · simp
      refine bw _ _ _ (ws.map .str) _ _ (fun h => rfl) (by simp; omega) strs_odd fun xs p5 h1 h2 => ?_
      have := hJ' _ _ ⟨p5, xs, rfl, rfl, by simp at h1; omega, h2⟩
      simpa using this
    rintro e h ⟨p5, xs, rfl, rfl, xl, xo⟩
    have y1 := fun mh => gd mh _ (th_of xs (by omega) xo)
    have y2 := fun mh => gd mh (.rol (ws.map .str)) rfl
    simp [y1]
    refine bw _ _ _ xs _ _ (fun h => rfl) (by omega) xo fun zs p6 h1 h2 => ?_
    have y3 := fun mh => gd mh _ (th_of zs (by omega) h2)
    simp [y3, y2]
    rw [hJ]
    exact ⟨p6, _, _, _, _, _, _, rfl, rfl⟩
  intro e h hj
  obtain ⟨p1, v3, v4, v5, v6, v7, v8, rfl, rfl⟩ := (hJ _ _).mp hj
  simp
  exact ⟨kept_pl, hq p1⟩
end
end K07
namespace K07
open PySem Det
/-! the fixed net -/
def lkI (i : Fin 7) : Option (Fin 5 × Fin 5) := [((0 : Fin 5), (1 : Fin 5)), (1, 4), (1, 2), (2, 4), (0, 4), (3, 4), (0, 1)][i.val]?
def rowsI : List (List (Fin 7)) := [[0, 1], [1, 0], [0, 2, 3], [3, 2, 0], [4], [5], [0], [2, 3], [3, 2], [2], [3], [6, 2], [2, 6], [4, 5], [5, 4], [6, 1, 5], [6, 1], [6, 2, 3, 5], [5, 3, 2, 0], [5, 1], [6], [1]]
def wrongI : List (List (Fin 7)) := [[0, 6], [0, 0], [0, 3], [0, 1, 4], [0, 2, 3, 4], [0, 2, 3, 1], [4, 1, 0], [2, 3, 1], [1, 0, 6], [0, 1, 5, 5]]
theorem rows_right : ∀ r ∈ rowsI, r ≠ [] ∧ ∃ NS, go lkI 0 [] r = .inr NS := by
  have : (rowsI.all fun r => !r.isEmpty && match go lkI 0 [] r with | .inr _ => true | .inl _ => false) = true := by decide +kernel
  intro r hr
  have h := List.all_eq_true.mp this r hr
  rw [Bool.and_eq_true] at h
  refine ⟨fun e => by subst e; simp at h, ?_⟩
  cases hg : go lkI 0 [] r with
  | inr NS => exact ⟨NS, rfl⟩
  | inl k => rw [hg] at h; simp at h
theorem rows_wrong : ∀ r ∈ wrongI, r ≠ [] ∧ ∃ k, go lkI 0 [] r = .inl k := by
  have : (wrongI.all fun r => !r.isEmpty && match go lkI 0 [] r with | .inr _ => false | .inl _ => true) = true := by decide +kernel
  intro r hr
  have h := List.all_eq_true.mp this r hr
  rw [Bool.and_eq_true] at h
  refine ⟨fun e => by subst e; simp at h, ?_⟩
  cases hg : go lkI 0 [] r with
  | inr NS => rw [hg] at h; simp at h
  | inl k => exact ⟨k, rfl⟩
section
variable {N5 M7 : List Str}
def nf (N5 : List Str) (i : Fin 5) : Str := N5.getD i.val ""
def mf (M7 : List Str) (i : Fin 7) : Str := M7.getD i.val ""
def fixR (N5 M7 : List Str) : List Row := (List.finRange 7).map fun i => (mf M7 i, match lkI i with | some q => (nf N5 q.1, nf N5 q.2) | none => ("", ""))
structure Fx (N5 M7 : List Str) : Prop where
  n5 : N5.length = 5
  m7 : M7.length = 7
  nd : N5.Nodup
  md : M7.Nodup
  nw : ∀ w ∈ N5, w.length ≤ 30 ∧ 1 ≤ w.length ∧ Cd w
  mw : ∀ w ∈ M7, w.length ≤ 30 ∧ 1 ≤ w.length ∧ Cd w
  srt : N5.Pairwise fun x y => leS x y = true
theorem getD_inj {l : List Str} (h : l.Nodup) {i j : Nat} (hi : i < l.length) (hj : j < l.length) (e : l.getD i "" = l.getD j "") : i = j := by
  rw [List.getD_eq_getElem?_getD, List.getD_eq_getElem?_getD, List.getElem?_eq_getElem hi, List.getElem?_eq_getElem hj] at e
  exact (List.getElem_inj h).mp e
theorem Fx.mem_m (F : Fx N5 M7) (i : Fin 7) : mf M7 i ∈ M7 := by
  unfold mf
  have hi : i.val < M7.length := by rw [F.m7]; exact i.isLt
  rw [List.getD_eq_getElem?_getD, List.getElem?_eq_getElem hi]
  exact List.getElem_mem _
theorem Fx.mem_n (F : Fx N5 M7) (i : Fin 5) : nf N5 i ∈ N5 := by
  unfold nf
  have hi : i.val < N5.length := by rw [F.n5]; exact i.isLt
  rw [List.getD_eq_getElem?_getD, List.getElem?_eq_getElem hi]
  exact List.getElem_mem _
theorem Fx.inj_m (F : Fx N5 M7) (i j : Fin 7) (e : mf M7 i = mf M7 j) : i = j := Fin.ext (getD_inj F.md (by rw [F.m7]; exact i.isLt) (by rw [F.m7]; exact j.isLt) e)
theorem Fx.inj_n (F : Fx N5 M7) (i j : Fin 5) (e : nf N5 i = nf N5 j) : i = j := Fin.ext (getD_inj F.nd (by rw [F.n5]; exact i.isLt) (by rw [F.n5]; exact j.isLt) e)
theorem fix_names : (fixR N5 M7).map (·.1) = (List.finRange 7).map (mf M7) := by
  unfold fixR
  rw [List.map_map]; rfl
theorem Fx.names (F : Fx N5 M7) : ((fixR N5 M7).map (·.1)).Nodup := by
  rw [fix_names, List.nodup_iff_pairwise_ne, List.pairwise_map]
  exact (List.nodup_iff_pairwise_ne.mp (List.nodup_finRange 7)).imp fun {a b} h e => h (F.inj_m a b e)
abbrev srtR (N5 M7 : List Str) : List Row := isort leR (fixR N5 M7)
theorem srt_perm : (srtR N5 M7).Perm (fixR N5 M7) := isort_perm_self (le := leR) _
theorem Fx.nodup (F : Fx N5 M7) : ((srtR N5 M7).map (·.1)).Nodup := (srt_perm.map (·.1)).nodup_iff.mpr F.names
theorem lkI_some (i : Fin 7) : ∃ q, lkI i = some q := by
  have : ∀ i : Fin 7, (lkI i).isSome = true := by decide
  exact Option.isSome_iff_exists.mp (this i)
theorem Fx.lk (F : Fx N5 M7) (i : Fin 7) : lkR (srtR N5 M7) (mf M7 i) = (lkI i).map fun q => (nf N5 q.1, nf N5 q.2) := by
  obtain ⟨q, hq⟩ := lkI_some i
  rw [hq]
  have hm : ((mf M7 i, nf N5 q.1, nf N5 q.2) : Row) ∈ srtR N5 M7 := by
    rw [srt_perm.mem_iff]
    refine List.mem_map.mpr ⟨i, List.mem_finRange i, by rw [hq]⟩
  exact lk_mem F.nodup hm
theorem Fx.Nw (F : Fx N5 M7) : Nw N5 (srtR N5 M7) where
  n0 := by rw [F.n5]; omega
  n1 := by rw [F.n5]; omega
  r0 := by rw [srt_perm.length_eq, fixR, List.length_map, List.length_finRange]; omega
  r1 := by rw [srt_perm.length_eq, fixR, List.length_map, List.length_finRange]; omega
  nd := F.nodup
  sh := fun l hl => by
    rw [srt_perm.mem_iff] at hl
    obtain ⟨i, _, rfl⟩ := List.mem_map.mp hl
    exact (F.mw _ (F.mem_m i)).1
  nsh := fun x hx => (F.nw x hx).1
theorem Fx.go (F : Fx N5 M7) (r : List (Fin 7)) : go (lkR (srtR N5 M7)) 0 [] (r.map (mf M7)) = (match go lkI 0 [] r with | .inl k => .inl k | .inr NS => .inr (NS.map (nf N5))) :=
  by
    have := go_map (mf M7) (nf N5) F.inj_n (fun x => F.lk x) r 0 []
    rw [List.map_nil] at this
    rw [this]
    cases K07.go lkI 0 [] r <;> rfl
theorem Fx.way (F : Fx N5 M7) {r : List (Fin 7)} {NS : List (Fin 5)} (h : K07.go lkI 0 [] r = .inr NS) (hr : r ≠ []) (hl : r.length ≤ 100) : Way (srtR N5 M7) (r.map (mf M7)) (NS.map (nf N5)) :=
  ⟨by have := F.Nw.r1; omega, F.nodup, by simpa using hr, by simp; omega, by rw [F.go, h]⟩
theorem Fx.bad (F : Fx N5 M7) {r : List (Fin 7)} {k : Nat} (h : K07.go lkI 0 [] r = .inl k) (hr : r ≠ []) : flt (srtR N5 M7) (.tup ((r.map (mf M7)).map .str)) = .inl (k : Nat) := by
  have h1 := F.go r
  rw [h] at h1
  have h2 : r.map (mf M7) ≠ [] := fun e => hr (List.map_eq_nil_iff.mp e)
  generalize r.map (mf M7) = ws at h1 h2 ⊢
  cases ws with
  | nil => exact absurd rfl h2
  | cons x xs =>
    simp only at h1
    simp [flt, strs?, strs_map, h1, upR]
/-- no name of a link -/
theorem Fx.foreign (F : Fx N5 M7) {x : Str} (h : x ∉ M7) : lkR (srtR N5 M7) x = none := by
  unfold lkR
  rw [Option.map_eq_none_iff, List.find?_eq_none]
  intro l hl
  rw [srt_perm.mem_iff] at hl
  obtain ⟨i, _, rfl⟩ := List.mem_map.mp hl
  simp only [decide_eq_true_eq]
  exact fun e => h (e ▸ F.mem_m i)
theorem Fx.no_empty (F : Fx N5 M7) : (Str.ofString "") ∉ M7 := fun h => by
  have := (F.mw _ h).2.1
  have e : (Str.ofString "").length = 0 := rfl
  omega
theorem Fx.no_dash (F : Fx N5 M7) (x : Str) : x ++ Str.ofString "-" ∉ M7 := fun h => by
  have := (F.mw _ h).2.2 45
  refine this ?_ rfl
  have e : tl (x ++ Str.ofString "-") = tl x ++ [45] := by
    show (x.cps ++ (Str.ofString "-").cps).toList = _
    rw [Array.toList_append]
    rfl
  rw [e]; simp
end
end K07
namespace K07
open PySem Det
theorem go_foreign {α β : Type} [DecidableEq β] {lk : α → Option (β × β)} {x : α} (hx : lk x = none) : ∀ (xs : List α) (i : Nat) (ns : List β), x ∈ xs → ∃ k, go lk i ns xs = .inl k
  | [], _, _, h => by cases h
  | y :: ys, i, ns, h => by
    unfold go
    cases hy : lk y with
    | none => exact ⟨i, rfl⟩
    | some l =>
      simp only
      cases hs : stp i ns l with
      | none => exact ⟨i, rfl⟩
      | some ns' =>
        simp only
        rcases List.mem_cons.mp h with rfl | h
        · rw [hx] at hy; cases hy
        · exact go_foreign hx ys (i + 1) ns' h
section
variable {N5 M7 : List Str}
theorem Fx.flt_foreign (F : Fx N5 M7) {ws : List Str} {x : Str} (hm : x ∈ ws) (hx : x ∉ M7) : ∃ k, flt (srtR N5 M7) (.tup (ws.map .str)) = .inl k := by
  cases ws with
  | nil => cases hm
  | cons w ws =>
    obtain ⟨k, hk⟩ := go_foreign (F.foreign hx) (w :: ws) 0 [] hm
    exact ⟨k, by simp [flt, strs?, strs_map, hk, upR]⟩
/-- the things that are no ways -/
def thingsD (n n1 a : Str) : List D := [.non, .tup [], .rol [], .rol [.str n], .str n, .int 7, .bl true, .tup [.int 1], .tup [.bl true], .tup [.non], .tup [.tup [.str n]], .tup [.str n, .int 0], .tup [.str ""], .tup [.rol [.str n]],
  .tup [.str n, .str n1, .str (a ++ Str.ofString "-")], .tup [.str n, .str "", .int 1], .tup [.str (a ++ Str.ofString "-")]]
theorem Fx.things (F : Fx N5 M7) (n n1 a : Str) : ∀ d ∈ thingsD n n1 a, Th d ∧ ∃ k, flt (srtR N5 M7) d = .inl k := by
  have f1 := F.flt_foreign (ws := [Str.ofString ""]) (by simp) F.no_empty
  have f2 := F.flt_foreign (ws := [n, n1, a ++ Str.ofString "-"]) (x := a ++ Str.ofString "-") (by simp) (F.no_dash a)
  have f3 := F.flt_foreign (ws := [a ++ Str.ofString "-"]) (x := a ++ Str.ofString "-") (by simp) (F.no_dash a)
  simp only [List.map_cons, List.map_nil] at f1 f2 f3
  intro d hd
  simp only [thingsD, List.mem_cons, List.not_mem_nil, or_false] at hd
  rcases hd with rfl | rfl | rfl | rfl | rfl | rfl | rfl | rfl | rfl | rfl | rfl | rfl | rfl | rfl | rfl | rfl | rfl
  · exact ⟨by simp [Th, easy], -1, by simp [flt, strs?]⟩
  · exact ⟨by simp [Th, easy], -1, by simp [flt, strs?]⟩
  · exact ⟨by simp [Th, easy], -1, by simp [flt, strs?]⟩
  · exact ⟨by simp [Th, easy], -1, by simp [flt, strs?]⟩
  · exact ⟨by simp [Th, easy], -1, by simp [flt, strs?]⟩
  · exact ⟨by simp [Th, easy], -1, by simp [flt, strs?]⟩
  · exact ⟨by simp [Th, easy], -1, by simp [flt, strs?]⟩
  · exact ⟨by simp [Th, easy], -1, by simp [flt, strs?]⟩
  · exact ⟨by simp [Th, easy], -1, by simp [flt, strs?]⟩
  · exact ⟨by simp [Th, easy], -1, by simp [flt, strs?]⟩
  · exact ⟨by simp [Th, easy], -1, by simp [flt, strs?]⟩
  · exact ⟨by simp [Th, easy], -1, by simp [flt, strs?]⟩
  · exact ⟨by simp [Th, easy], f1⟩
  · exact ⟨by simp [Th, easy], -1, by simp [flt, strs?]⟩
  · exact ⟨by simp [Th, easy], f2⟩
  · exact ⟨by simp [Th, easy], -1, by simp [flt, strs?]⟩
  · exact ⟨by simp [Th, easy], f3⟩
theorem Fx.route4 (F : Fx N5 M7) : rtB [nf N5 0, nf N5 2, nf N5 4] [nf N5 0, nf N5 4] = true := by
  have h1 : leS (nf N5 0) (nf N5 4) = true := by
    have := List.pairwise_iff_getElem.mp F.srt 0 4 (by rw [F.n5]; omega) (by rw [F.n5]; omega) (by omega)
    have e0 : nf N5 0 = N5[0]'(by rw [F.n5]; omega) := by unfold nf; rw [List.getD_eq_getElem?_getD, List.getElem?_eq_getElem (by rw [F.n5]; decide)]; rfl
    have e4 : nf N5 4 = N5[4]'(by rw [F.n5]; omega) := by unfold nf; rw [List.getD_eq_getElem?_getD, List.getElem?_eq_getElem (by rw [F.n5]; decide)]; rfl
    rw [e0, e4]; exact this
  have h2 : ltS (nf N5 0) (nf N5 4) = true := by
    rw [ltS_iff]
    cases h3 : leS (nf N5 4) (nf N5 0) with
    | false => rfl
    | true => exact absurd (F.inj_n _ _ (leS_anti h1 h3)) (by decide)
  simp [rtB, h2]
end
end K07
namespace K07
open PySem Det
def rI (r : List (Fin 7)) : D := .tup (r.map fun i => .int (i.val : Nat))
def planD : List D := (List.finRange 7).map fun i => match lkI i with | some q => .tup [.int (q.1.val : Nat), .int (q.2.val : Nat)] | none => .non
section
variable {p : Pl} {loc : MH} {Q : D → MH → Prop} {E : Exn → MH → Prop} {N5 M7 : List Str}
theorem atN (F : Fx N5 M7) (i : Fin 5) : L2.atI (N5.map D.str) (i.val : Nat) = some (.str (nf N5 i)) := by
  have hi : i.val < N5.length := by rw [F.n5]; exact i.isLt
  rw [atI_nat, List.getElem?_map, nf, List.getD_eq_getElem?_getD, List.getElem?_eq_getElem hi]; rfl
theorem atM (F : Fx N5 M7) (i : Fin 7) : L2.atI (M7.map D.str) (i.val : Nat) = some (.str (mf M7 i)) := by
  have hi : i.val < M7.length := by rw [F.m7]; exact i.isLt
  rw [atI_nat, List.getElem?_map, mf, List.getD_eq_getElem?_getD, List.getElem?_eq_getElem hi]; rfl
/-- [names[at] for at in row] -/
theorem names_lc (F : Fx N5 M7) {mh : MH} {env : Nv} {Q : D → MH → Prop} {E : Exn → MH → Prop} {r : List (Fin 7)} {a b : Nat} (hl : r.length ≤ 100) (h0 : env[a]? = some (some (rI r))) (h2 : ∀ i : Fin 7, ((wipeD env [14]).set 14 (some (.int (i.val : Nat))))[b]? = some (some (.rol (M7.map .str)))) (h14 : 14 < env.length)
    (hq : Q (.rol ((r.map (mf M7)).map .str)) mh) : (fz (lc (iter (vr a)) (.nm 14) (yes) (bi oIx (vr b) (vr 14)) [14]) env mh).wp Q E := by
  have hz : (1000 : Nat) ≤ sizeLine := by decide
  rw [wp_fz, wp_lc, wp_iter, wp_vr]
  refine ⟨_, h0, _, rfl, ?_⟩
  refine lc_map2 mh r (fun i => D.int (i.val : Nat)) (fun _ => true) (fun i => .str (mf M7 i)) rfl rfl (by omega) (fun _ => rfl) ?_ ?_
  · intro i hi acc
    refine ⟨_, rfl, by simp, fun _ => ?_⟩
    rw [wp_bi, wp_vr]
    refine ⟨_, h2 i, ?_⟩
    rw [wp_vr]
    refine ⟨.int (i.val : Nat), ?_, ?_⟩
    · rw [List.getElem?_set_self]
      simpa [wipeD] using h14
    · rw [ix_rol]
      exact ⟨_, atM F i, rfl, rfl⟩
  · have e0 : (r.filter fun _ => true).map (fun i => D.str (mf M7 i)) = (r.map (mf M7)).map .str := by rw [List.filter_eq_self.mpr (by simp), List.map_map]; rfl
    rw [e0, fq_push]
    exact ⟨blws_str, hq⟩
theorem rows_lit : ([.tup [.int 0, .int 1], .tup [.int 1, .int 0], .tup [.int 0, .int 2, .int 3], .tup [.int 3, .int 2, .int 0], .tup [.int 4], .tup [.int 5], .tup [.int 0], .tup [.int 2, .int 3], .tup [.int 3, .int 2], .tup [.int 2], .tup [.int 3], .tup [.int 6, .int 2], .tup [.int 2, .int 6], .tup [.int 4, .int 5]] ++ [.tup [.int 5, .int 4], .tup [.int 6, .int 1, .int 5], .tup [.int 6, .int 1], .tup [.int 6, .int 2, .int 3, .int 5], .tup [.int 5, .int 3, .int 2, .int 0], .tup [.int 5, .int 1], .tup [.int 6], .tup [.int 1]] : List D) = rowsI.map rI := rfl
theorem wrong_lit : ([.tup [.int 0, .int 6], .tup [.int 0, .int 0], .tup [.int 0, .int 3], .tup [.int 0, .int 1, .int 4], .tup [.int 0, .int 2, .int 3, .int 4], .tup [.int 0, .int 2, .int 3, .int 1], .tup [.int 4, .int 1, .int 0], .tup [.int 2, .int 3, .int 1], .tup [.int 1, .int 0, .int 6]] ++ [.tup [.int 0, .int 1, .int 5, .int 5]] : List D) = wrongI.map rI := rfl
theorem plan_lit : ([.tup [.int 0, .int 1], .tup [.int 1, .int 4], .tup [.int 1, .int 2], .tup [.int 2, .int 4], .tup [.int 0, .int 4], .tup [.int 3, .int 4], .tup [.int 0, .int 1]] : List D) = planD := rfl
end
end K07
namespace K07
open PySem Det
section
variable {p : Pl} {loc : MH} {Q : D → MH → Prop} {E : Exn → MH → Prop} {N5 M7 : List Str}
abbrev fixN (N5 M7 : List Str) : D := netD N5 (srtR N5 M7) [nf N5 0, nf N5 2, nf N5 4] (isort leS [mf M7 4, mf M7 5])
theorem fixed_ok (hq : ∀ p', Q (.bl true) (Pl.ob p' :: loc)) : (m__law_fixed [.ref 0] (p.ob :: loc)).wp Q E := by
  have hz : (1000 : Nat) ≤ sizeLine := by decide
  have hs : ∀ n : Nat, n ≤ 100 → n ≤ sizeLine := fun n h => by omega
  have hs' : ∀ n : Nat, n ≤ 100 → n < sizeLine := fun n h => by omega
  unfold m__law_fixed
  rw [wp_zF, wp_runF]
  show (sq _ _ [some (.ref 0), none, none, none, none, none, none, none, none, none, none, none, none, none, none] (p.ob :: loc)).wp _
  refine seq_cutJ (fun e h => ∃ (p' : Pl) (N5 : List Str), e = [some (.ref 0), some (.rol (N5.map .str)), none, none, none, none, none, none, none, none, none, none, none, none, none] ∧ h = p'.ob :: loc ∧ N5.length = 5 ∧ N5.Nodup ∧ (∀ w ∈ N5, w.length ≤ 30 ∧ 1 ≤ w.length ∧ Cd w) ∧ N5.Pairwise fun x y => leS x y = true) (fun J hJ => ?_) ?_
  · simp
    refine words_ok2 (m := 5) (by omega) fun ws p1 h1 h2 h3 => ?_
    rw [o_sorted_s (xs := ws) rfl (by omega), owp_some]
    have pm := isort_perm_self (le := leS) ws
    refine fq_pl_lst (g := []) blws_str ?_
    exact hJ _ _ ⟨p1, isort leS ws, rfl, rfl, by rw [pm.length_eq, h2], pm.nodup_iff.mpr h1, fun w hw => h3 w (pm.mem_iff.mp hw), isort_sorted (le := leS) (fun a b c h k => leS_trans h k) leS_total ws⟩
  rintro e h ⟨p1, N5, rfl, rfl, n1, n2, n3, n4⟩
  refine seq_cutJ (fun e h => ∃ (p' : Pl) (M7 : List Str), e = [some (.ref 0), some (.rol (N5.map .str)), some (.rol (M7.map .str)), none, none, none, none, none, none, none, none, none, none, none, none] ∧ h = p'.ob :: loc ∧ Fx N5 M7) (fun J hJ => ?_) ?_
  · simp
    refine words_ok2 (m := 7) (by omega) fun ws p1 h1 h2 h3 => ?_
    exact hJ _ _ ⟨p1, ws, rfl, rfl, ⟨n1, h2, n2, h1, n3, h3, n4⟩⟩
  clear n1 n2 n3 n4
  rintro e h ⟨p2, M7, rfl, rfl, F⟩
  have aN := fun i => atN F i
  have aM := fun i => atM F i
  refine seq_cutJ (fun e h => e = [some (.ref 0), some (.rol (N5.map .str)), some (.rol (M7.map .str)), some (.rol planD), none, none, none, none, none, none, none, none, none, none, none] ∧ p2.ob :: loc = h) (fun J hJ => ?_) ?_
  · generalize p2.ob :: loc = H at hJ ⊢
    simp [hs]
    exact hJ _ _ ⟨rfl, rfl⟩
  rintro e h ⟨rfl, rfl⟩
  refine seq_cutJ (fun e h => e = [some (.ref 0), some (.rol (N5.map .str)), some (.rol (M7.map .str)), some (.rol planD), some (.rol ((fixR N5 M7).map rowD)), none, none, none, none, none, none, none, none, none, none] ∧ p2.ob :: loc = h) (fun J hJ => ?_) ?_
  · generalize p2.ob :: loc = H at hJ ⊢
    rw [wp_sst, wp_fz, wp_lc, wp_range1, wp_kn]
    refine ⟨_, rfl, okB_of (by omega) (by omega), ?_⟩
    have erg : rgD 0 ((7 : Int)).toNat = (List.finRange 7).map fun i : Fin 7 => D.int (i.val : Nat) := rfl
    rw [erg]
    refine lc_map2 H (List.finRange 7) (fun i : Fin 7 => D.int (i.val : Nat)) (fun _ => true) (fun i => rowD (mf M7 i, match lkI i with | some q => (nf N5 q.1, nf N5 q.2) | none => ("", ""))) rfl rfl (by simp; omega) (fun _ => rfl) ?_ ?_
    · intro i hi acc
      refine ⟨_, rfl, by simp, fun _ => ?_⟩
      obtain ⟨q, hq⟩ := lkI_some i
      have hp : L2.atI planD (i.val : Nat) = some (.tup [.int (q.1.val : Nat), .int (q.2.val : Nat)]) := by
        have hfr : (List.finRange 7)[i.val]? = some i := (by decide : ∀ i : Fin 7, (List.finRange 7)[i.val]? = some i) i
        rw [atI_nat, planD, List.getElem?_map, hfr]
        simp [hq]
      simp [wipeD, aM, hp, aN, hs, hq, rowD]
    · have e0 : ((List.finRange 7).filter fun _ => true).map (fun i => rowD (mf M7 i, match lkI i with | some q => (nf N5 q.1, nf N5 q.2) | none => ("", ""))) = (fixR N5 M7).map rowD := by rw [List.filter_eq_self.mpr (by simp), fixR, List.map_map]; rfl
      rw [e0, fq_push]
      exact ⟨blws_rows, hJ _ _ ⟨rfl, rfl⟩⟩
  rintro e h ⟨rfl, rfl⟩
  have a0 := aN 0
  have a2 := aN 2
  have a4 := aN 4
  have b0 := aM 0
  have b1 := aM 1
  have b2 := aM 2
  have b3 := aM 3
  have b4 := aM 4
  have b5 := aM 5
  refine seq_cutJ (fun e h => e = [some (.ref 0), some (.rol (N5.map .str)), some (.rol (M7.map .str)), some (.rol planD), some (.rol ((fixR N5 M7).map rowD)), some (fixN N5 M7), none, none, none, none, none, none, none, none, none] ∧ p2.ob :: loc = h) (fun J hJ => ?_) ?_
  · generalize p2.ob :: loc = H at hJ ⊢
    have s1 : oSorted [.rol ((fixR N5 M7).map rowD)] H = some (.ref H.length, H ++ [.lst ((srtR N5 M7).map rowD)]) := o_sorted_r rfl (by rw [fixR, List.length_map, List.length_finRange]; omega)
    have s2 : oSorted [.rol [.str (mf M7 4), .str (mf M7 5)]] H = some (.ref H.length, H ++ [.lst ((isort leS [mf M7 4, mf M7 5]).map .str)]) := o_sorted_s (xs := [mf M7 4, mf M7 5]) rfl (by simp; omega)
    have a0' : L2.atI (N5.map D.str) 0 = _ := a0
    have a2' : L2.atI (N5.map D.str) 2 = _ := a2
    have a4' : L2.atI (N5.map D.str) 4 = _ := a4
    have b4' : L2.atI (M7.map D.str) 4 = _ := b4
    have b5' : L2.atI (M7.map D.str) 5 = _ := b5
    simp [hs, s1, a0', a2', a4', b4', b5', s2]
    exact hJ _ _ ⟨rfl, rfl⟩
  rintro e h ⟨rfl, rfl⟩
  -- the rows
  refine seq_cutJ (fun e h => ∃ l, e = [some (.ref 0), some (.rol (N5.map .str)), some (.rol (M7.map .str)), some (.rol planD), some (.rol ((fixR N5 M7).map rowD)), some (fixN N5 M7), some (.rol l), none, none, none, none, none, none, none, none] ∧ p2.ob :: loc = h ∧ l = [.tup [.int 0, .int 1], .tup [.int 1, .int 0], .tup [.int 0, .int 2, .int 3], .tup [.int 3, .int 2, .int 0], .tup [.int 4], .tup [.int 5], .tup [.int 0], .tup [.int 2, .int 3], .tup [.int 3, .int 2], .tup [.int 2], .tup [.int 3], .tup [.int 6, .int 2], .tup [.int 2, .int 6], .tup [.int 4, .int 5]]) (fun J hJ => ?_) ?_
  · generalize p2.ob :: loc = H at hJ ⊢
    simp [hs]
    exact hJ _ _ ⟨_, rfl, rfl, rfl⟩
  rintro e h ⟨l1, rfl, rfl, hl1⟩
  refine seq_cutJ (fun e h => e = [some (.ref 0), some (.rol (N5.map .str)), some (.rol (M7.map .str)), some (.rol planD), some (.rol ((fixR N5 M7).map rowD)), some (fixN N5 M7), some (.rol (rowsI.map rI)), none, none, none, none, none, none, none, none] ∧ p2.ob :: loc = h) (fun J hJ => ?_) ?_
  · generalize p2.ob :: loc = H at hJ ⊢
    have hl : l1.length = 14 := by rw [hl1]; rfl
    have hb : ∀ n, D.blws n l1 = true := fun n => by rw [hl1]; simp
    simp [hs]
    rw [addX_l (xs := l1) rfl (by simp [lstD]; rfl) (.inl ⟨_, rfl⟩) (by simp [hl]; omega), owp_some, fq_next]
    refine ⟨by simp [hb], ?_⟩
    rw [hl1, rows_lit]
    exact hJ _ _ ⟨rfl, rfl⟩
  rintro e h ⟨rfl, rfl⟩
  have nw := F.Nw
  have rl7 : (srtR N5 M7).length = 7 := by rw [srt_perm.length_eq, fixR, List.length_map, List.length_finRange]
  have fgw : ∀ (r : List (Fin 7)) (ds : List Int) mh, r ∈ rowsI → ds.length = 7 → m__law_good_way [fixN N5 M7, .tup ((r.map (mf M7)).map .str), .tup (ds.map .int)] mh = .ok (.bl true) mh := fun r ds mh hr hd => by
    obtain ⟨h1, NS, h2⟩ := rows_right r hr
    have hlen : r.length ≤ 100 := by
      have : ∀ r ∈ rowsI, r.length ≤ 100 := by decide
      exact this r hr
    exact good_way_ok (F.way h2 h1 hlen) (by rw [F.n5]; omega) (by rw [rl7, hd])
  have fgd : ∀ (d : D) mh, Th d → m__law_good [fixN N5 M7, d] mh = .ok (.bl true) mh := fun d mh ht => good_ok (A := .tup (N5.map .str)) (B := .tup ([nf N5 0, nf N5 2, nf N5 4].map .str)) (C := .tup ((isort leS [mf M7 4, mf M7 5]).map .str)) (mh := mh) (by rw [rl7]; omega) F.nodup ht
  have fst : ∀ (d : D) (mh : MH) (Q : D → MH → Prop) (E : Exn → MH → Prop), Th d → (∀ x h, stQ mh (flt (srtR N5 M7) d) x h → Q x h) → (m__law_steps [fixN N5 M7, d] mh).wp Q E := fun d mh Q E ht hq => steps_wp (A := .tup (N5.map .str)) (B := .tup ([nf N5 0, nf N5 2, nf N5 4].map .str)) (C := .tup ((isort leS [mf M7 4, mf M7 5]).map .str)) (mh := mh) (by rw [rl7]; omega) ht hq
  have fck : ∀ mh, m_check_way [fixN N5 M7, .tup [.str (mf M7 0)]] mh = .ok .non mh := fun mh => by
    have w := F.way (r := [0]) (NS := [0, 1]) (by decide +kernel) (by simp) (by simp)
    have := check_ok (A := .tup (N5.map .str)) (B := .tup ([nf N5 0, nf N5 2, nf N5 4].map .str)) (C := .tup ((isort leS [mf M7 4, mf M7 5]).map .str)) (mh := mh) w.hl w.hn (th_way w)
    rw [flt_way w] at this
    exact this
  have frt : ∀ mh, m_is_route [fixN N5 M7, .tup [.str (mf M7 4)]] mh = .ok (.bl true) mh := fun mh => by
    have w := F.way (r := [4]) (NS := [0, 4]) (by decide +kernel) (by simp) (by simp)
    have := is_route_ok (A := .tup (N5.map .str)) (ms := [nf N5 0, nf N5 2, nf N5 4]) (C := .tup ((isort leS [mf M7 4, mf M7 5]).map .str)) (mh := mh) w
    simp only [List.map_cons, List.map_nil, F.route4] at this
    exact this
  have fs1 : ∀ mh, m_is_short [fixN N5 M7, .tup [.str (mf M7 0), .str (mf M7 1)]] mh = .ok (.bl true) mh := fun mh => by
    have w := F.way (r := [0, 1]) (NS := [0, 1, 4]) (by decide +kernel) (by simp) (by simp)
    have := is_short_ok (A := .tup (N5.map .str)) (ms := [nf N5 0, nf N5 2, nf N5 4]) (C := .tup ((isort leS [mf M7 4, mf M7 5]).map .str)) (mh := mh) w
    rw [show ((([0, 1, 4] : List (Fin 5)).map (nf N5)).drop 1).take ((([0, 1, 4] : List (Fin 5)).map (nf N5)).length - 2) = [nf N5 1] from rfl] at this
    have h1 : nf N5 1 ∉ [nf N5 0, nf N5 2, nf N5 4] := by
      simp only [List.mem_cons, List.not_mem_nil, or_false, not_or]
      exact ⟨fun e => absurd (F.inj_n _ _ e) (by decide), fun e => absurd (F.inj_n _ _ e) (by decide), fun e => absurd (F.inj_n _ _ e) (by decide)⟩
    rw [show ([nf N5 1].all fun x => decide (x ∉ [nf N5 0, nf N5 2, nf N5 4])) = true by simpa using h1] at this
    exact this
  have fs2 : ∀ mh, m_is_short [fixN N5 M7, .tup [.str (mf M7 0), .str (mf M7 2), .str (mf M7 3)]] mh = .ok (.bl false) mh := fun mh => by
    have w := F.way (r := [0, 2, 3]) (NS := [0, 1, 2, 4]) (by decide +kernel) (by simp) (by simp)
    have := is_short_ok (A := .tup (N5.map .str)) (ms := [nf N5 0, nf N5 2, nf N5 4]) (C := .tup ((isort leS [mf M7 4, mf M7 5]).map .str)) (mh := mh) w
    rw [show ((([0, 1, 2, 4] : List (Fin 5)).map (nf N5)).drop 1).take ((([0, 1, 2, 4] : List (Fin 5)).map (nf N5)).length - 2) = [nf N5 1, nf N5 2] from rfl] at this
    rw [show ([nf N5 1, nf N5 2].all fun x => decide (x ∉ [nf N5 0, nf N5 2, nf N5 4])) = false by simp] at this
    exact this
  have fpr : ∀ mh, m_is_probe [fixN N5 M7, .tup [.str (mf M7 5)]] mh = .ok (.bl true) mh := fun mh => by
    have w := F.way (r := [5]) (NS := [3, 4]) (by decide +kernel) (by simp) (by simp)
    have := is_probe_ok (A := .tup (N5.map .str)) (ms := [nf N5 0, nf N5 2, nf N5 4]) (gs := isort leS [mf M7 4, mf M7 5]) (mh := mh) w
    have hm : mf M7 5 ∈ isort leS [mf M7 4, mf M7 5] := (isort_perm_self (le := leS) _).mem_iff.mpr (by simp)
    rw [show (decide ((([5] : List (Fin 7)).map (mf M7)).length = 1) && decide (∀ x ∈ ([5] : List (Fin 7)).map (mf M7), x ∈ isort leS [mf M7 4, mf M7 5])) = true by simpa using hm, Bool.or_true] at this
    exact this
  have frd : ∀ mh, m_reading_of [fixN N5 M7, .tup [.str (mf M7 0), .str (mf M7 1)], .tup ((List.replicate 7 (1 : Int)).map .int)] mh = .ok (.int 2) mh := fun mh => by
    have w := F.way (r := [0, 1]) (NS := [0, 1, 4]) (by decide +kernel) (by simp) (by simp)
    have := reading_ok (ns := N5) (B := .tup ([nf N5 0, nf N5 2, nf N5 4].map .str)) (C := .tup ((isort leS [mf M7 4, mf M7 5]).map .str)) (mh := mh) (ds := List.replicate 7 1) w (by rw [F.n5]; omega) (by rw [rl7]; rfl)
    have one : ∀ i : Fin 7, gv ((srtR N5 M7).zip (List.replicate 7 1)) (mf M7 i) = 1 := fun i => by
      obtain ⟨q, hq⟩ := lkI_some i
      obtain ⟨j, hj⟩ := lk_pl (rs := srtR N5 M7) (x := mf M7 i) (by rw [F.lk, hq]; rfl)
      have h := (place_gv (mf M7 i) (srtR N5 M7) (List.replicate 7 1) (by rw [rl7]; rfl) j hj).2
      rw [List.getElem?_replicate] at h
      split at h
      · exact (Option.some.inj h).symm
      · cases h
    simp only [List.map_cons, List.map_nil, one] at this
    exact this
  generalize fixN N5 M7 = N at fgw fgd fst fck frt fs1 fs2 fpr frd ⊢
  refine seq_cutJ (fun e h => ∃ (p' : Pl) (ds : List Int), e = [some (.ref 0), some (.rol (N5.map .str)), some (.rol (M7.map .str)), some (.rol planD), some (.rol ((fixR N5 M7).map rowD)), some N, some (.rol (rowsI.map rI)), some (.tup (ds.map .int)), none, none, none, none, none, none, none] ∧ h = p'.ob :: loc ∧ ds.length = 7) (fun J hJ => ?_) ?_
  · simp
    refine delays_ok (many := 7) (by omega) fun ds p3 hd => ?_
    exact hJ _ _ ⟨p3, ds, by simp, rfl, hd⟩
  rintro e h ⟨p3, ds, rfl, rfl, hd7⟩
  generalize hpl : D.rol planD = v3
  generalize hfr : D.rol ((fixR N5 M7).map rowD) = v4
  obtain ⟨I, hI⟩ : ∃ I : Nv → MH → Prop, ∀ e h, I e h ↔ ∃ v8, e = [some (.ref 0), some (.rol (N5.map .str)), some (.rol (M7.map .str)), some v3, some v4, some N, some (.rol (rowsI.map rI)), some (.tup (ds.map .int)), v8, none, none, none, none, none, none] ∧ h = p3.ob :: loc := ⟨_, fun _ _ => Iff.rfl⟩
  refine seq_cut I ?_ ?_
  · rw [wp_sfor, wp_iter, wp_vr]
    refine ⟨_, rfl, _, rfl, ?_⟩
    refine loop_as rowsI rI (fun _ _ => I) ((hI _ _).mpr ⟨none, rfl, rfl⟩) ?_ (fun e h q => ⟨rfl, q⟩)
    intro i r xs e h hd hi hx q
    obtain ⟨v8, rfl, rfl⟩ := (hI _ _).mp q
    refine ⟨rfl, _, rfl, ?_⟩
    have hr := List.mem_of_getElem? hx
    have hlen : r.length ≤ 100 := (by decide : ∀ r ∈ rowsI, r.length ≤ 100) r hr
    rw [wp_sif, wp_tnot, wp_tru, wp_cal, wp_acons, wp_vr]
    refine ⟨_, rfl, ?_⟩
    rw [wp_acons, wp_ap, wp_acons]
    refine names_lc F (r := r) hlen rfl (fun _ => rfl) (by simp) ?_
    rw [wp_anil, o_tuple]
    refine ⟨_, rfl, ?_⟩
    rw [wp_acons, wp_vr]
    refine ⟨_, rfl, ?_⟩
    rw [wp_anil, fgw r ds _ hr hd7]
    simp
    rw [hI]; exact ⟨_, rfl, rfl⟩
  intro e h q
  obtain ⟨v8, rfl, rfl⟩ := (hI _ _).mp q
  clear q hI I
  -- the wrong ones
  refine seq_cutJ (fun e h => ∃ l, e = [some (.ref 0), some (.rol (N5.map .str)), some (.rol (M7.map .str)), some v3, some v4, some N, some (.rol (rowsI.map rI)), some (.tup (ds.map .int)), v8, some (.ref (loc.length + 1)), none, none, none, none, none] ∧ h = p3.ob :: (loc ++ [.lst l]) ∧ l = [.tup [.int 0, .int 6], .tup [.int 0, .int 0], .tup [.int 0, .int 3], .tup [.int 0, .int 1, .int 4], .tup [.int 0, .int 2, .int 3, .int 4], .tup [.int 0, .int 2, .int 3, .int 1], .tup [.int 4, .int 1, .int 0], .tup [.int 2, .int 3, .int 1], .tup [.int 1, .int 0, .int 6]]) (fun J hJ => ?_) ?_
  · simp [hs]
    exact hJ _ _ ⟨_, rfl, rfl, rfl⟩
  rintro e h ⟨l1, rfl, rfl, hl1⟩
  refine seq_cutJ (fun e h => e = [some (.ref 0), some (.rol (N5.map .str)), some (.rol (M7.map .str)), some v3, some v4, some N, some (.rol (rowsI.map rI)), some (.tup (ds.map .int)), v8, some (.ref (loc.length + 1)), none, none, none, none, none] ∧ h = p3.ob :: (loc ++ [.lst (wrongI.map rI)])) (fun J hJ => ?_) ?_
  · have hl : l1.length < sizeLine := by rw [hl1]; exact hs' _ (by decide)
    simp [hs, hl]
    refine hJ _ _ ⟨rfl, ?_⟩
    rw [hl1, ← wrong_lit]
  rintro e h ⟨rfl, rfl⟩
  obtain ⟨I, hI⟩ : ∃ I : Nv → MH → Prop, ∀ e h, I e h ↔ ∃ (v8 v10 : Option D) (g : MH), e = [some (.ref 0), some (.rol (N5.map .str)), some (.rol (M7.map .str)), some v3, some v4, some N, some (.rol (rowsI.map rI)), some (.tup (ds.map .int)), v8, some (.ref (loc.length + 1)), v10, none, none, none, none] ∧ h = p3.ob :: (loc ++ .lst (wrongI.map rI) :: g) := ⟨_, fun _ _ => Iff.rfl⟩
  refine seq_cut I ?_ ?_
  · rw [wp_sfor, wp_iter, wp_vr]
    refine ⟨_, rfl, _, itD_ref (xs := wrongI.map rI) (by simp), ?_⟩
    have hck : ∀ g : MH, lstIs (loc.length + 1) (wrongI.map rI) (p3.ob :: (loc ++ .lst (wrongI.map rI) :: g)) = true := fun g => lstIs_of get_loc
    have hdn : ∀ e h, I e h → lstIs (loc.length + 1) (wrongI.map rI) h = true ∧ I e h := fun e h q => by
      obtain ⟨_, _, g, rfl, rfl⟩ := (hI _ _).mp q
      exact ⟨hck g, q⟩
    refine loop_as wrongI rI (fun _ _ => I) ((hI _ _).mpr ⟨v8, none, [], rfl, rfl⟩) ?_ hdn
    intro i r xs e h hd hi hx q
    obtain ⟨v8, v10, g, rfl, rfl⟩ := (hI _ _).mp q
    refine ⟨hck g, _, rfl, ?_⟩
    have hr := List.mem_of_getElem? hx
    have hlen : r.length ≤ 100 := (by decide : ∀ r ∈ wrongI, r.length ≤ 100) r hr
    obtain ⟨hne, k, hk⟩ := rows_wrong r hr
    have hbad := F.bad hk hne
    have hth : Th (.tup ((r.map (mf M7)).map .str)) := ⟨by simp; omega, fun d hd => by obtain ⟨_, _, rfl⟩ := List.mem_map.mp hd; rfl⟩
    have hth2 : Th (.tup ((r.map (mf M7)).map .str ++ [.non])) := ⟨by simp; omega, fun d hd => by
      rcases List.mem_append.mp hd with hd | hd
      · obtain ⟨_, _, rfl⟩ := List.mem_map.mp hd; rfl
      · rw [List.mem_singleton.mp hd]; rfl⟩
    have hwl : ((r.map (mf M7)).map D.str).length + 1 ≤ sizeLine := by simp; omega
    refine seq_cutJ (fun e h => e = [some (.ref 0), some (.rol (N5.map .str)), some (.rol (M7.map .str)), some v3, some v4, some N, some (.rol (rowsI.map rI)), some (.tup (ds.map .int)), some (rI r), some (.ref (loc.length + 1)), some (.tup ((r.map (mf M7)).map .str)), none, none, none, none] ∧ h = p3.ob :: (loc ++ .lst (wrongI.map rI) :: g)) (fun J hJ => ?_) ?_
    · rw [wp_sst, wp_ap, wp_acons]
      refine names_lc F (r := r) hlen rfl (fun _ => rfl) (by simp) ?_
      rw [wp_anil, o_tuple]
      exact ⟨_, rfl, hJ _ _ ⟨rfl, rfl⟩⟩
    rintro e h ⟨rfl, rfl⟩
    generalize hW : (r.map (mf M7)).map D.str = W at hbad hth hth2 hwl ⊢
    rw [wp_sif, wp_tor, wp_tb, wp_bi, wp_bi, wp_cal, wp_acons, wp_vr]
    refine ⟨_, rfl, ?_⟩
    rw [wp_acons, wp_vr]
    refine ⟨_, rfl, ?_⟩
    rw [wp_anil]
    refine ⟨rfl, fst _ _ _ _ hth fun x h q => ?_⟩
    rw [hbad] at q
    obtain ⟨g2, n, rfl, rfl, hn, q⟩ := q
    have fin := (hI [some (.ref 0), some (.rol (N5.map .str)), some (.rol (M7.map .str)), some v3, some v4, some N, some (.rol (rowsI.map rI)), some (.tup (ds.map .int)), some (rI r), some (.ref (loc.length + 1)), some (.tup W), none, none, none, none] (p3.ob :: (loc ++ .lst (wrongI.map rI) :: g) ++ g2)).mpr ⟨_, _, g ++ g2, rfl, by simp⟩
    generalize p3.ob :: (loc ++ .lst (wrongI.map rI) :: g) ++ g2 = H at q fin ⊢
    simp [q, oIs, isD, fgd _ _ hth, fgd _ _ hth2, hs, hwl]
    exact fin
  intro e h q
  obtain ⟨v8, v10, g, rfl, rfl⟩ := (hI _ _).mp q
  clear q hI I
  have b0' : L2.atI (M7.map D.str) 0 = _ := b0
  have b1' : L2.atI (M7.map D.str) 1 = _ := b1
  have b2' : L2.atI (M7.map D.str) 2 = _ := b2
  have b3' : L2.atI (M7.map D.str) 3 = _ := b3
  have b4' : L2.atI (M7.map D.str) 4 = _ := b4
  have b5' : L2.atI (M7.map D.str) 5 = _ := b5
  have a0' : L2.atI (N5.map D.str) 0 = _ := a0
  obtain ⟨L, hL⟩ : ∃ L, L = loc ++ Ob.lst (wrongI.map rI) :: g := ⟨_, rfl⟩
  rw [← hL]
  refine seq_cutJ (fun e h => e = [some (.ref 0), some (.rol (N5.map .str)), some (.rol (M7.map .str)), some v3, some v4, some N, some (.rol (rowsI.map rI)), some (.tup (ds.map .int)), v8, some (.ref (loc.length + 1)), v10, some (.str (mf M7 0)), none, none, none] ∧ h = p3.ob :: L) (fun J hJ => ?_) ?_
  · simp [b0']
    exact hJ _ _ ⟨rfl, rfl⟩
  rintro e h ⟨rfl, rfl⟩
  obtain ⟨T1, hT1⟩ : ∃ T1, T1 = (thingsD (mf M7 0) (mf M7 1) (nf N5 0)).take 14 := ⟨_, rfl⟩
  refine seq_cutJ (fun e h => e = [some (.ref 0), some (.rol (N5.map .str)), some (.rol (M7.map .str)), some v3, some v4, some N, some (.rol (rowsI.map rI)), some (.tup (ds.map .int)), v8, some (.ref (loc.length + 1)), v10, some (.str (mf M7 0)), some (.rol T1), none, none] ∧ p3.ob :: L = h) (fun J hJ => ?_) ?_
  · generalize p3.ob :: L = H at hJ ⊢
    simp [hs]
    refine hJ _ _ ⟨?_, rfl⟩
    rw [hT1]; rfl
  rintro e h ⟨rfl, rfl⟩
  have hTl : T1.length = 14 := by rw [hT1]; rfl
  have hTb : ∀ n, D.blws n T1 = true := fun n => by rw [hT1]; simp [thingsD]
  have al : (nf N5 0).length ≤ 30 := (F.nw _ (F.mem_n 0)).1
  have dl : (Str.ofString "-").length = 1 := rfl
  have adl : (nf N5 0).length + 1 ≤ sizeLine := by omega
  obtain ⟨I, hI⟩ : ∃ I : Nv → MH → Prop, ∀ e h, I e h ↔ ∃ (v13 : Option D) (g : MH), e = [some (.ref 0), some (.rol (N5.map .str)), some (.rol (M7.map .str)), some v3, some v4, some N, some (.rol (rowsI.map rI)), some (.tup (ds.map .int)), v8, some (.ref (loc.length + 1)), v10, some (.str (mf M7 0)), some (.rol T1), v13, none] ∧ h = p3.ob :: (L ++ g) := ⟨_, fun _ _ => Iff.rfl⟩
  refine seq_cut I ?_ ?_
  · have h0 : I [some (.ref 0), some (.rol (N5.map .str)), some (.rol (M7.map .str)), some v3, some v4, some N, some (.rol (rowsI.map rI)), some (.tup (ds.map .int)), v8, some (.ref (loc.length + 1)), v10, some (.str (mf M7 0)), some (.rol T1), none, none] (p3.ob :: L) := (hI _ _).mpr ⟨none, [], rfl, by simp⟩
    have hIs : ∀ (H : MH) (O : Po), O.nx = I → I [some (.ref 0), some (.rol (N5.map .str)), some (.rol (M7.map .str)), some v3, some v4, some N, some (.rol (rowsI.map rI)), some (.tup (ds.map .int)), v8, some (.ref (loc.length + 1)), v10, some (.str (mf M7 0)), some (.rol T1), none, none] H →
        (loopF (fun _ => true) (.nm 13) (sif (tor (tb (bi oIs (bi oIx (cal 2 m__law_steps (acons (vr 5) (acons (vr 13) (anil)))) (kn (.int 0))) (kn .non))) (tnot (tru (cal 2 m__law_good (acons (vr 5) (acons (vr 13) (anil))))))) (ret (kn (.bl false))) (nop)) (thingsD (mf M7 0) (mf M7 1) (nf N5 0)) [some (.ref 0), some (.rol (N5.map .str)), some (.rol (M7.map .str)), some v3, some v4, some N, some (.rol (rowsI.map rI)), some (.tup (ds.map .int)), v8, some (.ref (loc.length + 1)), v10, some (.str (mf M7 0)), some (.rol T1), none, none] H).wp O := fun H O hO h0 => by
      have e0 : thingsD (mf M7 0) (mf M7 1) (nf N5 0) = (thingsD (mf M7 0) (mf M7 1) (nf N5 0)).map id := by simp
      have hth := F.things (mf M7 0) (mf M7 1) (nf N5 0)
      rw [e0]
      generalize thingsD (mf M7 0) (mf M7 1) (nf N5 0) = T at hth
      refine loop_as T id (fun _ _ => I) h0 ?_ (fun e h q => ⟨rfl, by rw [hO]; exact q⟩)
      intro i d xs e h hd hi hx q
      obtain ⟨v13, g, rfl, rfl⟩ := (hI _ _).mp q
      obtain ⟨ht, k, hk⟩ := hth d (List.mem_of_getElem? hx)
      refine ⟨rfl, _, rfl, ?_⟩
      rw [wp_sif, wp_tor, wp_tb, wp_bi, wp_bi, wp_cal, wp_acons, wp_vr]
      refine ⟨_, rfl, ?_⟩
      rw [wp_acons, wp_vr]
      refine ⟨_, rfl, ?_⟩
      rw [wp_anil]
      refine ⟨rfl, fst _ _ _ _ ht fun x h q => ?_⟩
      have hk' : flt (srtR N5 M7) (id d) = .inl k := hk
      rw [hk'] at q
      obtain ⟨g2, n, rfl, rfl, hn, q⟩ := q
      have fin := (hI [some (.ref 0), some (.rol (N5.map .str)), some (.rol (M7.map .str)), some v3, some v4, some N, some (.rol (rowsI.map rI)), some (.tup (ds.map .int)), v8, some (.ref (loc.length + 1)), v10, some (.str (mf M7 0)), some (.rol T1), some d, none] (p3.ob :: (L ++ g) ++ g2)).mpr ⟨_, g ++ g2, rfl, by simp⟩
      generalize p3.ob :: (L ++ g) ++ g2 = H at q fin ⊢
      simp [q, oIs, isD, fgd _ _ ht]
      exact fin
    generalize p3.ob :: L = H at h0 ⊢
    rw [wp_sfor, wp_iter, wp_fz]
    simp [b1', a0', dl, adl, hs]
    rw [addX_l (xs := T1) rfl (by simp [lstD]; rfl) (.inl ⟨_, rfl⟩) (by simp [hTl]; omega), owp_some, fq_next]
    refine ⟨by simp [hTb], ?_⟩
    refine ⟨_, rfl, ?_⟩
    have et : T1 ++ [.tup [.str (mf M7 0), .str (mf M7 1), .str (nf N5 0 ++ Str.ofString "-")], .tup [.str (mf M7 0), .str "", .int 1], .tup [.str (nf N5 0 ++ Str.ofString "-")]] = thingsD (mf M7 0) (mf M7 1) (nf N5 0) := by rw [hT1]; rfl
    rw [et]
    exact hIs H _ rfl h0
  intro e h q
  obtain ⟨v13, g2, rfl, rfl⟩ := (hI _ _).mp q
  clear q hI I
  have hend : Kept (p.ob :: loc) (p3.ob :: (L ++ g2)) ∧ Q (.bl true) (List.take (loc.length + 1) (p3.ob :: (L ++ g2))) := by
    rw [hL, List.append_assoc]
    exact ⟨kept_pls, by rw [take_pl]; exact hq p3⟩
  generalize p3.ob :: (L ++ g2) = H at hend ⊢
  have hrep : ∀ h, oMulX (.tup [.int 1]) (.int 7) h = some (.tup ((List.replicate 7 (1 : Int)).map .int), h) := fun h => by
    rw [o_mul_t (by omega) (by omega) (by simp)]; rfl
  have frd2 : ∀ mh, m_reading_of [N, .tup [.str (mf M7 0), .str (mf M7 1)], .tup [.int 1, .int 1, .int 1, .int 1, .int 1, .int 1, .int 1]] mh = .ok (.int 2) mh := frd
  simp [hs, b0', b1', b2', b3', b4', b5', fck, frt, fs1, fs2, fpr, oIsNot, isD, pickD, hrep, frd2]
  exact hend
end
end K07
namespace K07
open PySem Det
theorem zip_names {names : List Str} {es : List (Str × Str)} (hl : names.length = es.length) : ((names.zip es).map mkR).map (·.1) = names := by
  rw [List.map_map]
  have := List.map_fst_zip (l₁ := names) (l₂ := es) (by omega)
  exact this
theorem nw_of {nodes names : List Str} {es : List (Str × Str)} (h0 : 0 < nodes.length) (h1 : nodes.length ≤ 60) (hsh : ∀ x ∈ nodes, x.length ≤ 30) (hnd : names.Nodup) (hl : names.length = es.length) (hns : ∀ x ∈ names, x.length ≤ 30) (e1 : 1 ≤ es.length) (e2 : es.length ≤ 60) : Nw (isort leS nodes) (isort leR ((names.zip es).map mkR)) := by
  have pn := isort_perm_self (le := leS) nodes
  have pr := isort_perm_self (le := leR) ((names.zip es).map mkR)
  have zl : ((names.zip es).map mkR).length = es.length := by rw [List.length_map, List.length_zip]; omega
  have nn : (((names.zip es).map mkR).map (·.1)).Nodup := by rw [zip_names hl]; exact hnd
  refine ⟨by rw [pn.length_eq]; exact h0, by rw [pn.length_eq]; exact h1, by rw [pr.length_eq]; omega, by rw [pr.length_eq]; omega, (pr.map (·.1)).nodup_iff.mpr nn, fun l hl2 => ?_, fun x hx => hsh x (pn.mem_iff.mp hx)⟩
  have : l.1 ∈ names := by
    rw [← zip_names hl]
    exact List.mem_map.mpr ⟨l, pr.mem_iff.mp hl2, rfl⟩
  exact hns _ this
theorem mk_cn {rs : List Row} (nd : (rs.map (·.1)).Nodup) {x a b : Str} (h : mkR (x, a, b) ∈ rs) : Cn (lkR rs) x a b := by
  have := lk_mem nd h
  unfold Cn
  rw [show x = (mkR (x, a, b)).1 from rfl, this]
  unfold mkR mnS mxS
  simp only
  rw [ltS_iff, ltS_iff]
  cases h1 : leS a b with
  | true => cases h2 : leS b a with
    | true => have := leS_anti h1 h2; subst this; simp
    | false => simp
  | false => cases h2 : leS b a with
    | true => simp
    | false =>
      have := leS_total a b
      rw [h1, h2] at this; cases this
/-- the chain -/
theorem chain_path {rs : List Row} (nd : (rs.map (·.1)).Nodup) : ∀ (nodes names : List Str), names.length + 1 = nodes.length → (∀ i x a b, names[i]? = some x → nodes[i]? = some a → nodes[i + 1]? = some b → Cn (lkR rs) x a b) → Path (lkR rs) nodes names
  | [], names, h, _ => by simp at h
  | [a], [], _, _ => trivial
  | [a], x :: names, h, _ => by simp at h
  | a :: b :: nodes, [], h, _ => by simp at h
  | a :: b :: nodes, x :: names, h, hc => by
    refine ⟨hc 0 x a b rfl rfl rfl, ?_⟩
    refine chain_path nd (b :: nodes) names (by simpa using h) fun i y c d h1 h2 h3 => ?_
    exact hc (i + 1) y c d (by simpa using h1) (by simpa using h2) (by simpa using h3)
end K07
namespace K07
open PySem Det
theorem cut_29 {xs : List D} (h : 29 ≤ xs.length) : cutD xs none (some 29) = xs.take 29 := by
  unfold cutD
  rw [show (some (29 : Int)) = some ((29 : Nat) : Int) from rfl, HT.sIx_nat]
  have : HT.sIx xs.length 0 none = 0 := rfl
  rw [this, show min 29 xs.length = 29 by omega]
  rfl
theorem law_true (ns : List Int) (hl : ns.length ≤ 63) : ∃ mh, m_law [.rol (ns.map .int)] [] = .ok (.bl true) mh := by
  have hz : (1000 : Nat) ≤ sizeLine := by decide
  have hs : ∀ n : Nat, n ≤ 100 → n ≤ sizeLine := fun n h => by omega
  have main : (m_law [.rol (ns.map .int)] []).wp (fun a _ => a = .bl true) (fun _ _ => False) := by
    unfold m_law
    rw [wp_zF, wp_runF]
    generalize hS : D.rol (ns.map .int) = S
    show (sq _ _ [some S, none, none, none, none, none, none, none, none, none, none, none] []).wp _
    refine seq_cut (fun e h => ∃ p, e = [some S, some (.ref 0), none, none, none, none, none, none, none, none, none, none] ∧ h = [Pl.ob p]) ?_ ?_
    · rw [wp_sst, wp_cal, wp_acons, wp_vr]
      refine ⟨S, rfl, ?_⟩
      rw [wp_anil, ← hS]
      exact ⟨rfl, pool_ok hl fun p => ⟨p, rfl, rfl⟩⟩
    rintro e h ⟨p, rfl, rfl⟩
    obtain ⟨I, hI⟩ : ∃ I : Nv → MH → Prop, ∀ e h, I e h ↔ ∃ (p : Pl) (g : MH) (v2 v3 v4 v5 v6 v7 v8 v9 v10 : Option D), e = [some S, some (.ref 0), v2, v3, v4, v5, v6, v7, v8, v9, v10, none] ∧ h = Pl.ob p :: g := ⟨_, fun _ _ => Iff.rfl⟩
    refine seq_cut I ?_ ?_
    · simp
      refine fixed_ok (loc := []) fun p1 => ?_
      simp
      rw [hI]; exact ⟨p1, [], _, _, _, _, _, _, _, _, _, rfl, rfl⟩
    intro e h hj
    refine seq_cut I ?_ ?_
    · obtain ⟨p1, g, v2, v3, v4, v5, v6, v7, v8, v9, v10, rfl, rfl⟩ := (hI _ _).mp hj
      rw [wp_sfor, wp_range1, wp_kn]
      refine ⟨_, rfl, okB_of (by omega) (by omega), ?_⟩
      refine loop_n (fun _ => I) hj ?_ (fun e h q => ⟨rfl, q⟩)
      clear hj v2 v3 v4 v5 v6 v7 v8 v9 v10 p1 g
      intro i e h hi hj
      obtain ⟨p1, g, v2, v3, v4, v5, v6, v7, v8, v9, v10, rfl, rfl⟩ := (hI _ _).mp hj
      clear hj
      refine ⟨rfl, _, rfl, ?_⟩
      refine seq_cutJ (fun e h => ∃ (p : Pl) (many : Nat), e = [some S, some (.ref 0), some (.int (i : Nat)), some (.int (many : Nat)), v4, v5, v6, v7, v8, v9, v10, none] ∧ h = Pl.ob p :: g ∧ 2 ≤ many ∧ many ≤ 7) (fun J hJ => ?_) ?_
      · simp
        refine pick_ok (loc := g) (by omega) (by omega) fun r p2 r0 r1 => ?_
        obtain ⟨a, rfl⟩ := Int.eq_ofNat_of_zero_le r0
        rw [o_add_i, owp_some]
        exact hJ _ _ ⟨p2, 2 + a, by simp, rfl, by omega, by omega⟩
      rintro e h ⟨p2, many, rfl, rfl, m1, m2⟩
      refine seq_cutJ (fun e h => ∃ (p : Pl) (sn : List Str) (sr : List Row) (ms gs : List Str) (x y : D), e = [some S, some (.ref 0), some (.int (i : Nat)), some (.int (many : Nat)), some (.rol [netD sn sr ms gs, x, y]), v5, v6, v7, v8, v9, v10, none] ∧ h = Pl.ob p :: g ∧ Nw sn sr) (fun J hJ => ?_) ?_
      · simp
        refine pick_ok (loc := g) (by omega) (by omega) fun r p3 r0 r1 => ?_
        obtain ⟨c, rfl⟩ := Int.eq_ofNat_of_zero_le r0
        rw [o_add_i, owp_some]
        refine pick_ok (loc := g) (by omega) (by omega) fun s p4 s0 s1 => ?_
        rw [o_eq_i, owp_some]
        rw [show (1 : Int) + (c : Int) = ((1 + c : Nat) : Int) by omega]
        refine net_ok (loc := g) (many := many) (count := 1 + c) m1 (by omega) (by omega) (by omega) ?_
        intro nodes names ms gs es p5 h1 h2 h3 h4 h5 h6 h7 h8 _ _ _ _
        exact hJ _ _ ⟨p5, _, _, ms, gs, _, _, rfl, rfl, nw_of (by omega) (by omega) h3 h4 h5 h6 h7 h8⟩
      rintro e h ⟨p3, sn, sr, ms, gs, x, y, rfl, rfl, nw⟩
      simp
      refine good_net_ok (loc := g) (laps := 4) nw (by omega) fun p4 => ?_
      simp
      rw [hI]; exact ⟨p4, g, _, _, _, _, _, _, _, _, _, rfl, rfl⟩
    intro e h hj
    obtain ⟨p1, g, v2, v3, v4, v5, v6, v7, v8, v9, v10, rfl, rfl⟩ := (hI _ _).mp hj
    clear hj
    refine seq_cut I ?_ ?_
    · rw [wp_sif, wp_tb, wp_bi, wp_cal, wp_acons, wp_vr]
      refine ⟨_, rfl, ?_⟩
      rw [wp_acons, wp_kn, wp_anil]
      refine ⟨rfl, pick_ok (loc := g) (by omega) (by omega) fun r p2 r0 r1 => ?_⟩
      rw [wp_kn, o_eq_i, owp_some]
      refine ⟨_, rfl, fun _ => ?_, fun _ => ?_⟩
      rotate_left
      · rw [wp_nop]; show I _ _; rw [hI]; exact ⟨p2, g, _, _, _, _, _, _, _, _, _, rfl, rfl⟩
      refine seq_cutJ (fun e h => ∃ (p : Pl) (nodes names ms gs : List Str) (es : List (Str × Str)), e = [some S, some (.ref 0), v2, v3, some (.rol [netD (isort leS nodes) (isort leR ((names.zip es).map mkR)) ms gs, .rol (names.map .str), .rol (nodes.map .str)]), v5, v6, v7, v8, v9, v10, none] ∧ h = Pl.ob p :: g ∧ Nw (isort leS nodes) (isort leR ((names.zip es).map mkR)) ∧ nodes.Nodup ∧ nodes.length = 30 ∧ names.Nodup ∧ names.length = 60 ∧ es.length = 60 ∧ (∀ i a b, i + 1 < 30 → nodes[i]? = some a → nodes[i + 1]? = some b → es[i]? = some (a, b))) (fun J hJ => ?_) ?_
      · simp
        refine net_ok (loc := g) (many := 30) (count := 60) (chain := true) (by omega) (by omega) (by omega) (by omega) ?_
        intro nodes names ms gs es p5 h1 h2 h3 h4 h5 h6 h7 h8 h9 h10 _ _
        exact hJ _ _ ⟨p5, nodes, names, ms, gs, es, rfl, rfl, nw_of (by omega) (by omega) h3 h4 h5 h6 h7 h8, h1, h2, h4, by rw [h5, h9 rfl], h9 rfl, h10 rfl⟩
      rintro e h ⟨p3, nodes, names, ms, gs, es, rfl, rfl, nw, nd, nl, md, ml, el, hch⟩
      -- the two ways
      have pr := isort_perm_self (le := leR) ((names.zip es).map mkR)
      have zl : ((names.zip es).map mkR).length = 60 := by rw [List.length_map, List.length_zip]; omega
      have hpath : Path (lkR (isort leR ((names.zip es).map mkR))) nodes (names.take 29) := by
        refine chain_path nw.nd nodes (names.take 29) (by rw [List.length_take]; omega) fun i x a b h1 h2 h3 => ?_
        rw [List.getElem?_take] at h1
        split at h1
        · rename_i hi
          refine mk_cn nw.nd (pr.mem_iff.mpr (List.mem_map.mpr ⟨(x, a, b), ?_, rfl⟩))
          refine List.mem_of_getElem? (i := i) ?_
          rw [List.getElem?_zip_eq_some]
          exact ⟨h1, hch i a b (by omega) h2 h3⟩
        · cases h1
      have t29 : (names.take 29).length = 29 := by rw [List.length_take]; omega
      have tne : names.take 29 ≠ [] := fun e => by rw [e] at t29; cases t29
      obtain ⟨N1, w1⟩ := way_of_path nw hpath nd tne (by omega)
      obtain ⟨N2, w2⟩ := way_of_path nw (Path.rev _ _ hpath) ((List.reverse_perm nodes).nodup_iff.mpr nd) (by simpa using tne) (by simp; omega)
      have rl := nw.r1
      have sl60 : (isort leR ((names.zip es).map mkR)).length = 60 := by rw [pr.length_eq, zl]
      have snl := nw.n1
      generalize isort leS nodes = sn at nw snl ⊢
      generalize isort leR ((names.zip es).map mkR) = sr at nw w1 w2 rl sl60 ⊢
      generalize hW : names.take 29 = W at w1 w2 t29
      refine seq_cutJ (fun e h => e = [some S, some (.ref 0), v2, v3, some (.rol [netD sn sr ms gs, .rol (names.map .str), .rol (nodes.map .str)]), some (netD sn sr ms gs), v6, v7, v8, v9, v10, none] ∧ h = Pl.ob p3 :: g) (fun J hJ => ?_) ?_
      · simp
        exact hJ _ _ ⟨rfl, rfl⟩
      rintro e h ⟨rfl, rfl⟩
      have at0 : L2.atI (nodes.map D.str) 0 = some (.str (nodes.getD 0 "")) := by
        rw [show (0 : Int) = ((0 : Nat) : Int) from rfl, atI_nat, List.getElem?_map, List.getD_eq_getElem?_getD, List.getElem?_eq_getElem (by omega)]; rfl
      have at29 : L2.atI (nodes.map D.str) 29 = some (.str (nodes.getD 29 "")) := by
        rw [show (29 : Int) = ((29 : Nat) : Int) from rfl, atI_nat, List.getElem?_map, List.getD_eq_getElem?_getD, List.getElem?_eq_getElem (by omega)]; rfl
      have am29 : L2.atI (names.map D.str) 29 = some (.str (names.getD 29 "")) := by
        rw [show (29 : Int) = ((29 : Nat) : Int) from rfl, atI_nat, List.getElem?_map, List.getD_eq_getElem?_getD, List.getElem?_eq_getElem (by omega)]; rfl
      generalize nodes.getD 0 "" = na at at0
      generalize nodes.getD 29 "" = nb at at29
      generalize names.getD 29 "" = mc at am29
      refine seq_cutJ (fun e h => e = [some S, some (.ref 0), v2, v3, some (.rol [netD sn sr ms gs, .rol (names.map .str), .rol (nodes.map .str)]), some (netD sn sr ms gs), some (.str (mnS na nb)), v7, v8, v9, v10, none] ∧ h = Pl.ob p3 :: g) (fun J hJ => ?_) ?_
      · simp [at0, at29]
        exact hJ _ _ ⟨rfl, rfl⟩
      rintro e h ⟨rfl, rfl⟩
      refine seq_cutJ (fun e h => e = [some S, some (.ref 0), v2, v3, some (.rol [netD sn sr ms gs, .rol (names.map .str), .rol (nodes.map .str)]), some (netD sn sr ms gs), some (.str (mnS na nb)), some (.str (mxS na nb)), v8, v9, v10, none] ∧ h = Pl.ob p3 :: g) (fun J hJ => ?_) ?_
      · simp [at0, at29]
        exact hJ _ _ ⟨rfl, rfl⟩
      rintro e h ⟨rfl, rfl⟩
      refine seq_cutJ (fun e h => e = [some S, some (.ref 0), v2, v3, some (.rol [netD sn sr ms gs, .rol (names.map .str), .rol (nodes.map .str)]), some (netD sn sr [mnS na nb, mxS na nb] gs), some (.str (mnS na nb)), some (.str (mxS na nb)), v8, v9, v10, none] ∧ h = Pl.ob p3 :: g) (fun J hJ => ?_) ?_
      · have i0 := fun h => (n_ix (ns := sn) (rs := sr) (ms := ms) (gs := gs) 0 h).1
        have i1 := fun h => (n_ix (ns := sn) (rs := sr) (ms := ms) (gs := gs) 0 h).2.1
        have i3 := fun h => (n_ix (ns := sn) (rs := sr) (ms := ms) (gs := gs) 0 h).2.2.2
        simp [i0, i1, i3, hs]
        exact hJ _ _ ⟨rfl, rfl⟩
      rintro e h ⟨rfl, rfl⟩
      refine seq_cutJ (fun e h => ∃ g' : MH, e = [some S, some (.ref 0), v2, v3, some (.rol [netD sn sr ms gs, .rol (names.map .str), .rol (nodes.map .str)]), some (netD sn sr [mnS na nb, mxS na nb] gs), some (.str (mnS na nb)), some (.str (mxS na nb)), some (.tup (W.map .str)), v9, v10, none] ∧ h = Pl.ob p3 :: g') (fun J hJ => ?_) ?_
      · have hc : cutD (names.map D.str) none (some 29) = W.map .str := by rw [cut_29 (by rw [List.length_map]; omega), ← hW, List.map_take]
        simp [hc]
        exact hJ _ _ ⟨_, rfl, rfl⟩
      clear g
      rintro e h ⟨g, rfl, rfl⟩
      have wl29 : W.length = 29 := t29
      refine seq_cutJ (fun e h => e = [some S, some (.ref 0), v2, v3, some (.rol [netD sn sr ms gs, .rol (names.map .str), .rol (nodes.map .str)]), some (netD sn sr [mnS na nb, mxS na nb] gs), some (.str (mnS na nb)), some (.str (mxS na nb)), some (.tup (W.map .str)), some (.tup (W.reverse.map .str)), v10, none] ∧ Pl.ob p3 :: g = h) (fun J hJ => ?_) ?_
      · generalize Pl.ob p3 :: g = H at hJ ⊢
        simp
        refine ⟨okB_of (by omega) (by omega), ?_⟩
        have erg : rgD 0 29 = (List.range 29).map fun i : Nat => D.int (i : Nat) := by simp [rgD]
        rw [erg]
        refine lc_map2 H (List.range 29) (fun i : Nat => D.int (i : Nat)) (fun _ => true) (fun i => .str (W.getD (28 - i) "")) (by simp) (by simp) (by simp; omega) (fun _ => rfl) ?_ ?_
        · intro i hi acc
          have hi : i < 29 := List.mem_range.mp hi
          refine ⟨_, rfl, by simp, fun _ => ?_⟩
          have hat : L2.atI (W.map D.str) ((28 : Int) - (i : Nat)) = some (.str (W.getD (28 - i) "")) := by
            rw [show (28 : Int) - (i : Nat) = ((28 - i : Nat) : Int) by omega, atI_nat, List.getElem?_map, List.getD_eq_getElem?_getD, List.getElem?_eq_getElem (by omega)]; rfl
          simp [wipeD]
          rw [hat]
          simp
        · have e0 : ((List.range 29).filter fun _ => true).map (fun i => D.str (W.getD (28 - i) "")) = W.reverse.map .str := by
            rw [List.filter_eq_self.mpr (by simp)]
            refine List.ext_getElem? fun i => ?_
            rw [List.getElem?_map, List.getElem?_map]
            by_cases hi : i < 29
            · rw [List.getElem?_range hi, List.getElem?_reverse (by omega), wl29]
              rw [List.getElem?_eq_getElem (by omega)]
              simp [List.getD_eq_getElem?_getD, List.getElem?_eq_getElem (show 28 - i < W.length by omega)]
            · rw [List.getElem?_eq_none (by simp; omega), List.getElem?_eq_none (by simp; omega)]; rfl
          rw [e0, fq_push]
          refine ⟨blws_str, ?_⟩
          refine ⟨_, rfl, ?_⟩
          exact hJ _ _ ⟨by simp, rfl⟩
      rintro e h ⟨rfl, rfl⟩
      have gw := fun (mh : MH) (ws NS : List Str) (ds : List Int) (w : Way sr ws NS) (hd : sr.length = ds.length) => good_way_ok (mh := mh) (ms := [mnS na nb, mxS na nb]) (gs := gs) (ns := sn) w (by omega) hd
      have gd : ∀ (mh : MH) (d : D), Th d → m__law_good [netD sn sr [mnS na nb, mxS na nb] gs, d] mh = .ok (.bl true) mh := fun mh d ht => good_ok (A := .tup (sn.map .str)) (B := .tup ([mnS na nb, mxS na nb].map .str)) (C := .tup (gs.map .str)) (mh := mh) (by omega) nw.nd ht
      generalize netD sn sr [mnS na nb, mxS na nb] gs = N2' at gw gd
      have hrep : ∀ h, oMulX (.tup [.int 1000000000]) (.int 60) h = some (.tup ((List.replicate 60 (1000000000 : Int)).map .int), h) := fun h => by
        rw [o_mul_t (by omega) (by omega) (by simp)]; rfl
      obtain ⟨K, hK⟩ : ∃ K : Nv → MH → Prop, ∀ e h, K e h ↔ ∃ (v10 : Option D), e = [some S, some (.ref 0), v2, v3, some (.rol [netD sn sr ms gs, .rol (names.map .str), .rol (nodes.map .str)]), some N2', some (.str (mnS na nb)), some (.str (mxS na nb)), some (.tup (W.map .str)), some (.tup (W.reverse.map .str)), v10, none] ∧ h = Pl.ob p3 :: g := ⟨_, fun _ _ => Iff.rfl⟩
      refine seq_cut K ?_ ?_
      · have hsz : (2 : Nat) ≤ sizeLine := hs 2 (by omega)
        rw [wp_sfor, wp_iter, wp_dtup, wp_acons, wp_vr]
        refine ⟨_, rfl, ?_⟩
        rw [wp_acons, wp_vr]
        refine ⟨_, rfl, ?_⟩
        rw [wp_anil]
        refine ⟨hsz, _, rfl, ?_⟩
        have e0 : [D.tup (W.map .str), D.tup (W.reverse.map .str)] = [W, W.reverse].map fun w => D.tup (w.map .str) := rfl
        have hgo : (loopF (fun _ => true) (.nm 10) (sq (sif (tnot (tru (cal 3 m__law_good_way (acons (vr 5) (acons (vr 10) (acons (bi oMulX (dtup (acons (bi oPow (kn (.int 10)) (kn (.int 9))) (anil))) (kn (.int 60))) (anil))))))) (ret (kn (.bl false))) (nop)) <|
    sif (tor (tnot (tru (cal 2 m__law_good (acons (vr 5) (acons (bi oAdd (vr 10) (dtup (acons (bi oIx (bi oIx (vr 4) (kn (.int 1))) (kn (.int 29))) (anil)))) (anil)))))) (tnot (tru (cal 2 m__law_good (acons (vr 5) (acons (bi oAdd (vr 10) (dtup (acons (kn (.str "zz9")) (anil)))) (anil))))))) (ret (kn (.bl false))) (nop)) ([W, W.reverse].map fun w => D.tup (w.map .str)) [some S, some (.ref 0), v2, v3, some (.rol [netD sn sr ms gs, .rol (names.map .str), .rol (nodes.map .str)]), some N2', some (.str (mnS na nb)), some (.str (mxS na nb)), some (.tup (W.map .str)), some (.tup (W.reverse.map .str)), v10, none] (Pl.ob p3 :: g)).wp { nx := K, rt := fun _ _ => False, bk := fun _ _ => False, ct := fun _ _ => False, ex := fun _ _ _ => False } := by
          refine loop_as [W, W.reverse] (fun w => D.tup (w.map .str)) (fun _ _ => K) ((hK _ _).mpr ⟨_, rfl, rfl⟩) ?_ (fun e h q => ⟨rfl, q⟩)
          intro i w xs e h hd hi hx q
          obtain ⟨v10, rfl, rfl⟩ := (hK _ _).mp q
          refine ⟨rfl, _, rfl, ?_⟩
          have hw : (∃ NS, Way sr w NS) ∧ w.length = 29 := by
            have := List.mem_of_getElem? hx
            simp only [List.mem_cons, List.not_mem_nil, or_false] at this
            rcases this with rfl | rfl
            · exact ⟨⟨N1, w1⟩, wl29⟩
            · exact ⟨⟨N2, w2⟩, by rw [List.length_reverse]; exact wl29⟩
          obtain ⟨⟨NS, hw⟩, wl⟩ := hw
          have y1 := fun mh => gw mh w NS (List.replicate 60 1000000000) hw (by rw [sl60]; rfl)
          have th : ∀ x : Str, Th (.tup (w.map .str ++ [.str x])) := fun x => ⟨by simp; omega, fun d hd => by
            rcases List.mem_append.mp hd with hd | hd
            · obtain ⟨_, _, rfl⟩ := List.mem_map.mp hd; rfl
            · rw [List.mem_singleton.mp hd]; rfl⟩
          have y2 := fun mh x => gd mh _ (th x)
          have fin := fun v10 => (hK [some S, some (.ref 0), v2, v3, some (.rol [netD sn sr ms gs, .rol (names.map .str), .rol (nodes.map .str)]), some N2', some (.str (mnS na nb)), some (.str (mxS na nb)), some (.tup (W.map .str)), some (.tup (W.reverse.map .str)), v10, none] (Pl.ob p3 :: g)).mpr ⟨v10, rfl, rfl⟩
          generalize W.map D.str = U1 at fin ⊢
          generalize W.reverse.map D.str = U2 at fin ⊢
          have wlz : w.length + 1 ≤ sizeLine := by omega
          have hpw : (10 : Int) ^ (9 : Int).toNat = 1000000000 := by decide
          generalize hrp : (List.replicate 60 (1000000000 : Int)).map D.int = RP at hrep y1
          simp [hs, hpw, hrep, y1, y2, am29, wlz]
          exact fin _
        rw [← e0] at hgo
        exact SRes.wp_mono hgo (fun _ _ q => q) (fun _ _ q => q.elim) (fun _ _ q => q.elim) (fun _ _ q => q.elim) fun _ _ _ q => q.elim
      intro e h q
      obtain ⟨v10, rfl, rfl⟩ := (hK _ _).mp q
      simp
      refine good_net_ok (loc := g) (laps := 2) nw (by omega) fun p4 => ?_
      simp
      rw [hI]; exact ⟨p4, g, _, _, _, _, _, _, _, _, _, rfl, rfl⟩
    intro e h hj
    obtain ⟨p1, g, v2, v3, v4, v5, v6, v7, v8, v9, v10, rfl, rfl⟩ := (hI _ _).mp hj
    simp
    exact ⟨Nat.zero_le _, fun i o hi => absurd hi (by simp)⟩
  obtain ⟨a, m, e, rfl⟩ := wp_end main
  exact ⟨m, e⟩
end K07
open PySem PySem.W PyProof.Rows
set_option maxRecDepth 100000 in
set_option maxHeartbeats 0 in
theorem PySem.Challenge.cw_endstell_k07_way_checks_holds : PySem.Challenge.rw_endstell_k07_way_checks.Holds := by
  w_on; o_law; k_head; (case hw => w_witness2)
  k_fill
  refine K07.walk (l := PySem.Challenge.rw_endstell_k07_way_checks) rfl rfl (fun w h Y => PySem.W.kIn_of Y) ?F K07.law_true
  case F =>
    intro w mg fa h KX G hmg
    refine' K07.all_mk (w := w) KX G hmg ?a0 ?l0 ?c0 ?k0 ?a1 ?l1 ?c1 ?k1 ?a2 ?l2 ?c2 ?k2 ?a3 ?l3 ?c3 ?k3 ?a4 ?l4 ?c4 ?k4 ?a5 ?l5 ?c5 ?k5 ?a6 ?l6 ?c6 ?k6 ?a7 ?l7 ?c7 ?k7 ?a8 ?l8 ?c8 ?k8 ?a9 ?l9 ?c9 ?k9 ?a10 ?l10 ?c10 ?k10 ?a11 ?l11 ?c11 ?k11 ?a12 ?l12 ?c12 ?k12 ?a13 ?l13 ?c13 ?k13 ?a14 ?l14 ?c14 ?k14 ?a15 ?l15 ?c15 ?k15 ?a16 ?l16 ?c16 ?k16 ?a17 ?l17 ?c17 ?k17 ?a18 ?l18 ?c18 ?k18 ?a19 ?l19 ?c19 ?k19 ?a20 ?l20 ?c20 ?k20 ?a21 ?l21 ?c21 ?k21 ?a22 ?l22 ?c22 ?k22 ?a23 ?l23 ?c23 ?k23 ?a24 ?l24 ?c24 ?k24 ?a25 ?l25 ?c25 ?k25 ?a26 ?l26 ?c26 ?k26 ?a27 ?l27 ?c27 ?k27 ?z_ValueError ?z_bool ?z_enumerate ?z_int ?z_isinstance ?z_len ?z_list ?z_max ?z_min ?z_range ?z_sorted ?z_str ?z_sum ?z_tuple ?cg ?ct ?en_NetError ?e1_NetError ?e2_NetError ?e3_NetError ?e4_NetError ?e5_NetError ?e6_NetError ?e7_NetError ?e8_NetError ?e9_NetError ?en_DataError ?e1_DataError ?e2_DataError ?e3_DataError ?e4_DataError ?e5_DataError ?e6_DataError ?e7_DataError ?e8_DataError ?e9_DataError ?en_CallError ?e1_CallError ?e2_CallError ?e3_CallError ?e4_CallError ?e5_CallError ?e6_CallError ?e7_CallError ?e8_CallError ?e9_CallError ?en_TextError ?e1_TextError ?e2_TextError ?e3_TextError ?e4_TextError ?e5_TextError ?e6_TextError ?e7_TextError ?e8_TextError ?e9_TextError ?en_DeskError ?e1_DeskError ?e2_DeskError ?e3_DeskError ?e4_DeskError ?e5_DeskError ?e6_DeskError ?e7_DeskError ?e8_DeskError ?e9_DeskError ?en_BadName ?e1_BadName ?e2_BadName ?e3_BadName ?e4_BadName ?e5_BadName ?e6_BadName ?e7_BadName ?e8_BadName ?e9_BadName ?en_BadNet ?e1_BadNet ?e2_BadNet ?e3_BadNet ?e4_BadNet ?e5_BadNet ?e6_BadNet ?e7_BadNet ?e8_BadNet ?e9_BadNet ?en_BadWay ?e1_BadWay ?e2_BadWay ?e3_BadWay ?e4_BadWay ?e5_BadWay ?e6_BadWay ?e7_BadWay ?e8_BadWay ?e9_BadWay ?xL_BadWay ?rv_BadWay ?sa_BadWay ?iC_BadWay ?tI_BadWay ?kC_BadWay ?l_BadWay ?c_BadWay ?k_BadWay ?nf_BadWay_at ?en_BadNumbers ?e1_BadNumbers ?e2_BadNumbers ?e3_BadNumbers ?e4_BadNumbers ?e5_BadNumbers ?e6_BadNumbers ?e7_BadNumbers ?e8_BadNumbers ?e9_BadNumbers ?en_BadBook ?e1_BadBook ?e2_BadBook ?e3_BadBook ?e4_BadBook ?e5_BadBook ?e6_BadBook ?e7_BadBook ?e8_BadBook ?e9_BadBook ?en_BadBounds ?e1_BadBounds ?e2_BadBounds ?e3_BadBounds ?e4_BadBounds ?e5_BadBounds ?e6_BadBounds ?e7_BadBounds ?e8_BadBounds ?e9_BadBounds ?en_BadWood ?e1_BadWood ?e2_BadWood ?e3_BadWood ?e4_BadWood ?e5_BadWood ?e6_BadWood ?e7_BadWood ?e8_BadWood ?e9_BadWood ?en_BadStep ?e1_BadStep ?e2_BadStep ?e3_BadStep ?e4_BadStep ?e5_BadStep ?e6_BadStep ?e7_BadStep ?e8_BadStep ?e9_BadStep ?en_NoDelays ?e1_NoDelays ?e2_NoDelays ?e3_NoDelays ?e4_NoDelays ?e5_NoDelays ?e6_NoDelays ?e7_NoDelays ?e8_NoDelays ?e9_NoDelays ?en_BadText ?e1_BadText ?e2_BadText ?e3_BadText ?e4_BadText ?e5_BadText ?e6_BadText ?e7_BadText ?e8_BadText ?e9_BadText ?en_BadCommand ?e1_BadCommand ?e2_BadCommand ?e3_BadCommand ?e4_BadCommand ?e5_BadCommand ?e6_BadCommand ?e7_BadCommand ?e8_BadCommand ?e9_BadCommand ?en_NoSuch ?e1_NoSuch ?e2_NoSuch ?e3_NoSuch ?e4_NoSuch ?e5_NoSuch ?e6_NoSuch ?e7_NoSuch ?e8_NoSuch ?e9_NoSuch ?en_Taken ?e1_Taken ?e2_Taken ?e3_Taken ?e4_Taken ?e5_Taken ?e6_Taken ?e7_Taken ?e8_Taken ?e9_Taken ?su_BadWay_BadBook ?su_BadWay_BadBounds ?su_BadWay_BadCommand ?su_BadWay_BadName ?su_BadWay_BadNet ?su_BadWay_BadNumbers ?su_BadWay_BadStep ?su_BadWay_BadText ?su_BadWay_BadWay ?su_BadWay_BadWood ?su_BadWay_CallError ?su_BadWay_DataError ?su_BadWay_DeskError ?su_BadWay_NetError ?su_BadWay_NoDelays ?su_BadWay_NoSuch ?su_BadWay_Taken ?su_BadWay_TextError ?su_BadWay_ValueError
    (case a0 => k_is); (case l0 => k_is); (case c0 => k_is); (case k0 => k_is)
    (case a1 => k_is); (case l1 => k_is); (case c1 => k_is); (case k1 => k_is)
    (case a2 => k_is); (case l2 => k_is); (case c2 => k_is); (case k2 => k_is)
    (case a3 => k_is); (case l3 => k_is); (case c3 => k_is); (case k3 => k_is)
    (case a4 => k_is); (case l4 => k_is); (case c4 => k_is); (case k4 => k_is)
    (case a5 => k_is); (case l5 => k_is); (case c5 => k_is); (case k5 => k_is)
    (case a6 => k_is); (case l6 => k_is); (case c6 => k_is); (case k6 => k_is)
    (case a7 => k_is); (case l7 => k_is); (case c7 => k_is); (case k7 => k_is)
    (case a8 => k_is); (case l8 => k_is); (case c8 => k_is); (case k8 => k_is)
    (case a9 => k_is); (case l9 => k_is); (case c9 => k_is); (case k9 => k_is)
    (case a10 => k_is); (case l10 => k_is); (case c10 => k_is); (case k10 => k_is)
    (case a11 => k_is); (case l11 => k_is); (case c11 => k_is); (case k11 => k_is)
    (case a12 => k_is); (case l12 => k_is); (case c12 => k_is); (case k12 => k_is)
    (case a13 => k_is); (case l13 => k_is); (case c13 => k_is); (case k13 => k_is)
    (case a14 => k_is); (case l14 => k_is); (case c14 => k_is); (case k14 => k_is)
    (case a15 => k_is); (case l15 => k_is); (case c15 => k_is); (case k15 => k_is)
    (case a16 => k_is); (case l16 => k_is); (case c16 => k_is); (case k16 => k_is)
    (case a17 => k_is); (case l17 => k_is); (case c17 => k_is); (case k17 => k_is)
    (case a18 => k_is); (case l18 => k_is); (case c18 => k_is); (case k18 => k_is)
    (case a19 => k_is); (case l19 => k_is); (case c19 => k_is); (case k19 => k_is)
    (case a20 => k_is); (case l20 => k_is); (case c20 => k_is); (case k20 => k_is)
    (case a21 => k_is); (case l21 => k_is); (case c21 => k_is); (case k21 => k_is)
    (case a22 => k_is); (case l22 => k_is); (case c22 => k_is); (case k22 => k_is)
    (case a23 => k_is); (case l23 => k_is); (case c23 => k_is); (case k23 => k_is)
    (case a24 => k_is); (case l24 => k_is); (case c24 => k_is); (case k24 => k_is)
    (case a25 => k_is); (case l25 => k_is); (case c25 => k_is); (case k25 => k_is)
    (case a26 => k_is); (case l26 => k_is); (case c26 => k_is); (case k26 => k_is)
    (case a27 => k_is); (case l27 => k_is); (case c27 => k_is); (case k27 => k_is)
    (case z_ValueError => k_is)
    (case z_bool => k_is)
    (case z_enumerate => k_is)
    (case z_int => k_is)
    (case z_isinstance => k_is)
    (case z_len => k_is)
    (case z_list => k_is)
    (case z_max => k_is)
    (case z_min => k_is)
    (case z_range => k_is)
    (case z_sorted => k_is)
    (case z_str => k_is)
    (case z_sum => k_is)
    (case z_tuple => k_is)
    (case cg => k_is)
    (case ct => k_is)
    (case en_NetError => k_is)
    (case e1_NetError => k_is)
    (case e2_NetError => k_is)
    (case e3_NetError => k_is)
    (case e4_NetError => k_is)
    (case e5_NetError => k_is)
    (case e6_NetError => k_is)
    (case e7_NetError => k_is)
    (case e8_NetError => k_is)
    (case e9_NetError => k_is)
    (case en_DataError => k_is)
    (case e1_DataError => k_is)
    (case e2_DataError => k_is)
    (case e3_DataError => k_is)
    (case e4_DataError => k_is)
    (case e5_DataError => k_is)
    (case e6_DataError => k_is)
    (case e7_DataError => k_is)
    (case e8_DataError => k_is)
    (case e9_DataError => k_is)
    (case en_CallError => k_is)
    (case e1_CallError => k_is)
    (case e2_CallError => k_is)
    (case e3_CallError => k_is)
    (case e4_CallError => k_is)
    (case e5_CallError => k_is)
    (case e6_CallError => k_is)
    (case e7_CallError => k_is)
    (case e8_CallError => k_is)
    (case e9_CallError => k_is)
    (case en_TextError => k_is)
    (case e1_TextError => k_is)
    (case e2_TextError => k_is)
    (case e3_TextError => k_is)
    (case e4_TextError => k_is)
    (case e5_TextError => k_is)
    (case e6_TextError => k_is)
    (case e7_TextError => k_is)
    (case e8_TextError => k_is)
    (case e9_TextError => k_is)
    (case en_DeskError => k_is)
    (case e1_DeskError => k_is)
    (case e2_DeskError => k_is)
    (case e3_DeskError => k_is)
    (case e4_DeskError => k_is)
    (case e5_DeskError => k_is)
    (case e6_DeskError => k_is)
    (case e7_DeskError => k_is)
    (case e8_DeskError => k_is)
    (case e9_DeskError => k_is)
    (case en_BadName => k_is)
    (case e1_BadName => k_is)
    (case e2_BadName => k_is)
    (case e3_BadName => k_is)
    (case e4_BadName => k_is)
    (case e5_BadName => k_is)
    (case e6_BadName => k_is)
    (case e7_BadName => k_is)
    (case e8_BadName => k_is)
    (case e9_BadName => k_is)
    (case en_BadNet => k_is)
    (case e1_BadNet => k_is)
    (case e2_BadNet => k_is)
    (case e3_BadNet => k_is)
    (case e4_BadNet => k_is)
    (case e5_BadNet => k_is)
    (case e6_BadNet => k_is)
    (case e7_BadNet => k_is)
    (case e8_BadNet => k_is)
    (case e9_BadNet => k_is)
    (case en_BadWay => k_is)
    (case e1_BadWay => k_is)
    (case e2_BadWay => k_is)
    (case e3_BadWay => k_is)
    (case e4_BadWay => k_is)
    (case e5_BadWay => k_is)
    (case e6_BadWay => k_is)
    (case e7_BadWay => k_is)
    (case e8_BadWay => k_is)
    (case e9_BadWay => k_is)
    (case xL_BadWay => k_is)
    (case rv_BadWay => first | rfl | decide +kernel)
    (case sa_BadWay => k_is)
    (case iC_BadWay => k_is)
    (case tI_BadWay => k_is)
    (case kC_BadWay => k_is)
    (case l_BadWay => k_is)
    (case c_BadWay => k_is)
    (case k_BadWay => k_is)
    (case nf_BadWay_at => k_is)
    (case en_BadNumbers => k_is)
    (case e1_BadNumbers => k_is)
    (case e2_BadNumbers => k_is)
    (case e3_BadNumbers => k_is)
    (case e4_BadNumbers => k_is)
    (case e5_BadNumbers => k_is)
    (case e6_BadNumbers => k_is)
    (case e7_BadNumbers => k_is)
    (case e8_BadNumbers => k_is)
    (case e9_BadNumbers => k_is)
    (case en_BadBook => k_is)
    (case e1_BadBook => k_is)
    (case e2_BadBook => k_is)
    (case e3_BadBook => k_is)
    (case e4_BadBook => k_is)
    (case e5_BadBook => k_is)
    (case e6_BadBook => k_is)
    (case e7_BadBook => k_is)
    (case e8_BadBook => k_is)
    (case e9_BadBook => k_is)
    (case en_BadBounds => k_is)
    (case e1_BadBounds => k_is)
    (case e2_BadBounds => k_is)
    (case e3_BadBounds => k_is)
    (case e4_BadBounds => k_is)
    (case e5_BadBounds => k_is)
    (case e6_BadBounds => k_is)
    (case e7_BadBounds => k_is)
    (case e8_BadBounds => k_is)
    (case e9_BadBounds => k_is)
    (case en_BadWood => k_is)
    (case e1_BadWood => k_is)
    (case e2_BadWood => k_is)
    (case e3_BadWood => k_is)
    (case e4_BadWood => k_is)
    (case e5_BadWood => k_is)
    (case e6_BadWood => k_is)
    (case e7_BadWood => k_is)
    (case e8_BadWood => k_is)
    (case e9_BadWood => k_is)
    (case en_BadStep => k_is)
    (case e1_BadStep => k_is)
    (case e2_BadStep => k_is)
    (case e3_BadStep => k_is)
    (case e4_BadStep => k_is)
    (case e5_BadStep => k_is)
    (case e6_BadStep => k_is)
    (case e7_BadStep => k_is)
    (case e8_BadStep => k_is)
    (case e9_BadStep => k_is)
    (case en_NoDelays => k_is)
    (case e1_NoDelays => k_is)
    (case e2_NoDelays => k_is)
    (case e3_NoDelays => k_is)
    (case e4_NoDelays => k_is)
    (case e5_NoDelays => k_is)
    (case e6_NoDelays => k_is)
    (case e7_NoDelays => k_is)
    (case e8_NoDelays => k_is)
    (case e9_NoDelays => k_is)
    (case en_BadText => k_is)
    (case e1_BadText => k_is)
    (case e2_BadText => k_is)
    (case e3_BadText => k_is)
    (case e4_BadText => k_is)
    (case e5_BadText => k_is)
    (case e6_BadText => k_is)
    (case e7_BadText => k_is)
    (case e8_BadText => k_is)
    (case e9_BadText => k_is)
    (case en_BadCommand => k_is)
    (case e1_BadCommand => k_is)
    (case e2_BadCommand => k_is)
    (case e3_BadCommand => k_is)
    (case e4_BadCommand => k_is)
    (case e5_BadCommand => k_is)
    (case e6_BadCommand => k_is)
    (case e7_BadCommand => k_is)
    (case e8_BadCommand => k_is)
    (case e9_BadCommand => k_is)
    (case en_NoSuch => k_is)
    (case e1_NoSuch => k_is)
    (case e2_NoSuch => k_is)
    (case e3_NoSuch => k_is)
    (case e4_NoSuch => k_is)
    (case e5_NoSuch => k_is)
    (case e6_NoSuch => k_is)
    (case e7_NoSuch => k_is)
    (case e8_NoSuch => k_is)
    (case e9_NoSuch => k_is)
    (case en_Taken => k_is)
    (case e1_Taken => k_is)
    (case e2_Taken => k_is)
    (case e3_Taken => k_is)
    (case e4_Taken => k_is)
    (case e5_Taken => k_is)
    (case e6_Taken => k_is)
    (case e7_Taken => k_is)
    (case e8_Taken => k_is)
    (case e9_Taken => k_is)
    (case su_BadWay_BadBook => k_is)
    (case su_BadWay_BadBounds => k_is)
    (case su_BadWay_BadCommand => k_is)
    (case su_BadWay_BadName => k_is)
    (case su_BadWay_BadNet => k_is)
    (case su_BadWay_BadNumbers => k_is)
    (case su_BadWay_BadStep => k_is)
    (case su_BadWay_BadText => k_is)
    (case su_BadWay_BadWay => k_is)
    (case su_BadWay_BadWood => k_is)
    (case su_BadWay_CallError => k_is)
    (case su_BadWay_DataError => k_is)
    (case su_BadWay_DeskError => k_is)
    (case su_BadWay_NetError => k_is)
    (case su_BadWay_NoDelays => k_is)
    (case su_BadWay_NoSuch => k_is)
    (case su_BadWay_Taken => k_is)
    (case su_BadWay_TextError => k_is)
    (case su_BadWay_ValueError => k_is)
