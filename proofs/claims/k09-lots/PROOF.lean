import PyProof.Rows.All
import Wide.All
import OpenK.AllK
import Wide.FinOn
import HandS.ForMost
import HandS.ForExc
import HandS.Flow
import HandS.TupAny
import HandS.TupMul
import HandS.IsInst
import HandS.Style
import HandS.Wide
import HandS.WideMore
import HandS.Deep
import KE.SortData
import HandS.Set
import HandS.SetFor
import KE.GoesMore
import HandS.Ends
import HandS.More
import HandS.SetKeys
import HandS.DictComp
import HandS.RevTup
import HandS.Gcd
import HandS.Zip
import HandS.ExcInit
import KE.KExcIs
import HandS.HotCalls
import HandS.Text
import HandS.Star
import HandS.Conv
import HandS.RevRange
import PySem.Challenge.RW_endstell_k09_lots_gates_own_links
set_option Elab.async false
set_option linter.all false
set_option maxRecDepth 100000
set_option maxHeartbeats 4000000
/-! Det, part A: values, small heap, readings by deterministic functions. -/
namespace Det
open PySem PySem.Spec PyProof.Rows L2

/-- a pure value; ref: the place of an object in the small heap -/
inductive D where
  | non | bl (b : Bool) | int (i : Int) | str (s : Str) | ty (n : String) | tup (xs : List D) | rol (xs : List D) | ref (n : Nat)
  /-- a caught exception: its class by name, its fields -/
  | exc (c : Str) (ns : List Str) (ds : List D)
/-- an object of the small heap: a list, a dict by ints and texts, a dict by tuples -/
inductive Ob where
  | lst (xs : List D) | dk (kvs : List (Key × D)) | dt (kvs : List (List Key × D)) | lk (kvs : List (Key × D))
abbrev MH := List Ob
structure Exn where
  c : Str
  fs : List (Str × D)
inductive Res (α : Type) where
  | ok (a : α) (h : MH) | ex (x : Exn) (h : MH) | no
def Res.bind {α β : Type} (r : Res α) (k : α → MH → Res β) : Res β := match r with
  | .ok a h => k a h
  | .ex x h => .ex x h
  | .no => .no
def Res.ofO {α : Type} : Option (α × MH) → Res α
  | some (a, h) => .ok a h
  | none => .no
abbrev Nv := List (Option D)
inductive SRes where
  | nx (e : Nv) (h : MH) | bk (e : Nv) (h : MH) | ct (e : Nv) (h : MH) | rt (d : D) (h : MH) | ex (x : Exn) (e : Nv) (h : MH) | no

/-! ### relations -/
/-- a list that is only read -/
def RoL (K : PySem.W.Frag) (H : Hp) (a : Addr) (xs : List V) : Prop := (∃ o, H a = some (.frz o (.lst xs))) ∨
  ∃ (o : Obj) (its : Array Value) (n : Nat), K.lookup a = some o ∧ o.cls = .type "list" ∧ o.dict = none ∧ o.data = .seq its n ∧ its.size ≤ sizeLine ∧ Vals xs its.toList
theorem RoL.seq {K : PySem.W.Frag} {H : Hp} {a : Addr} {xs : List V} (h : RoL K H a xs) : SqL K H a xs := by
  rcases h with ⟨o, h⟩ | h
  · exact .inl (.inr ⟨o, h⟩)
  · exact .inr h
/-- a thing of which is known that it stands -/
def anyO (a : Addr) : HO := .ext fun h => ∃ o, h.get? a = some o
def ExcAt (K : PySem.W.Frag) (c : Str) (C dx : Addr) (oe : Obj) : Prop := PySem.W.nsIn K mainGlobals c = some (some (.ref C)) ∧ oe.cls = .ref C ∧ oe.dict = some dx ∧ ∃ vs, oe.data = .fields vs
mutual
inductive RelD (K : PySem.W.Frag) (φ : List Addr) (H : Hp) : D → V → Prop
  | non : RelD K φ H .non .non
  | bl (b : Bool) : RelD K φ H (.bl b) (.bl b)
  | int (i : Int) : RelD K φ H (.int i) (.int i)
  | str (x : Str) : RelD K φ H (.str x) (.str x)
  | ty (n : String) : RelD K φ H (.ty n) (.ty n)
  | ref {n : Nat} {a : Addr} : φ[n]? = some a → RelD K φ H (.ref n) (.ref a)
  | tup {a : Addr} {ds : List D} {vs : List V} : SqT K H a vs → RelDs K φ H ds vs → RelD K φ H (.tup ds) (.ref a)
  | rol {a : Addr} {ds : List D} {vs : List V} : RoL K H a vs → RelDs K φ H ds vs → RelD K φ H (.rol ds) (.ref a)
  | exc {a C dx : Addr} {c : Str} {ns : List Str} {ds : List D} {vs : List V} {oe : Obj} {fv : List (Str × V)} : H a = some (.frz oe (anyO a)) → ExcAt K c C dx oe → H dx = some (.xd fv) →
    (∀ f v, (ns.zip vs).lookup f = some v → fv.lookup f = some v) → RelDs K φ H ds vs → RelD K φ H (.exc c ns ds) (.ref a)
inductive RelDs (K : PySem.W.Frag) (φ : List Addr) (H : Hp) : List D → List V → Prop
  | nil : RelDs K φ H [] []
  | cons {d : D} {v : V} {ds : List D} {vs : List V} : RelD K φ H d v → RelDs K φ H ds vs → RelDs K φ H (d :: ds) (v :: vs)
end
/-- what stands for good -/
def Sta : HO → Prop
  | .tup _ => True
  | .frz _ (.lst _) => True
  | .frz _ (.tup _) => True
  | .frz _ (.dK _) => True
  | .frz _ (.ext _) => True
  | .xd _ => True
  | _ => False
def Kp (H H' : Hp) : Prop := ∀ a o, H a = some o → Sta o → H' a = some o
theorem Kp.refl (H : Hp) : Kp H H := fun _ _ h _ => h
theorem Kp.trans {H H1 H2 : Hp} (a : Kp H H1) (b : Kp H1 H2) : Kp H H2 := fun c o h s => b c o (a c o h s) s
theorem Kp.new {H : Hp} {p : Addr} {o : HO} (h : H p = none) : Kp H (upd H p o) := fun a u e _ => by
  rw [upd_ne (ne_of_none e h)]; exact e
theorem Kp.mut {H : Hp} {p : Addr} {o u : HO} (h : H p = some u) (s : ¬ Sta u) : Kp H (upd H p o) := fun a v e sv => by
  have : a ≠ p := fun z => by subst z; rw [h] at e; cases e; exact s sv
  rw [upd_ne this]; exact e
theorem Kp.seqT {K : PySem.W.Frag} {H H' : Hp} {a : Addr} {xs : List V} (k : Kp H H') (h : SqT K H a xs) : SqT K H' a xs := by
  rcases h with (h | ⟨o, h⟩) | h
  · exact .inl (.inl (k _ _ h trivial))
  · exact .inl (.inr ⟨o, k _ _ h trivial⟩)
  · exact .inr h
theorem Kp.roL {K : PySem.W.Frag} {H H' : Hp} {a : Addr} {xs : List V} (k : Kp H H') (h : RoL K H a xs) : RoL K H' a xs := by
  rcases h with ⟨o, h⟩ | h
  · exact .inl ⟨o, k _ _ h trivial⟩
  · exact .inr h
abbrev Px (φ φ' : List Addr) : Prop := ∃ t, φ' = φ ++ t
theorem Px.refl (φ : List Addr) : Px φ φ := ⟨[], by simp⟩
theorem Px.trans {φ φ1 φ2 : List Addr} (a : Px φ φ1) (b : Px φ1 φ2) : Px φ φ2 := by
  obtain ⟨s, rfl⟩ := a; obtain ⟨t, rfl⟩ := b; exact ⟨s ++ t, by simp⟩
theorem Px.get {φ φ' : List Addr} {n : Nat} {a : Addr} (p : Px φ φ') (h : φ[n]? = some a) : φ'[n]? = some a := by
  obtain ⟨t, rfl⟩ := p
  have := (List.getElem?_eq_some_iff.mp h).1
  rw [List.getElem?_append_left this]; exact h
theorem Px.le {φ φ' : List Addr} (p : Px φ φ') : φ.length ≤ φ'.length := by
  obtain ⟨t, rfl⟩ := p; simp
section
variable {K : PySem.W.Frag} {φ φ' : List Addr} {H H' : Hp}
mutual
theorem RelD.mono (p : Px φ φ') (k : Kp H H') : ∀ {d : D} {v : V}, RelD K φ H d v → RelD K φ' H' d v
  | _, _, .non => .non
  | _, _, .bl b => .bl b
  | _, _, .int i => .int i
  | _, _, .str x => .str x
  | _, _, .ty n => .ty n
  | _, _, .ref h => .ref (p.get h)
  | _, _, .tup h hs => .tup (k.seqT h) (RelDs.mono p k hs)
  | _, _, .rol h hs => .rol (k.roL h) (RelDs.mono p k hs)
  | _, _, .exc h x hd l hs => .exc (k _ _ h trivial) x (k _ _ hd trivial) l (RelDs.mono p k hs)
theorem RelDs.mono (p : Px φ φ') (k : Kp H H') : ∀ {ds : List D} {vs : List V}, RelDs K φ H ds vs → RelDs K φ' H' ds vs
  | _, _, .nil => .nil
  | _, _, .cons h t => .cons (RelD.mono p k h) (RelDs.mono p k t)
end
theorem RelDs.length : ∀ {ds : List D} {vs : List V}, RelDs K φ H ds vs → ds.length = vs.length
  | _, _, .nil => rfl
  | _, _, .cons _ t => by simp [RelDs.length t]
theorem RelDs.get : ∀ {ds : List D} {vs : List V} {i : Nat} {d : D}, RelDs K φ H ds vs → ds[i]? = some d → ∃ v, vs[i]? = some v ∧ RelD K φ H d v
  | _, _, _, _, .nil, e => by simp at e
  | _, _, 0, _, .cons h _, e => by simp at e; subst e; exact ⟨_, rfl, h⟩
  | _, _, i + 1, d, .cons _ t, e => by
    obtain ⟨v, h1, h2⟩ := RelDs.get (i := i) (d := d) t (by simpa using e)
    exact ⟨v, by simpa using h1, h2⟩
theorem RelDs.append : ∀ {ds es : List D} {vs us : List V}, RelDs K φ H ds vs → RelDs K φ H es us → RelDs K φ H (ds ++ es) (vs ++ us)
  | _, _, _, _, .nil, s => s
  | _, _, _, _, .cons h t, s => .cons h (RelDs.append t s)
theorem RelDs.set {d : D} {v : V} (r : RelD K φ H d v) : ∀ {ds : List D} {vs : List V} (i : Nat), RelDs K φ H ds vs → RelDs K φ H (ds.set i d) (vs.set i v)
  | _, _, _, .nil => .nil
  | _, _, 0, .cons _ t => .cons r t
  | _, _, i + 1, .cons q t => .cons q (RelDs.set r i t)
theorem RelDs.take : ∀ {ds : List D} {vs : List V} (n : Nat), RelDs K φ H ds vs → RelDs K φ H (ds.take n) (vs.take n)
  | _, _, 0, _ => .nil
  | _, _, _ + 1, .nil => .nil
  | _, _, n + 1, .cons h t => .cons h (RelDs.take n t)
theorem RelDs.drop : ∀ {ds : List D} {vs : List V} (n : Nat), RelDs K φ H ds vs → RelDs K φ H (ds.drop n) (vs.drop n)
  | _, _, 0, r => r
  | _, _, _ + 1, .nil => .nil
  | _, _, n + 1, .cons _ t => RelDs.drop n t
theorem RelDs.erase : ∀ {ds : List D} {vs : List V} (n : Nat), RelDs K φ H ds vs → RelDs K φ H (ds.eraseIdx n) (vs.eraseIdx n)
  | _, _, _, .nil => .nil
  | _, _, 0, .cons _ t => t
  | _, _, n + 1, .cons h t => .cons h (RelDs.erase n t)
theorem RelDs.rev {ds : List D} {vs : List V} (r : RelDs K φ H ds vs) : RelDs K φ H ds.reverse vs.reverse := by
  induction ds generalizing vs with
  | nil => cases r; exact .nil
  | cons d ds ih =>
    cases r with
    | cons h t => rw [List.reverse_cons, List.reverse_cons]; exact (ih t).append (.cons h .nil)
end

/-! ### the small heap stands -/
def RelK {κ : Type} (K : PySem.W.Frag) (φ : List Addr) (H : Hp) (kds : List (κ × D)) (kvs : List (κ × V)) : Prop := kds.map (·.1) = kvs.map (·.1) ∧ RelDs K φ H (kds.map (·.2)) (kvs.map (·.2))
def RelO (K : PySem.W.Frag) (φ : List Addr) (H : Hp) (a : Addr) : Ob → Prop
  | .lst ds => ∃ vs, H a = some (.lst vs) ∧ RelDs K φ H ds vs
  | .dk kds => ∃ kvs, H a = some (.dK kvs) ∧ RelK K φ H kds kvs
  | .dt kds => ∃ kvs, H a = some (.dT kvs) ∧ RelK K φ H kds kvs
  | .lk kds => ∃ kvs od, H a = some (.frz od (.dK kvs)) ∧ RelK K φ H kds kvs
structure HR (K : PySem.W.Frag) (φ : List Addr) (mh : MH) (H : Hp) : Prop where
  len : φ.length = mh.length
  nd : φ.Nodup
  ob : ∀ (n : Nat) (a : Addr) (o : Ob), φ[n]? = some a → mh[n]? = some o → RelO K φ H a o
section
variable {K : PySem.W.Frag} {φ φ' : List Addr} {H H' : Hp} {mh : MH} {a p : Addr} {o : Ob} {n : Nat}
theorem RelK.mono {κ : Type} {kds : List (κ × D)} {kvs : List (κ × V)} (x : Px φ φ') (k : Kp H H') (r : RelK K φ H kds kvs) : RelK K φ' H' kds kvs := ⟨r.1, r.2.mono x k⟩
/-- an object told by H at a alone (and the values in it) -/
theorem RelO.mono (x : Px φ φ') (k : Kp H H') (e : ∀ u, H a = some u → H' a = some u) (r : RelO K φ H a o) : RelO K φ' H' a o := by
  cases o with
  | lst ds => obtain ⟨vs, h, r⟩ := r; exact ⟨vs, e _ h, r.mono x k⟩
  | dk kds => obtain ⟨vs, h, r⟩ := r; exact ⟨vs, e _ h, r.mono x k⟩
  | dt kds => obtain ⟨vs, h, r⟩ := r; exact ⟨vs, e _ h, r.mono x k⟩
  | lk kds => obtain ⟨vs, od, h, r⟩ := r; exact ⟨vs, od, e _ h, r.mono x k⟩
theorem HR.at (r : HR K φ mh H) (h : mh[n]? = some o) : ∃ a, φ[n]? = some a ∧ RelO K φ H a o := by
  have h1 := (List.getElem?_eq_some_iff.mp h).1
  have h2 : n < φ.length := by rw [r.len]; exact h1
  exact ⟨φ[n], by simp [h2], r.ob n _ o (by simp [h2]) h⟩
theorem HR.lt (r : HR K φ mh H) (h : φ[n]? = some a) : n < mh.length := by
  rw [← r.len]; exact (List.getElem?_eq_some_iff.mp h).1
theorem nodup_ix' {l : List Addr} (hN : l.Nodup) {i j : Nat} {x : Addr} (a : l[i]? = some x) (b : l[j]? = some x) : i = j := by
  obtain ⟨h1, e1⟩ := List.getElem?_eq_some_iff.mp a
  obtain ⟨h2, e2⟩ := List.getElem?_eq_some_iff.mp b
  exact (List.getElem_inj hN).mp (e1.trans e2.symm)
theorem HR.inj (r : HR K φ mh H) {i j : Nat} (h1 : φ[i]? = some a) (h2 : φ[j]? = some a) : i = j := nodup_ix' r.nd h1 h2
/-- an object that the small heap knows stands in H -/
theorem RelO.there (r : RelO K φ H a o) : ∃ u, H a = some u := by
  cases o with
  | lst ds => obtain ⟨vs, h, _⟩ := r; exact ⟨_, h⟩
  | dk kds => obtain ⟨vs, h, _⟩ := r; exact ⟨_, h⟩
  | dt kds => obtain ⟨vs, h, _⟩ := r; exact ⟨_, h⟩
  | lk kds => obtain ⟨vs, od, h, _⟩ := r; exact ⟨_, h⟩
/-- the heap grew by an object that the small heap does not tell -/
theorem HR.grow (r : HR K φ mh H) {u : HO} (hp : H p = none) : HR K φ mh (upd H p u) := by
  refine ⟨r.len, r.nd, fun n a o h1 h2 => (r.ob n a o h1 h2).mono (Px.refl φ) (Kp.new hp) fun v e => ?_⟩
  rw [upd_ne (ne_of_none e hp)]; exact e
/-- a new object, told -/
theorem HR.push (r : HR K φ mh H) {u : HO} (hp : H p = none) (hn : p ∉ φ) (ho : RelO K (φ ++ [p]) (upd H p u) p o) : HR K (φ ++ [p]) (mh ++ [o]) (upd H p u) := by
  refine ⟨by simp [r.len], ?_, fun n a ob h1 h2 => ?_⟩
  · rw [List.nodup_append]
    exact ⟨r.nd, by simp, fun x hx y hy e => by simp at hy; subst hy; subst e; exact hn hx⟩
  · by_cases hlt : n < φ.length
    · rw [List.getElem?_append_left hlt] at h1
      rw [List.getElem?_append_left (by rw [← r.len]; exact hlt)] at h2
      refine (r.ob n a ob h1 h2).mono ⟨[p], rfl⟩ (Kp.new hp) fun v e => ?_
      rw [upd_ne (ne_of_none e hp)]; exact e
    · have e1 : n = φ.length := by
        have := (List.getElem?_eq_some_iff.mp h1).1
        simp at this; omega
      subst e1
      simp at h1
      rw [r.len] at h2
      simp at h2
      subst h1; subst h2
      exact ho
/-- an object changed -/
theorem HR.put (r : HR K φ mh H) {u u' : HO} {o' : Ob} (hn : φ[n]? = some p) (hu : H p = some u') (hs : ¬ Sta u') (ho : RelO K φ (upd H p u) p o') : HR K φ (mh.set n o') (upd H p u) := by
  refine ⟨by simp [r.len], r.nd, fun m a ob h1 h2 => ?_⟩
  by_cases hm : m = n
  · subst hm
    rw [hn] at h1; cases h1
    rw [List.getElem?_set_self (r.lt hn)] at h2
    cases h2
    exact ho
  · rw [List.getElem?_set_ne (Ne.symm hm)] at h2
    have hne : a ≠ p := fun z => hm (r.inj h1 (z ▸ hn))
    refine (r.ob m a ob h1 h2).mono (Px.refl φ) (Kp.mut hu hs) fun v e => ?_
    rw [upd_ne hne]; exact e
theorem HR.there (r : HR K φ mh H) (h : a ∈ φ) : ∃ u, H a = some u := by
  obtain ⟨n, hn, e⟩ := List.mem_iff_getElem.mp h
  have h1 : φ[n]? = some a := by simp [hn, e]
  have h2 : n < mh.length := by rw [← r.len]; exact hn
  exact (r.ob n a mh[n] h1 (by simp [h2])).there
theorem HR.fresh (r : HR K φ mh H) (h : H p = none) : p ∉ φ := fun z => by
  obtain ⟨u, e⟩ := r.there z
  rw [h] at e; cases e
/-- a new object, told, by its content -/
theorem HR.new (r : HR K φ mh H) {ds : List D} {vs : List V} (hp : H p = none) (h : RelDs K φ H ds vs) : HR K (φ ++ [p]) (mh ++ [.lst ds]) (upd H p (.lst vs)) :=
  r.push hp (r.fresh hp) ⟨vs, upd_same, h.mono ⟨[p], rfl⟩ (Kp.new hp)⟩
theorem px1 : Px φ (φ ++ [p]) := ⟨[p], rfl⟩
theorem HR.last (r : HR K φ mh H) : (φ ++ [p])[mh.length]? = some p := by rw [← r.len]; simp
theorem HR.lst (r : HR K φ mh H) (hn : φ[n]? = some a) {ds : List D} (h : mh[n]? = some (.lst ds)) : ∃ vs, H a = some (.lst vs) ∧ RelDs K φ H ds vs := r.ob n a _ hn h
/-- a list changed -/
theorem HR.setL (r : HR K φ mh H) {vs vs' : List V} {ds' : List D} (hn : φ[n]? = some a) (hu : H a = some (.lst vs)) (h : RelDs K φ H ds' vs') : HR K φ (mh.set n (.lst ds')) (upd H a (.lst vs')) :=
  r.put hn hu (fun z => z) ⟨vs', upd_same, h.mono (Px.refl φ) (Kp.mut hu fun z => z)⟩
end
end Det
/-! Det, part B: readings given by functions, the combinators' soundness. -/
namespace Det
open PySem PySem.Spec PyProof.Rows L2

abbrev MGl := Str → Option Value
/-- an exception: its class by name, its fields -/
def RelX (K : PySem.W.Frag) (mg : MGl) (φ : List Addr) (H : Hp) (x : Exn) (cls : Value) (d : Option Addr) : Prop :=
  ∃ (C dx : Addr) (fv : List (Str × V)) (vs : List V), PySem.W.nsIn K mainGlobals x.c = some (some (.ref C)) ∧ cls = .ref C ∧ d = some dx ∧ H dx = some (.xd fv) ∧ (∀ f v, ((x.fs.map (·.1)).zip vs).lookup f = some v → fv.lookup f = some v) ∧ RelDs K φ H (x.fs.map (·.2)) vs
structure RelE (K : PySem.W.Frag) (φ : List Addr) (H : Hp) (env : Nv) (σ : L2.St) : Prop where
  len : env.length = σ.length
  at' : ∀ (i : Nat) (d : D), env[i]? = some (some d) → ∃ v, σ[i]? = some (some v) ∧ RelD K φ H d v
abbrev Rl (α β : Type) := List Addr → Hp → α → β → Prop
/-- what is wanted behind r -/
def post {α β : Type} (K : PySem.W.Frag) (mg : MGl) (W : WX) (R : Rl α β) (σ : L2.St) (φ : List Addr) (H : Hp) (r : Res α) (Q : β → Hp → Prop) : Prop := match r with
  | .ok a mh' => ∀ φ' b H', Px φ φ' → Kp H H' → HR K φ' mh' H' → R φ' H' a b → Q b H'
  | .ex x mh' => ∀ φ' c d H', Px φ φ' → Kp H H' → HR K φ' mh' H' → RelX K mg φ' H' x c d → W c d σ H'
  | .no => False
section
variable {K : PySem.W.Frag} {mg : MGl} {W : WX} {σ : L2.St} {φ φ' : List Addr} {H H' : Hp} {env : Nv}
theorem RelE.mono (p : Px φ φ') (k : Kp H H') (r : RelE K φ H env σ) : RelE K φ' H' env σ := ⟨r.len, fun i d e => by
  obtain ⟨v, h1, h2⟩ := r.at' i d e
  exact ⟨v, h1, h2.mono p k⟩⟩
theorem RelE.set {d : D} {v : V} (r : RelE K φ H env σ) (h : RelD K φ H d v) (i : Nat) : RelE K φ H (env.set i (some d)) (σ.set i (some v)) := by
  refine ⟨by simp [r.len], fun j e q => ?_⟩
  by_cases hj : j = i
  · subst hj
    by_cases hl : j < env.length
    · rw [List.getElem?_set_self hl] at q
      cases q
      exact ⟨v, List.getElem?_set_self (by rw [← r.len]; exact hl), h⟩
    · rw [List.getElem?_eq_none (by simpa using hl)] at q; cases q
  · rw [List.getElem?_set_ne (Ne.symm hj)] at q
    obtain ⟨u, h1, h2⟩ := r.at' j e q
    exact ⟨u, by rw [List.getElem?_set_ne (Ne.symm hj)]; exact h1, h2⟩
theorem post_mono {α β : Type} {R : Rl α β} {r : Res α} {Q Q' : β → Hp → Prop} (p : Px φ φ') (k : Kp H H') (h : post K mg W R σ φ H r Q) (hq : ∀ b H2, Q b H2 → Q' b H2) : post K mg W R σ φ' H' r Q' := by
  cases r with
  | ok a mh => exact fun φ2 b H2 p2 k2 hr hR => hq _ _ (h φ2 b H2 (p.trans p2) (k.trans k2) hr hR)
  | ex x mh => exact fun φ2 c d H2 p2 k2 hr hx => h φ2 c d H2 (p.trans p2) (k.trans k2) hr hx
  | no => exact h
theorem post_bind {α β γ δ : Type} {R1 : Rl α β} {R2 : Rl γ δ} {r : Res α} {k : α → MH → Res γ} {Q : δ → Hp → Prop} (h : post K mg W R2 σ φ H (r.bind k) Q) :
    post K mg W R1 σ φ H r fun b H1 => ∃ φ1 a mh1, Px φ φ1 ∧ Kp H H1 ∧ HR K φ1 mh1 H1 ∧ R1 φ1 H1 a b ∧ post K mg W R2 σ φ1 H1 (k a mh1) Q := by
  cases r with
  | ok a mh => exact fun φ2 b H2 p2 k2 hr hR => ⟨φ2, a, mh, p2, k2, hr, hR, post_mono p2 k2 h fun _ _ q => q⟩
  | ex x mh => exact h
  | no => exact h
end

/-! ### expressions -/
abbrev ME := Nv → MH → Res D
abbrev MT := Nv → MH → Res Bool
abbrev MA := Nv → MH → Res (List D)
def iE (K : PySem.W.Frag) (mg : MGl) (W : WX) (f : ME) : TE := fun σ H Q => ∃ φ env mh, RelE K φ H env σ ∧ HR K φ mh H ∧ post K mg W (RelD K) σ φ H (f env mh) Q
def RB : Rl Bool Bool := fun _ _ a b => a = b
def iT (K : PySem.W.Frag) (mg : MGl) (W : WX) (f : MT) : TT := fun σ H Q => ∃ φ env mh, RelE K φ H env σ ∧ HR K φ mh H ∧ post K mg W RB σ φ H (f env mh) Q
def iA (K : PySem.W.Frag) (mg : MGl) (W : WX) (f : MA) : TA := fun σ H Q => ∃ φ env mh, RelE K φ H env σ ∧ HR K φ mh H ∧ post K mg W (RelDs K) σ φ H (f env mh) Q
theorem _root_.L2.PE.imp {X : Cx} {e : Expr} {t t' : TE} (h : PE X e t) (w : ∀ σ H Q, t' σ H Q → t σ H Q) : PE X e t' := ⟨fun pins s σ H Q I q => h.run pins s σ H Q I (w σ H Q q)⟩
theorem _root_.L2.PT.imp {X : Cx} {e : Expr} {t t' : TT} (h : PT X e t) (w : ∀ σ H Q, t' σ H Q → t σ H Q) : PT X e t' := ⟨fun pins s σ H Q I q => h.run pins s σ H Q I (w σ H Q q)⟩
theorem _root_.L2.PW.imp {X : Cx} {e : Expr} {t t' : TT} (h : PW X e t) (w : ∀ σ H Q, t' σ H Q → t σ H Q) : PW X e t' := ⟨fun wh pins s σ H Q I q => h.run wh pins s σ H Q I (w σ H Q q)⟩
theorem _root_.L2.PA.imp {X : Cx} {e : List Expr} {t t' : TA} (h : PA X e t) (w : ∀ σ H Q, t' σ H Q → t σ H Q) : PA X e t' := ⟨fun po pins s σ H Q I q => h.run po pins s σ H Q I (w σ H Q q)⟩
theorem _root_.L2.PS.imp {X : Cx} {st : Stmt} {t t' : TS} (h : PS X st t) (w : ∀ D σ H, t' D σ H → t D σ H) : PS X st t' := ⟨fun pins s σ H D I q => h.run pins s σ H D I (w D σ H q)⟩
theorem _root_.L2.PSs.imp {X : Cx} {st : List Stmt} {t t' : TS} (h : PSs X st t) (w : ∀ D σ H, t' D σ H → t D σ H) : PSs X st t' := ⟨fun pins s σ H D I q => h.run pins s σ H D I (w D σ H q)⟩
abbrev SE (X : Cx) (W : WX) (e : Expr) (f : ME) : Prop := PE X e (iE X.K X.mg W f)
abbrev ST (X : Cx) (W : WX) (e : Expr) (f : MT) : Prop := PT X e (iT X.K X.mg W f)
abbrev SW (X : Cx) (W : WX) (e : Expr) (f : MT) : Prop := PW X e (iT X.K X.mg W f)
abbrev SA (X : Cx) (W : WX) (es : List Expr) (f : MA) : Prop := PA X es (iA X.K X.mg W f)

/-! #### the combinators -/
def vr (i : Nat) : ME := fun env mh => match env[i]? with | some (some d) => .ok d mh | _ => .no
def kn (d : D) : ME := fun _ mh => .ok d mh
def anil : MA := fun _ mh => .ok [] mh
def acons (f : ME) (g : MA) : MA := fun env mh => (f env mh).bind fun d mh1 => (g env mh1).bind fun ds mh2 => .ok (d :: ds) mh2
/-- an operation on values -/
abbrev Op1 := D → MH → Option (D × MH)
abbrev Op2 := D → D → MH → Option (D × MH)
abbrev OpA := List D → MH → Option (D × MH)
def un (o : Op1) (f : ME) : ME := fun env mh => (f env mh).bind fun a mh1 => .ofO (o a mh1)
def bi (o : Op2) (f g : ME) : ME := fun env mh => (f env mh).bind fun a mh1 => (g env mh1).bind fun b mh2 => .ofO (o a b mh2)
def ap (o : OpA) (f : MA) : ME := fun env mh => (f env mh).bind fun a mh1 => .ofO (o a mh1)
/-- a test of a value -/
def truD : D → MH → Option Bool
  | .non, _ => some false
  | .bl b, _ => some b
  | .int i, _ => some (i != 0)
  | .str s, _ => if s.length ≤ sizeLine then some ((s.length : Int) != 0) else none
  | .tup xs, _ => some (!xs.isEmpty)
  | .rol xs, _ => some (!xs.isEmpty)
  | .ref n, mh => match mh[n]? with
    | some (.lst xs) => some (!xs.isEmpty)
    | some (.dk xs) => some (!xs.isEmpty)
    | _ => none
  | _, _ => none
def tru (f : ME) : MT := fun env mh => (f env mh).bind fun a mh1 => match truD a mh1 with | some b => .ok b mh1 | none => .no
def tb (f : ME) : MT := fun env mh => (f env mh).bind fun a mh1 => match a with | .bl b => .ok b mh1 | _ => .no
def tand (f g : MT) : MT := fun env mh => (f env mh).bind fun b mh1 => if b = true then g env mh1 else .ok false mh1
def tor (f g : MT) : MT := fun env mh => (f env mh).bind fun b mh1 => if b = true then .ok true mh1 else g env mh1
def tnot (f : MT) : MT := fun env mh => (f env mh).bind fun b mh1 => .ok (!b) mh1
def eand (f g : ME) : ME := fun env mh => (f env mh).bind fun a mh1 => match truD a mh1 with | some b => if b = true then g env mh1 else .ok a mh1 | none => .no
def eor (f g : ME) : ME := fun env mh => (f env mh).bind fun a mh1 => match truD a mh1 with | some b => if b = true then .ok a mh1 else g env mh1 | none => .no
def enot (f : ME) : ME := fun env mh => (f env mh).bind fun a mh1 => match truD a mh1 with | some b => .ok (.bl (!b)) mh1 | none => .no
def eif (c : MT) (f g : ME) : ME := fun env mh => (c env mh).bind fun b mh1 => if b = true then f env mh1 else g env mh1
abbrev Fn := List D → MH → Res D
def cal (n : Nat) (F : Fn) (f : MA) : ME := fun env mh => (f env mh).bind fun ds mh1 => if ds.length = n then F ds mh1 else .no

/-- what an operation's values reading is -/
def postO {α β : Type} (K : PySem.W.Frag) (R : Rl α β) (φ : List Addr) (H : Hp) (r : Option (α × MH)) (Q : β → Hp → Prop) : Prop := match r with
  | some (a, mh') => ∀ φ' b H', Px φ φ' → Kp H H' → HR K φ' mh' H' → R φ' H' a b → Q b H'
  | none => False
def iR1 (K : PySem.W.Frag) (o : Op1) : V → Hp → VK → Prop := fun x H Q => ∃ φ mh a, RelD K φ H a x ∧ HR K φ mh H ∧ postO K (RelD K) φ H (o a mh) Q
def iR2 (K : PySem.W.Frag) (o : Op2) : R2 := fun x y H Q => ∃ φ mh a b, RelD K φ H a x ∧ RelD K φ H b y ∧ HR K φ mh H ∧ postO K (RelD K) φ H (o a b mh) Q
def iRA (K : PySem.W.Frag) (o : OpA) : List V → Hp → VK → Prop := fun xs H Q => ∃ φ mh as, RelDs K φ H as xs ∧ HR K φ mh H ∧ postO K (RelD K) φ H (o as mh) Q
theorem post_ofO {α β : Type} {K : PySem.W.Frag} {mg : MGl} {W : WX} {R : Rl α β} {σ : L2.St} {φ : List Addr} {H : Hp} {r : Option (α × MH)} {Q : β → Hp → Prop} (h : post K mg W R σ φ H (.ofO r) Q) : postO K R φ H r Q := by
  cases r with
  | none => exact h
  | some p => obtain ⟨a, mh⟩ := p; exact h
section
variable {X : Cx} {W : WX} {e a b c : Expr} {es : List Expr} {f g : ME} {fa : MA} {ft gt : MT} {pos : Pos}
theorem imp1 {o : Op1} {r : V → Hp → VK → Prop} {t : TE} (hr : ∀ x H Q, iR1 X.K o x H Q → r x H Q) : ∀ σ H Q, iE X.K X.mg W (un o f) σ H Q → tUn r (iE X.K X.mg W f) σ H Q := by
  rintro σ H Q ⟨φ, env, mh, re, hh, p⟩
  refine ⟨φ, env, mh, re, hh, post_mono (Px.refl φ) (Kp.refl H) (post_bind (R1 := RelD X.K) p) ?_⟩
  rintro x H1 ⟨φ1, d, mh1, p1, k1, h1, r1, q⟩
  exact hr _ _ _ ⟨φ1, mh1, d, r1, h1, post_ofO q⟩
theorem imp2 {o : Op2} {r : R2} (hr : ∀ x y H Q, iR2 X.K o x y H Q → r x y H Q) : ∀ σ H Q, iE X.K X.mg W (bi o f g) σ H Q → tOp r (iE X.K X.mg W f) (iE X.K X.mg W g) σ H Q := by
  rintro σ H Q ⟨φ, env, mh, re, hh, p⟩
  refine ⟨φ, env, mh, re, hh, post_mono (Px.refl φ) (Kp.refl H) (post_bind (R1 := RelD X.K) p) ?_⟩
  rintro x H1 ⟨φ1, d, mh1, p1, k1, h1, r1, q⟩
  refine ⟨φ1, env, mh1, re.mono p1 k1, h1, post_mono (Px.refl φ1) (Kp.refl H1) (post_bind (R1 := RelD X.K) q) ?_⟩
  rintro y H2 ⟨φ2, d2, mh2, p2, k2, h2, r2, q2⟩
  exact hr _ _ _ _ ⟨φ2, mh2, d, d2, r1.mono p2 k2, r2, h2, post_ofO q2⟩
theorem impA {o : OpA} {r : List V → Hp → VK → Prop} (hr : ∀ x H Q, iRA X.K o x H Q → r x H Q) : ∀ σ H Q, iE X.K X.mg W (ap o fa) σ H Q → (fun σ H Q => iA X.K X.mg W fa σ H fun xs H1 => r xs H1 Q : TE) σ H Q := by
  rintro σ H Q ⟨φ, env, mh, re, hh, p⟩
  refine ⟨φ, env, mh, re, hh, post_mono (Px.refl φ) (Kp.refl H) (post_bind (R1 := RelDs X.K) p) ?_⟩
  rintro x H1 ⟨φ1, d, mh1, p1, k1, h1, r1, q⟩
  exact hr _ _ _ ⟨φ1, mh1, d, r1, h1, post_ofO q⟩

theorem sv (i : Nat) {x : Str} {pos : Pos} (hN : X.N[i]? = some x := by rfl) (hv : Vis X.env.scope x := by first | exact Or.inl rfl | exact Or.inr (Or.inl rfl) | exact Or.inr (Or.inr rfl)) (hd : (x == ("__debug__" : Str)) = false := by decide)
    (hcd : (x == ("__classdict__" : Str)) = false := by decide) : SE X W (.Name x pos) (vr i) := by
  refine (pe_var (i := i) hN hv hd hcd).imp ?_
  rintro σ H Q ⟨φ, env, mh, re, hh, p⟩
  unfold vr at p
  cases h : env[i]? with
  | none => rw [h] at p; exact p.elim
  | some o =>
    cases o with
    | none => rw [h] at p; exact p.elim
    | some d =>
      rw [h] at p
      obtain ⟨v, h1, h2⟩ := re.at' i d h
      exact ⟨v, h1, p φ v H (Px.refl φ) (Kp.refl H) hh h2⟩
theorem skn {v : V} {d : D} (h : PE X e (tC v)) (r : ∀ φ H, RelD X.K φ H d v) : SE X W e (kn d) := by
  refine h.imp ?_
  rintro σ H Q ⟨φ, env, mh, re, hh, p⟩
  exact p φ v H (Px.refl φ) (Kp.refl H) hh (r φ H)
theorem sint {i : Int} {j : Nat} {pos : Pos} : SE X W (.Constant (.int i) j pos) (kn (.int i)) := skn pe_int fun _ _ => .int i
theorem sbl {i : Bool} {j : Nat} {pos : Pos} : SE X W (.Constant (.bool i) j pos) (kn (.bl i)) := skn pe_bl fun _ _ => .bl i
theorem snon {j : Nat} {pos : Pos} : SE X W (.Constant .none j pos) (kn .non) := skn pe_non fun _ _ => .non
theorem sstr {i : Str} {j : Nat} {pos : Pos} : SE X W (.Constant (.str i) j pos) (kn (.str i)) := skn pe_str fun _ _ => .str i
theorem sa_nil : SA X W [] anil := pa_nil.imp (by
  rintro σ H Q ⟨φ, env, mh, re, hh, p⟩
  exact p φ [] H (Px.refl φ) (Kp.refl H) hh .nil)
theorem sa_cons (ha : SE X W e f) (hr : SA X W es fa) (hs : starEach (e :: es) X.env = (false, eval e X.env) :: starEach es X.env := by rfl) : SA X W (e :: es) (acons f fa) := (pa_cons ha hr hs).imp (by
  rintro σ H Q ⟨φ, env, mh, re, hh, p⟩
  refine ⟨φ, env, mh, re, hh, post_mono (Px.refl φ) (Kp.refl H) (post_bind (R1 := RelD X.K) p) ?_⟩
  rintro x H1 ⟨φ1, d, mh1, p1, k1, h1, r1, q⟩
  refine ⟨φ1, env, mh1, re.mono p1 k1, h1, post_mono (Px.refl φ1) (Kp.refl H1) (post_bind (R1 := RelDs X.K) q) ?_⟩
  rintro xs H2 ⟨φ2, ds, mh2, p2, k2, h2, r2, q2⟩
  exact q2 φ2 (x :: xs) H2 (Px.refl φ2) (Kp.refl H2) h2 (.cons (r1.mono p2 k2) r2))
/-- operators, by their rules -/
theorem sbin {op : Operator} {r : R2} {o : Op2} (ho : OpR X (binaryOp op) r) (hr : ∀ x y H Q, iR2 X.K o x y H Q → r x y H Q) (ha : SE X W a f) (hb : SE X W b g) : SE X W (.BinOp a op b pos) (bi o f g) := (pe_op ho ha hb).imp (imp2 hr)
theorem sun {op : UnaryOp} {r : V → Hp → VK → Prop} {o : Op1} (ho : UnR X (unaryOp op) r) (hr : ∀ x H Q, iR1 X.K o x H Q → r x H Q) (ha : SE X W a f) : SE X W (.UnaryOp op a pos) (un o f) := (pe_un ho ha).imp (imp1 (t := tC .non) hr)
theorem scmp {op : CmpOp} {r : R2} {o : Op2} (ho : OpR X (compareOp op) r) (hr : ∀ x y H Q, iR2 X.K o x y H Q → r x y H Q) (ha : SE X W a f) (hb : SE X W b g) (hm : behindInMarks op b = false) : SE X W (.Compare a [op] [b] pos) (bi o f g) := (pe_cmpR ho ha hb hm).imp (imp2 hr)
theorem imp_tb : ∀ σ H Q, iT X.K X.mg W (tb f) σ H Q → tTest (iE X.K X.mg W f) σ H Q := by
  rintro σ H Q ⟨φ, env, mh, re, hh, p⟩
  refine ⟨φ, env, mh, re, hh, post_mono (Px.refl φ) (Kp.refl H) (post_bind (R1 := RelD X.K) p) ?_⟩
  rintro x H1 ⟨φ1, d, mh1, p1, k1, h1, r1, q⟩
  cases r1 with
  | bl b => exact ⟨b, rfl, q φ1 b H1 (Px.refl φ1) (Kp.refl H1) h1 rfl⟩
  | _ => exact q.elim
theorem tcmp {op : CmpOp} {r : R2} {o : Op2} (ho : OpR X (compareOp op) r) (hr : ∀ x y H Q, iR2 X.K o x y H Q → r x y H Q) (ha : SE X W a f) (hb : SE X W b g) (hm : behindInMarks op b = false) : ST X W (.Compare a [op] [b] pos) (tb (bi o f g)) :=
  (pt_cmpR ho ha hb hm).imp (by
    intro σ H Q h
    obtain ⟨φ, env, mh, re, hh, p⟩ := imp_tb (f := bi o f g) σ H Q h
    exact imp2 hr σ H _ ⟨φ, env, mh, re, hh, p⟩)
theorem truV_of {d : D} {v : V} {φ : List Addr} {mh : MH} {H : Hp} {k : Bool} (r : RelD X.K φ H d v) (hh : HR X.K φ mh H) (h : truD d mh = some k) : TruV X.K v H k := by
  cases r with
  | non => simp only [truD, Option.some.injEq] at h; exact h.symm
  | bl b => simp only [truD, Option.some.injEq] at h; exact h.symm
  | int i => simp only [truD, Option.some.injEq] at h; exact h.symm
  | str s =>
    simp only [truD] at h
    split at h
    · rename_i hl; simp only [Option.some.injEq] at h; exact ⟨hl, h.symm⟩
    · cases h
  | ty n => simp [truD] at h
  | exc => simp [truD] at h
  | ref e =>
    simp only [truD] at h
    split at h
    · rename_i xs hx
      simp only [Option.some.injEq] at h
      obtain ⟨vs, h1, h2⟩ := hh.lst e hx
      refine .inl ⟨vs, SqL.of h1, ?_⟩
      rw [← h]
      have := h2.length
      cases xs <;> cases vs <;> simp_all
    · rename_i xs hx
      simp only [Option.some.injEq] at h
      obtain ⟨vs, h1, h2⟩ := hh.ob _ _ _ e hx
      refine .inr (.inr ⟨vs, h1, ?_⟩)
      rw [← h]
      have := h2.2.length
      cases xs <;> cases vs <;> simp_all
    · cases h
  | tup e es =>
    simp only [truD, Option.some.injEq] at h
    refine .inr (.inl ⟨_, e, ?_⟩)
    rw [← h]
    have := es.length
    rename_i ds vs
    cases ds <;> cases vs <;> simp_all
  | rol e es =>
    simp only [truD, Option.some.injEq] at h
    refine .inl ⟨_, e.seq, ?_⟩
    rw [← h]
    have := es.length
    rename_i ds vs
    cases ds <;> cases vs <;> simp_all
theorem stru (ha : SE X W a f) (he : ∀ whole, isTrue a X.env whole = (do let v ← whole; standAt a.pos; holding [v] (truthy v)) := by intro _; rfl) : ST X W a (tru f) := (pt_truth ha he).imp (by
  rintro σ H Q ⟨φ, env, mh, re, hh, p⟩
  refine ⟨φ, env, mh, re, hh, post_mono (Px.refl φ) (Kp.refl H) (post_bind (R1 := RelD X.K) p) ?_⟩
  rintro x H1 ⟨φ1, d, mh1, p1, k1, h1, r1, q⟩
  cases hd : truD d mh1 with
  | none => rw [hd] at q; exact q.elim
  | some k =>
    rw [hd] at q
    exact ⟨k, truV_of r1 h1 hd, q φ1 k H1 (Px.refl φ1) (Kp.refl H1) h1 rfl⟩)
theorem st_not (ha : ST X W a ft) : ST X W (.UnaryOp .Not a pos) (tnot ft) := (pt_not ha).imp (by
  rintro σ H Q ⟨φ, env, mh, re, hh, p⟩
  refine ⟨φ, env, mh, re, hh, post_mono (Px.refl φ) (Kp.refl H) (post_bind (R1 := RB) p) ?_⟩
  rintro x H1 ⟨φ1, d, mh1, p1, k1, h1, r1, q⟩
  have e1 : d = x := r1
  subst e1
  exact q φ1 (!d) H1 (Px.refl φ1) (Kp.refl H1) h1 rfl)
theorem imp_and : ∀ σ H Q, iT X.K X.mg W (tand ft gt) σ H Q → tAnd (iT X.K X.mg W ft) (iT X.K X.mg W gt) σ H Q := by
  rintro σ H Q ⟨φ, env, mh, re, hh, p⟩
  refine ⟨φ, env, mh, re, hh, post_mono (Px.refl φ) (Kp.refl H) (post_bind (R1 := RB) p) ?_⟩
  rintro x H1 ⟨φ1, d, mh1, p1, k1, h1, r1, q⟩
  have e1 : d = x := r1
  subst e1
  cases d with
  | true => exact ⟨φ1, env, mh1, re.mono p1 k1, h1, q⟩
  | false => exact q φ1 false H1 (Px.refl φ1) (Kp.refl H1) h1 rfl
theorem imp_or : ∀ σ H Q, iT X.K X.mg W (tor ft gt) σ H Q → tOr (iT X.K X.mg W ft) (iT X.K X.mg W gt) σ H Q := by
  rintro σ H Q ⟨φ, env, mh, re, hh, p⟩
  refine ⟨φ, env, mh, re, hh, post_mono (Px.refl φ) (Kp.refl H) (post_bind (R1 := RB) p) ?_⟩
  rintro x H1 ⟨φ1, d, mh1, p1, k1, h1, r1, q⟩
  have e1 : d = x := r1
  subst e1
  cases d with
  | true => exact q φ1 true H1 (Px.refl φ1) (Kp.refl H1) h1 rfl
  | false => exact ⟨φ1, env, mh1, re.mono p1 k1, h1, q⟩
theorem sw_and1 (ha : ST X W a ft) : SW X W (.BoolOp .And [a] pos) ft := pw_and1 ha
theorem sw_or1 (ha : ST X W a ft) : SW X W (.BoolOp .Or [a] pos) ft := pw_or1 ha
theorem sw_and {rest : List Expr} (ha : ST X W a ft) (hb : SW X W (.BoolOp .And (b :: rest) pos) gt) : SW X W (.BoolOp .And (a :: b :: rest) pos) (tand ft gt) := (pw_and ha hb).imp imp_and
theorem sw_or {rest : List Expr} (ha : ST X W a ft) (hb : SW X W (.BoolOp .Or (b :: rest) pos) gt) : SW X W (.BoolOp .Or (a :: b :: rest) pos) (tor ft gt) := (pw_or ha hb).imp imp_or
theorem se_one {op : BoolOp} (h : SE X W a f) : SE X W (.BoolOp op [a] pos) f := pe_one h
theorem se_and {rest : List Expr} (ha : SE X W a f) (hb : SE X W (.BoolOp .And (b :: rest) pos) g) : SE X W (.BoolOp .And (a :: b :: rest) pos) (eand f g) := (pe_andT ha hb).imp (by
  rintro σ H Q ⟨φ, env, mh, re, hh, p⟩
  refine ⟨φ, env, mh, re, hh, post_mono (Px.refl φ) (Kp.refl H) (post_bind (R1 := RelD X.K) p) ?_⟩
  rintro x H1 ⟨φ1, d, mh1, p1, k1, h1, r1, q⟩
  cases hd : truD d mh1 with
  | none => rw [hd] at q; exact q.elim
  | some k =>
    rw [hd] at q
    refine ⟨k, truV_of r1 h1 hd, ?_⟩
    cases k with
    | true => exact ⟨φ1, env, mh1, re.mono p1 k1, h1, q⟩
    | false => exact q φ1 x H1 (Px.refl φ1) (Kp.refl H1) h1 r1)
theorem se_or {rest : List Expr} (ha : SE X W a f) (hb : SE X W (.BoolOp .Or (b :: rest) pos) g) : SE X W (.BoolOp .Or (a :: b :: rest) pos) (eor f g) := (pe_orT ha hb).imp (by
  rintro σ H Q ⟨φ, env, mh, re, hh, p⟩
  refine ⟨φ, env, mh, re, hh, post_mono (Px.refl φ) (Kp.refl H) (post_bind (R1 := RelD X.K) p) ?_⟩
  rintro x H1 ⟨φ1, d, mh1, p1, k1, h1, r1, q⟩
  cases hd : truD d mh1 with
  | none => rw [hd] at q; exact q.elim
  | some k =>
    rw [hd] at q
    refine ⟨k, truV_of r1 h1 hd, ?_⟩
    cases k with
    | false => exact ⟨φ1, env, mh1, re.mono p1 k1, h1, q⟩
    | true => exact q φ1 x H1 (Px.refl φ1) (Kp.refl H1) h1 r1)
theorem se_not (ha : SE X W a f) : SE X W (.UnaryOp .Not a pos) (enot f) := (pe_notT ha).imp (by
  rintro σ H Q ⟨φ, env, mh, re, hh, p⟩
  refine ⟨φ, env, mh, re, hh, post_mono (Px.refl φ) (Kp.refl H) (post_bind (R1 := RelD X.K) p) ?_⟩
  rintro x H1 ⟨φ1, d, mh1, p1, k1, h1, r1, q⟩
  cases hd : truD d mh1 with
  | none => rw [hd] at q; exact q.elim
  | some k =>
    rw [hd] at q
    exact ⟨k, truV_of r1 h1 hd, q φ1 _ H1 (Px.refl φ1) (Kp.refl H1) h1 (.bl _)⟩)
theorem se_if (hc : ST X W c ft) (ha : SE X W a f) (hb : SE X W b g) : SE X W (.IfExp c a b pos) (eif ft f g) := (pe_ifExp hc ha hb).imp (by
  rintro σ H Q ⟨φ, env, mh, re, hh, p⟩
  refine ⟨φ, env, mh, re, hh, post_mono (Px.refl φ) (Kp.refl H) (post_bind (R1 := RB) p) ?_⟩
  rintro x H1 ⟨φ1, d, mh1, p1, k1, h1, r1, q⟩
  have e1 : d = x := r1
  subst e1
  cases d with
  | true => exact ⟨φ1, env, mh1, re.mono p1 k1, h1, q⟩
  | false => exact ⟨φ1, env, mh1, re.mono p1 k1, h1, q⟩)
end
end Det
/-! Det, part C: statements, loops, comprehensions, defs. -/
namespace Det
open PySem PySem.Spec PyProof.Rows L2

abbrev MS := Nv → MH → SRes
def lift {α : Type} (r : Res α) (env : Nv) (k : α → MH → SRes) : SRes := match r with
  | .ok a h => k a h
  | .ex x h => .ex x env h
  | .no => .no
def nop : MS := fun env mh => .nx env mh
def sq (s t : MS) : MS := fun env mh => match s env mh with
  | .nx e h => t e h
  | r => r
def sst (i : Nat) (f : ME) : MS := fun env mh => lift (f env mh) env fun d mh1 => .nx (env.set i (some d)) mh1
def drp (f : ME) : MS := fun env mh => lift (f env mh) env fun _ mh1 => .nx env mh1
def ret (f : ME) : MS := fun env mh => lift (f env mh) env fun d mh1 => .rt d mh1
def retN : MS := fun _ mh => .rt .non mh
def sif (c : MT) (s t : MS) : MS := fun env mh => lift (c env mh) env fun b mh1 => if b = true then s env mh1 else t env mh1
def brk : MS := fun env mh => .bk env mh
def cnt : MS := fun env mh => .ct env mh
def whl (c : MT) (b : MS) : Nat → MS
  | 0 => fun _ _ => .no
  | n + 1 => fun env mh => lift (c env mh) env fun t mh1 => if t = true then (match b env mh1 with
    | .nx e h => whl c b n e h
    | .ct e h => whl c b n e h
    | .bk e h => .nx e h
    | r => r) else .nx env mh1
/-- targets -/
inductive Pat where
  | nm (i : Nat) | tp (is : List Nat)
def Pat.ix : Pat → List Nat
  | .nm i => [i]
  | .tp is => is
def setMany : List Nat → List D → Nv → Nv
  | i :: is, d :: ds, env => setMany is ds (env.set i (some d))
  | _, _, env => env
def setP : Pat → D → Nv → Option Nv
  | .nm i, d, env => some (env.set i (some d))
  | .tp is, .tup ds, env => if ds.length = is.length then some (setMany is ds env) else none
  | _, _, _ => none
def asg (p : Pat) (f : ME) : MS := fun env mh => lift (f env mh) env fun d mh1 => match setP p d env with | some e => .nx e mh1 | none => .no
/-- what a for walks over -/
structure ItD where
  items : List D
  chk : MH → Bool
abbrev MI := Nv → MH → Res ItD
def loopF (chk : MH → Bool) (p : Pat) (body : MS) : List D → MS
  | [], env, mh => if chk mh = true then .nx env mh else .no
  | d :: ds, env, mh => if chk mh = true then (match setP p d env with
    | some e => (match body e mh with
      | .nx e h => loopF chk p body ds e h
      | .ct e h => loopF chk p body ds e h
      | .bk e h => .nx e h
      | r => r)
    | none => .no) else .no
def sfor (fi : MI) (p : Pat) (body : MS) : MS := fun env mh => lift (fi env mh) env fun it mh1 => loopF it.chk p body it.items env mh1
def Res.nox {α : Type} : Res α → Res α
  | .ex _ _ => .no
  | r => r
def wipeD (env : Nv) : List Nat → Nv
  | [] => env
  | v :: vs => (wipeD env vs).set v none
def loopC (n : Nat) (chk : MH → Bool) (p : Pat) (test : MT) (elt : ME) (env : Nv) : List D → MH → Res D
  | [], mh => if chk mh = true then .ok (.ref n) mh else .no
  | d :: ds, mh => if chk mh = true then (match setP p d env with
    | some e => ((test e mh).nox).bind fun b mh2 => if b = true then ((elt e mh2).nox).bind fun y mh3 => (match mh3[n]? with
        | some (.lst acc) => if acc.length < sizeLine then loopC n chk p test elt env ds (mh3.set n (.lst (acc ++ [y]))) else .no
        | _ => .no) else loopC n chk p test elt env ds mh2
    | none => .no) else .no
def lc (fi : MI) (p : Pat) (test : MT) (elt : ME) (vs : List Nat) : ME := fun env mh => (fi env mh).bind fun it mh1 =>
  loopC mh1.length it.chk p test elt (wipeD env vs) it.items (mh1 ++ [.lst []])
def yes : MT := fun _ mh => .ok true mh
/-- a def's function -/
def runF (n : Nat) (body : MS) : Fn := fun ds mh => match body (ds.map some ++ List.replicate (n - ds.length) none) mh with
  | .nx _ h => .ok .non h
  | .rt d h => .ok d h
  | .ex x _ h => .ex x h
  | _ => .no

/-! ### readings -/
def postS (K : PySem.W.Frag) (mg : MGl) (W : WX) (φ : List Addr) (H : Hp) (r : SRes) (D : Ends) : Prop := match r with
  | .nx e mh' => ∀ φ' σ' H', Px φ φ' → Kp H H' → HR K φ' mh' H' → RelE K φ' H' e σ' → D.nx σ' H'
  | .bk e mh' => ∀ φ' σ' H', Px φ φ' → Kp H H' → HR K φ' mh' H' → RelE K φ' H' e σ' → D.bk σ' H'
  | .ct e mh' => ∀ φ' σ' H', Px φ φ' → Kp H H' → HR K φ' mh' H' → RelE K φ' H' e σ' → D.ct σ' H'
  | .rt d mh' => ∀ φ' v H', Px φ φ' → Kp H H' → HR K φ' mh' H' → RelD K φ' H' d v → D.rt v H'
  | .ex x e mh' => ∀ φ' c d σ' H', Px φ φ' → Kp H H' → HR K φ' mh' H' → RelE K φ' H' e σ' → RelX K mg φ' H' x c d → W c d σ' H'
  | .no => False
def iS (K : PySem.W.Frag) (mg : MGl) (W : WX) (f : MS) : TS := fun D σ H => ∃ φ env mh, RelE K φ H env σ ∧ HR K φ mh H ∧ postS K mg W φ H (f env mh) D
abbrev SS (X : Cx) (W : WX) (st : Stmt) (f : MS) : Prop := PS X st (iS X.K X.mg W f)
abbrev SSs (X : Cx) (W : WX) (sts : List Stmt) (f : MS) : Prop := PSs X sts (iS X.K X.mg W f)
section
variable {K : PySem.W.Frag} {mg : MGl} {W : WX} {σ : L2.St} {φ φ' : List Addr} {H H' : Hp} {env : Nv} {D D' : Ends}
theorem postS_mono {r : SRes} (p : Px φ φ') (k : Kp H H') (h : postS K mg W φ H r D) (h1 : ∀ σ H, D.nx σ H → D'.nx σ H) (h2 : ∀ v H, D.rt v H → D'.rt v H) (h3 : ∀ σ H, D.bk σ H → D'.bk σ H) (h4 : ∀ σ H, D.ct σ H → D'.ct σ H) : postS K mg W φ' H' r D' := by
  cases r with
  | nx e mh => exact fun φ2 s H2 p2 k2 hr he => h1 _ _ (h φ2 s H2 (p.trans p2) (k.trans k2) hr he)
  | bk e mh => exact fun φ2 s H2 p2 k2 hr he => h3 _ _ (h φ2 s H2 (p.trans p2) (k.trans k2) hr he)
  | ct e mh => exact fun φ2 s H2 p2 k2 hr he => h4 _ _ (h φ2 s H2 (p.trans p2) (k.trans k2) hr he)
  | rt d mh => exact fun φ2 s H2 p2 k2 hr he => h2 _ _ (h φ2 s H2 (p.trans p2) (k.trans k2) hr he)
  | ex x e mh => exact fun φ2 c d s H2 p2 k2 hr he hx => h φ2 c d s H2 (p.trans p2) (k.trans k2) hr he hx
  | no => exact h
theorem postS_up {r : SRes} (p : Px φ φ') (k : Kp H H') (h : postS K mg W φ H r D) : postS K mg W φ' H' r D := postS_mono p k h (fun _ _ q => q) (fun _ _ q => q) (fun _ _ q => q) (fun _ _ q => q)
theorem post_lift {α β : Type} {R : Rl α β} {r : Res α} {k : α → MH → SRes} (re : RelE K φ H env σ) (h : postS K mg W φ H (lift r env k) D) :
    post K mg W R σ φ H r fun b H1 => ∃ φ1 a mh1, Px φ φ1 ∧ Kp H H1 ∧ HR K φ1 mh1 H1 ∧ R φ1 H1 a b ∧ postS K mg W φ1 H1 (k a mh1) D := by
  cases r with
  | ok a mh => exact fun φ2 b H2 p2 k2 hr hR => ⟨φ2, a, mh, p2, k2, hr, hR, postS_up p2 k2 h⟩
  | ex x mh => exact fun φ2 c d H2 p2 k2 hr hx => h φ2 c d σ H2 p2 k2 hr (re.mono p2 k2) hx
  | no => exact h
theorem RelE.none (r : RelE K φ H env σ) (v : Nat) : RelE K φ H (env.set v none) (σ.set v none) := by
  refine ⟨by simp [r.len], fun j e q => ?_⟩
  by_cases hj : j = v
  · subst hj
    by_cases hl : j < env.length
    · rw [List.getElem?_set_self hl] at q; cases q
    · rw [List.getElem?_eq_none (by simpa using hl)] at q; cases q
  · rw [List.getElem?_set_ne (Ne.symm hj)] at q ⊢
    exact r.at' j e q
theorem RelE.wipe (r : RelE K φ H env σ) : ∀ vs : List Nat, RelE K φ H (wipeD env vs) (L2.wipe σ vs)
  | [] => r
  | v :: vs => (RelE.wipe r vs).none v
end
section
variable {X : Cx} {W : WX} {e c : Expr} {f : ME} {ft : MT} {s t : MS} {st : Stmt} {rest body body2 : List Stmt} {pos : Pos}
theorem ss_nil : SSs X W [] nop := pss_nil.imp (by
  rintro D σ H ⟨φ, env, mh, re, hh, p⟩
  exact p φ σ H (Px.refl φ) (Kp.refl H) hh re)
theorem ss_pass : SS X W (.Pass pos) nop := ps_pass.imp (by
  rintro D σ H ⟨φ, env, mh, re, hh, p⟩
  exact p φ σ H (Px.refl φ) (Kp.refl H) hh re)
theorem ss_brk : SS X W (.Break pos) brk := ps_break.imp (by
  rintro D σ H ⟨φ, env, mh, re, hh, p⟩
  exact p φ σ H (Px.refl φ) (Kp.refl H) hh re)
theorem ss_cnt : SS X W (.Continue pos) cnt := ps_continue.imp (by
  rintro D σ H ⟨φ, env, mh, re, hh, p⟩
  exact p φ σ H (Px.refl φ) (Kp.refl H) hh re)
theorem ss_retN : SS X W (.Return none pos) retN := ps_retN.imp (by
  rintro D σ H ⟨φ, env, mh, re, hh, p⟩
  exact p φ .non H (Px.refl φ) (Kp.refl H) hh .non)
theorem ss_one (h1 : SS X W st s) : SSs X W [st] s := pss_one h1
theorem ss_cons (h1 : SS X W st s) (h2 : SSs X W rest t) : SSs X W (st :: rest) (sq s t) := (pss_cons h1 h2).imp (by
  rintro D σ H ⟨φ, env, mh, re, hh, p⟩
  refine ⟨φ, env, mh, re, hh, ?_⟩
  unfold sq at p
  cases h : s env mh with
  | nx e h1 => rw [h] at p; exact fun φ2 s2 H2 p2 k2 hr he => ⟨φ2, e, h1, he, hr, postS_up p2 k2 p⟩
  | bk e h1 => rw [h] at p; exact p
  | ct e h1 => rw [h] at p; exact p
  | rt e h1 => rw [h] at p; exact p
  | ex x e h1 => rw [h] at p; exact p
  | no => rw [h] at p; exact p)
theorem ss_drop (he : SE X W e f) (hs : swapsWith e none pos.line X.env = pure false := by rfl) : SS X W (.Expr e pos) (drp f) := (ps_expr he hs).imp (by
  rintro D σ H ⟨φ, env, mh, re, hh, p⟩
  refine ⟨φ, env, mh, re, hh, post_mono (Px.refl φ) (Kp.refl H) (post_lift (R := RelD X.K) re p) ?_⟩
  rintro x H1 ⟨φ1, d, mh1, p1, k1, h1, r1, q⟩
  exact q φ1 σ H1 (Px.refl φ1) (Kp.refl H1) h1 (re.mono p1 k1))
theorem ss_ret (he : SE X W e f) : SS X W (.Return (some e) pos) (ret f) := (ps_ret he).imp (by
  rintro D σ H ⟨φ, env, mh, re, hh, p⟩
  refine ⟨φ, env, mh, re, hh, post_mono (Px.refl φ) (Kp.refl H) (post_lift (R := RelD X.K) re p) ?_⟩
  rintro x H1 ⟨φ1, d, mh1, p1, k1, h1, r1, q⟩
  exact q φ1 x H1 (Px.refl φ1) (Kp.refl H1) h1 r1)
theorem imp_set {i : Nat} : ∀ D σ H, iS X.K X.mg W (sst i f) D σ H → tAsg (iE X.K X.mg W f) (gName i) D σ H := by
  rintro D σ H ⟨φ, env, mh, re, hh, p⟩
  refine ⟨φ, env, mh, re, hh, post_mono (Px.refl φ) (Kp.refl H) (post_lift (R := RelD X.K) re p) ?_⟩
  rintro x H1 ⟨φ1, d, mh1, p1, k1, h1, r1, q⟩
  exact q φ1 _ H1 (Px.refl φ1) (Kp.refl H1) h1 ((re.mono p1 k1).set r1 i)
theorem ss_set {i : Nat} {x : Str} {pos' : Pos} (he : SE X W e f) (hN : X.N.Nodup) (hi : X.N[i]? = some x := by rfl) (hx : Loc X.env.scope x := by first | exact Or.inl rfl | exact Or.inr rfl)
    (hs : swapsWith e (some (.Name x pos')) pos.line X.env = pure false := by rfl) (hf : X.fn x = true ∨ X.env.scope.names.lookup x = some .local := by first | exact .inl rfl | exact .inr rfl) :
    SS X W (.Assign [.Name x pos'] e pos) (sst i f) := (ps_set hN hi hx he hs hf).imp imp_set
theorem ss_if (hc : ST X W c ft) (ha : SSs X W body s) (hb : SSs X W body2 t) : SS X W (.If c body body2 pos) (sif ft s t) := (ps_if hc ha hb).imp (by
  rintro D σ H ⟨φ, env, mh, re, hh, p⟩
  refine ⟨φ, env, mh, re, hh, post_mono (Px.refl φ) (Kp.refl H) (post_lift (R := RB) re p) ?_⟩
  rintro x H1 ⟨φ1, d, mh1, p1, k1, h1, r1, q⟩
  have e1 : d = x := r1
  subst e1
  cases d with
  | true => exact ⟨φ1, env, mh1, re.mono p1 k1, h1, q⟩
  | false => exact ⟨φ1, env, mh1, re.mono p1 k1, h1, q⟩)
theorem ss_while (fuel : Nat) (hp : PassesOwn (model X.prog X.w) X.A X.env X.xe) (hc : ST X W c ft) (hb : SSs X W body s) : SS X W (.While c body [] pos) (whl ft s fuel) := (ps_while hp hc hb).imp (by
  rintro D σ H ⟨φ, env, mh, re, hh, p⟩
  refine ⟨fun m σ H => ∃ φ env mh, RelE X.K φ H env σ ∧ HR X.K φ mh H ∧ postS X.K X.mg W φ H (whl ft s m env mh) D, ⟨fuel, φ, env, mh, re, hh, p⟩, ?_⟩
  rintro m σ H ⟨φ, env, mh, re, hh, p⟩
  cases m with
  | zero => exact p.elim
  | succ m =>
    refine ⟨φ, env, mh, re, hh, post_mono (Px.refl φ) (Kp.refl H) (post_lift (R := RB) re p) ?_⟩
    rintro x H1 ⟨φ1, d, mh1, p1, k1, h1, r1, q⟩
    have e1 : d = x := r1
    subst e1
    cases d with
    | false => exact q φ1 σ H1 (Px.refl φ1) (Kp.refl H1) h1 (re.mono p1 k1)
    | true =>
      refine ⟨fun σ' H' => ∃ φ env mh, RelE X.K φ H' env σ' ∧ HR X.K φ mh H' ∧ postS X.K X.mg W φ H' (whl ft s m env mh) D, fun σ' H' h => ⟨m, Nat.lt_succ_self m, h⟩, ?_⟩
      refine ⟨φ1, env, mh1, re.mono p1 k1, h1, ?_⟩
      cases hb : s env mh1 with
      | nx e h => simp only [hb, if_true] at q; exact fun φ2 s2 H2 p2 k2 hr he => ⟨φ2, e, h, he, hr, postS_up p2 k2 q⟩
      | ct e h => simp only [hb, if_true] at q; exact fun φ2 s2 H2 p2 k2 hr he => ⟨φ2, e, h, he, hr, postS_up p2 k2 q⟩
      | bk e h => simp only [hb, if_true] at q; exact q
      | rt e h => simp only [hb, if_true] at q; exact q
      | ex x e h => simp only [hb, if_true] at q; exact q
      | no => simp only [hb, if_true] at q; exact q)

/-! ### targets -/
def iG (K : PySem.W.Frag) (p : Pat) : TG := fun v σ H Q => ∃ φ env mh d env', RelE K φ H env σ ∧ HR K φ mh H ∧ RelD K φ H d v ∧ setP p d env = some env' ∧
  ∀ σ', RelE K φ H env' σ' → (∀ vs, (∀ j ∈ p.ix, j ∈ vs) → wipe σ' vs = wipe σ vs) → Q σ' H
abbrev SG (X : Cx) (tg : Expr) (p : Pat) : Prop := PG X tg (iG X.K p)
theorem _root_.L2.PG.imp {X : Cx} {e : Expr} {t t' : TG} (h : PG X e t) (w : ∀ v σ H Q, t' v σ H Q → t v σ H Q) : PG X e t' := ⟨fun pins s σ H v u Q I r q => h.run pins s σ H v u Q I r (w v σ H Q q)⟩
theorem wipe_set {σ : L2.St} {j : Nat} {o : Option V} : ∀ {vs : List Nat}, j ∈ vs → wipe (σ.set j o) vs = wipe σ vs
  | v :: vs, h => by
    show (wipe (σ.set j o) vs).set v none = (wipe σ vs).set v none
    by_cases hv : j ∈ vs
    · rw [wipe_set hv]
    · have e : j = v := by
        rcases List.mem_cons.mp h with e | e
        · exact e
        · exact absurd e hv
      subst e
      have : ∀ (us : List Nat), j ∉ us → (wipe (σ.set j o) us) = (wipe σ us).set j o := by
        intro us
        induction us with
        | nil => intro _; rfl
        | cons u us ih =>
          intro hu
          show (wipe (σ.set j o) us).set u none = ((wipe σ us).set u none).set j o
          rw [ih (fun z => hu (List.mem_cons_of_mem _ z)), List.set_comm]
          exact fun z => hu (by rw [z]; exact List.mem_cons_self)
      rw [this vs hv, List.set_set]
theorem sg_name {i : Nat} {x : Str} (hN : X.N.Nodup) (hi : X.N[i]? = some x := by rfl) (hx : Loc X.env.scope x := by first | exact Or.inl rfl | exact Or.inr rfl)
    (hf : X.fn x = true ∨ X.env.scope.names.lookup x = some .local := by first | exact .inl rfl | exact .inr rfl) : SG X (.Name x pos) (.nm i) := (pg_name hN hi hx hf).imp (by
  rintro v σ H Q ⟨φ, env, mh, d, env', re, hh, rd, e, q⟩
  simp only [setP, Option.some.injEq] at e
  subst e
  exact q _ (re.set rd i) fun vs h => wipe_set (h i (List.mem_singleton.mpr rfl)))
/-- several names -/
def iGs (K : PySem.W.Frag) (is : List Nat) : TGs := fun vs σ H Q => ∃ φ env mh ds, RelE K φ H env σ ∧ HR K φ mh H ∧ RelDs K φ H ds vs ∧ ds.length = is.length ∧
  ∀ σ', RelE K φ H (setMany is ds env) σ' → (∀ us, (∀ j ∈ is, j ∈ us) → wipe σ' us = wipe σ us) → Q σ' H
abbrev SGs (X : Cx) (ts : List Expr) (is : List Nat) : Prop := PGs X ts (iGs X.K is)
theorem sgs_nil : SGs X [] [] := ⟨fun pins s σ H vs us Q I r h => by
  obtain ⟨φ, env, mh, ds, re, hh, rd, e, q⟩ := h
  cases ds with
  | cons _ _ => simp at e
  | nil =>
    cases rd
    exact pgs_nil.run pins s σ H [] us Q I r ⟨rfl, q σ re fun _ _ => rfl⟩⟩
theorem sgs_cons {i : Nat} {is : List Nat} {x : Str} {es : List Expr} (h2 : SGs X es is) (hN : X.N.Nodup) (hi : X.N[i]? = some x := by rfl) (hx : Loc X.env.scope x := by first | exact Or.inl rfl | exact Or.inr rfl)
    (hf : X.fn x = true ∨ X.env.scope.names.lookup x = some .local := by first | exact .inl rfl | exact .inr rfl)
    (hs : (assignEach (.Name x pos :: es) X.env).map (·.2) = assign (.Name x pos) X.env :: (assignEach es X.env).map (·.2) := by rfl) : SGs X (.Name x pos :: es) (i :: is) := ⟨fun pins s σ H vs us Q I r h => by
  obtain ⟨φ, env, mh, ds, re, hh, rd, e, q⟩ := h
  cases ds with
  | nil => simp at e
  | cons d ds =>
    cases rd with
    | cons r1 r2 =>
      rename_i v vs
      refine (pgs_cons (t := gName i) (pg_name hN hi hx hf) h2 hs).run pins s σ H _ us Q I r ⟨v, vs, rfl, φ, env.set i (some d), mh, ds, re.set r1 i, hh, r2, by simpa using e, fun σ' he hw => q σ' he fun us hu => ?_⟩
      rw [hw us fun j hj => hu j (List.mem_cons_of_mem _ hj)]
      exact wipe_set (hu i List.mem_cons_self)⟩
theorem sg_tup {is : List Nat} {es : List Expr} {k : Nat} (hc : X.calm = true) (h : SGs X es is) (hn : (assignEach es X.env).length = is.length := by rfl) (hst : (assignEach es X.env).findIdx? (·.1) = none := by rfl) :
    SG X (.Tuple es k pos) (.tp is) := (pg_tup hc h hn hst).imp (by
  rintro v σ H Q ⟨φ, env, mh, d, env', re, hh, rd, e, q⟩
  cases rd with
  | tup hs r =>
    rename_i a ds vs
    simp only [setP] at e
    split at e
    · rename_i hl
      cases e
      exact ⟨a, vs, rfl, hs, by rw [← r.length]; exact hl, φ, env, mh, ds, re, hh, r, hl, q⟩
    · cases e
  | _ => simp [setP] at e)
theorem ss_asg {tg : Expr} {p : Pat} (he : SE X W e f) (hg : SG X tg p) (hs : swapsWithSole [tg] e pos.line X.env = pure false := by rfl) (hw : swappedStores [tg] e X.env = pure none := by rfl)
    (h1 : (assignEach [tg] X.env).map (·.2) = [assign tg X.env] := by rfl) : SS X W (.Assign [tg] e pos) (asg p f) := (ps_asg he hg hs hw h1).imp (by
  rintro D σ H ⟨φ, env, mh, re, hh, p⟩
  refine ⟨φ, env, mh, re, hh, post_mono (Px.refl φ) (Kp.refl H) (post_lift (R := RelD X.K) re p) ?_⟩
  rintro x H1 ⟨φ1, d, mh1, p1, k1, h1, r1, q⟩
  cases hd : setP ‹Pat› d env with
  | none => rw [hd] at q; exact q.elim
  | some e =>
    rw [hd] at q
    exact ⟨φ1, env, mh1, d, e, re.mono p1 k1, h1, r1, hd, fun σ' he _ => q φ1 σ' H1 (Px.refl φ1) (Kp.refl H1) h1 he⟩)

/-! ### for -/
def ItOk (K : PySem.W.Frag) (φ₀ : List Addr) (H₀ : Hp) (it : ItD) (J : It) : Prop := ∀ i φ mh H, Px φ₀ φ → Kp H₀ H → HR K φ mh H → it.chk mh = true →
  (∀ d, it.items[i]? = some d → J.go i H ∧ ∀ x H', J.yld i H x H' → Kp H H' ∧ HR K φ mh H' ∧ RelD K φ H' d x) ∧ (it.items.length ≤ i → J.stop i H)
theorem ItOk.mono {K : PySem.W.Frag} {φ φ' : List Addr} {H H' : Hp} {it : ItD} {J : It} (p : Px φ φ') (k : Kp H H') (h : ItOk K φ H it J) : ItOk K φ' H' it J := fun i φ2 mh2 H2 p2 k2 hh hc => h i φ2 mh2 H2 (p.trans p2) (k.trans k2) hh hc
def iI (K : PySem.W.Frag) (mg : MGl) (W : WX) (f : MI) : TI := fun σ H R => ∃ φ env mh, RelE K φ H env σ ∧ HR K φ mh H ∧ post K mg W (ItOk K) σ φ H (f env mh) R
abbrev SI (X : Cx) (W : WX) (tg iter : Expr) (f : MI) : Prop := PI X tg iter (iI X.K X.mg W f)
theorem _root_.L2.PI.imp {X : Cx} {tg e : Expr} {t t' : TI} (h : PI X tg e t) (w : ∀ σ H Q, t' σ H Q → t σ H Q) : PI X tg e t' := ⟨fun pins s σ H R I q => h.run pins s σ H R I (w σ H R q)⟩
theorem ss_for {tg iter : Expr} {p : Pat} {fi : MI} (hp : PassesOwn (model X.prog X.w) X.A X.env X.xe) (hc : X.calm = true) (hi : SI X W tg iter fi) (hg : SG X tg p) (hb : SSs X W body s)
    (hs : ∀ x, foldedSetIterable iter X.env x = pure x := by intro _; rfl) : SS X W (.For tg iter body [] pos) (sfor fi p s) := (ps_for hp hc hi hg hb hs).imp (by
  rintro D σ H ⟨φ, env, mh, re, hh, pq⟩
  refine ⟨φ, env, mh, re, hh, post_mono (Px.refl φ) (Kp.refl H) (post_lift (R := ItOk X.K) re pq) ?_⟩
  rintro J H1 ⟨φ1, it, mh1, p1, k1, h1, J1, q⟩
  refine ⟨fun i m σ H => m = it.items.length - i ∧ i ≤ it.items.length ∧ ∃ φ env mh, Px φ1 φ ∧ Kp H1 H ∧ RelE X.K φ H env σ ∧ HR X.K φ mh H ∧ postS X.K X.mg W φ H (loopF it.chk p s (it.items.drop i) env mh) D,
    ⟨_, rfl, Nat.zero_le _, φ1, env, mh1, Px.refl φ1, Kp.refl H1, re.mono p1 k1, h1, q⟩, ?_⟩
  rintro i m σ H ⟨rfl, hi, φ, env, mh, p2, k2, re, hh, q⟩
  by_cases hlt : i < it.items.length
  · have ed : it.items.drop i = it.items[i] :: it.items.drop (i + 1) := List.drop_eq_getElem_cons hlt
    rw [ed] at q
    unfold loopF at q
    by_cases hck : it.chk mh = true
    · rw [if_pos hck] at q
      obtain ⟨hgo, _⟩ := J1 i φ mh H p2 k2 hh hck
      obtain ⟨g1, g2⟩ := hgo it.items[i] (by simp [hlt])
      refine .inr ⟨g1, fun σ' H' => ∃ φ env mh, Px φ1 φ ∧ Kp H1 H' ∧ RelE X.K φ H' env σ' ∧ HR X.K φ mh H' ∧ postS X.K X.mg W φ H' (loopF it.chk p s (it.items.drop (i + 1)) env mh) D,
        fun σ' H' h => ⟨it.items.length - (i + 1), by omega, rfl, hlt, h⟩, fun x H' y => ?_⟩
      obtain ⟨k3, h3, r3⟩ := g2 x H' y
      cases hse : setP p it.items[i] env with
      | none => rw [hse] at q; exact q.elim
      | some e =>
        rw [hse] at q
        refine ⟨φ, env, mh, it.items[i], e, re.mono (Px.refl φ) k3, h3, r3, hse, fun σ' he _ => ⟨φ, e, mh, he, h3, ?_⟩⟩
        cases hb : s e mh with
        | nx e2 h2 => simp only [hb] at q; exact fun φ4 s4 H4 p4 k4 hr he4 => ⟨φ4, e2, h2, p2.trans p4, (k2.trans k3).trans k4, he4, hr, postS_up p4 (k3.trans k4) q⟩
        | ct e2 h2 => simp only [hb] at q; exact fun φ4 s4 H4 p4 k4 hr he4 => ⟨φ4, e2, h2, p2.trans p4, (k2.trans k3).trans k4, he4, hr, postS_up p4 (k3.trans k4) q⟩
        | bk e2 h2 => simp only [hb] at q; exact fun φ4 s4 H4 p4 k4 hr he4 => q φ4 s4 H4 p4 (k3.trans k4) hr he4
        | rt e2 h2 => simp only [hb] at q; exact fun φ4 s4 H4 p4 k4 hr he4 => q φ4 s4 H4 p4 (k3.trans k4) hr he4
        | ex x e2 h2 => simp only [hb] at q; exact fun φ4 c d s4 H4 p4 k4 hr he4 hx => q φ4 c d s4 H4 p4 (k3.trans k4) hr he4 hx
        | no => simp only [hb] at q; exact q.elim
    · rw [if_neg hck] at q; exact q.elim
  · have e : i = it.items.length := by omega
    subst e
    rw [List.drop_length] at q
    unfold loopF at q
    by_cases hck : it.chk mh = true
    · rw [if_pos hck] at q
      exact .inl ⟨(J1 _ φ mh H p2 k2 hh hck).2 (Nat.le_refl _), q φ σ H (Px.refl φ) (Kp.refl H) hh re⟩
    · rw [if_neg hck] at q; exact q.elim)

/-! ### comprehensions -/
abbrev W0 : WX := fun _ _ _ _ => False
abbrev STs (X : Cx) (W : WX) (ifs : List Expr) (f : MT) : Prop := PTs X ifs (iT X.K X.mg W f)
theorem sts_nil : STs X W [] yes := ⟨fun pins s σ H Q I h => by
  obtain ⟨φ, env, mh, re, hh, p⟩ := h
  exact pts_nil.run pins s σ H Q I (p φ true H (Px.refl φ) (Kp.refl H) hh rfl)⟩
theorem sts_one (h : ST X W c ft) : STs X W [c] ft := pts_one h
theorem post_nox {α β γ δ : Type} {K : PySem.W.Frag} {mg : MGl} {φ : List Addr} {H : Hp} {σ σ2 : L2.St} {R1 : Rl α β} {R2 : Rl γ δ} {r : Res α} {k : α → MH → Res γ} {Q : δ → Hp → Prop} (h : post K mg W R2 σ φ H (r.nox.bind k) Q) :
    post K mg W0 R1 σ2 φ H r fun b H1 => ∃ φ1 a mh1, Px φ φ1 ∧ Kp H H1 ∧ HR K φ1 mh1 H1 ∧ R1 φ1 H1 a b ∧ post K mg W R2 σ φ1 H1 (k a mh1) Q := by
  cases r with
  | ok a mh => exact fun φ2 b H2 p2 k2 hr hR => ⟨φ2, a, mh, p2, k2, hr, hR, post_mono p2 k2 h fun _ _ q => q⟩
  | ex x mh => exact (show False from h).elim
  | no => exact h
theorem imp_lc {fi : MI} {p : Pat} {elt : ME} {vs : List Nat} (hv : ∀ j ∈ p.ix, j ∈ vs) : ∀ σ H Q, iE X.K X.mg W (lc fi p ft elt vs) σ H Q →
    tLc (iI X.K X.mg W fi) (iG X.K p) (iT X.K X.mg W0 ft) (iE X.K X.mg W0 elt) vs σ H Q := by
  rintro σ H Q ⟨φ, env, mh, re, hh, pq⟩
  refine ⟨φ, env, mh, re, hh, post_mono (Px.refl φ) (Kp.refl H) (post_bind (R1 := ItOk X.K) pq) ?_⟩
  rintro J H1 ⟨φ1, it, mh1, p1, k1, h1, J1, q⟩ Dl hD
  have hnew := h1.new (ds := []) (vs := []) hD .nil
  refine ⟨fun i m H => m = it.items.length - i ∧ i ≤ it.items.length ∧ ∃ φ mh, Px (φ1 ++ [Dl]) φ ∧ Kp H1 H ∧ HR X.K φ mh H ∧ post X.K X.mg W (RelD X.K) σ φ H (loopC mh1.length it.chk p ft elt (wipeD env vs) (it.items.drop i) mh) Q,
    ⟨_, rfl, Nat.zero_le _, φ1 ++ [Dl], _, Px.refl _, Kp.new hD, hnew, post_mono px1 (Kp.new hD) q fun _ _ q => q⟩, ?_⟩
  rintro i m H ⟨rfl, hi, φ, mh, p2, k2, hh, q⟩
  have hat : φ[mh1.length]? = some Dl := p2.get h1.last
  by_cases hlt : i < it.items.length
  · have ed : it.items.drop i = it.items[i] :: it.items.drop (i + 1) := List.drop_eq_getElem_cons hlt
    rw [ed] at q
    unfold loopC at q
    by_cases hck : it.chk mh = true
    · rw [if_pos hck] at q
      obtain ⟨hgo, _⟩ := J1 i φ mh H (px1.trans p2) k2 hh hck
      obtain ⟨g1, g2⟩ := hgo it.items[i] (by simp [hlt])
      refine .inr ⟨g1, fun H' => ∃ φ mh, Px (φ1 ++ [Dl]) φ ∧ Kp H1 H' ∧ HR X.K φ mh H' ∧ post X.K X.mg W (RelD X.K) σ φ H' (loopC mh1.length it.chk p ft elt (wipeD env vs) (it.items.drop (i + 1)) mh) Q,
        fun H' h => ⟨it.items.length - (i + 1), by omega, rfl, hlt, h⟩, fun x H' y => ?_⟩
      obtain ⟨k3, h3, r3⟩ := g2 x H' y
      have re2 : RelE X.K φ H' (wipeD env vs) (wipe σ vs) := ((re.mono (p1.trans (px1.trans p2)) ((k1.trans k2).trans k3))).wipe vs
      cases hse : setP p it.items[i] (wipeD env vs) with
      | none => rw [hse] at q; exact q.elim
      | some e =>
        rw [hse] at q
        refine ⟨φ, wipeD env vs, mh, it.items[i], e, re2, h3, r3, hse, fun σ' he hw => ⟨?_, φ, e, mh, he, h3, ?_⟩⟩
        · rw [hw vs hv]
          have : ∀ us : List Nat, (∀ u ∈ us, u ∈ vs) → wipe (wipe σ vs) us = wipe σ vs := by
            intro us
            induction us with
            | nil => intro _; rfl
            | cons u us ih =>
              intro hu
              show (wipe (wipe σ vs) us).set u none = wipe σ vs
              rw [ih fun z hz => hu z (List.mem_cons_of_mem _ hz)]
              apply List.ext_getElem?
              intro j
              by_cases hj : j = u
              · subst hj
                by_cases hl : j < (wipe σ vs).length
                · rw [List.getElem?_set_self hl]
                  cases hx : (wipe σ vs)[j]? with
                  | none => rw [List.getElem?_eq_none_iff] at hx; omega
                  | some o =>
                    cases o with
                    | none => rfl
                    | some z => exact absurd (hu j List.mem_cons_self) (wipe_some hx).2
                · rw [List.getElem?_eq_none (by simpa using hl), List.getElem?_eq_none (by simpa using hl)]
              · rw [List.getElem?_set_ne (Ne.symm hj)]
          exact this vs fun _ h => h
        · refine post_mono (Px.refl φ) (Kp.refl H') (post_nox (R1 := RB) (post_mono (Px.refl φ) k3 q fun _ _ q => q)) ?_
          rintro b H4 ⟨φ4, b', mh4, p4, k4, h4, rb, q4⟩
          have e1 : b' = b := rb
          subst e1
          cases b' with
          | false => exact ⟨φ4, mh4, p2.trans p4, (k2.trans k3).trans k4, h4, q4⟩
          | true =>
            refine ⟨φ4, e, mh4, he.mono p4 k4, h4, post_mono (Px.refl φ4) (Kp.refl H4) (post_nox (R1 := RelD X.K) q4) ?_⟩
            rintro y H5 ⟨φ5, d5, mh5, p5, k5, h5, r5, q5⟩
            have hat5 : φ5[mh1.length]? = some Dl := p5.get (p4.get hat)
            cases hl : mh5[mh1.length]? with
            | none => simp only [hl] at q5; exact q5.elim
            | some ob =>
              cases ob with
              | lst acc =>
                simp only [hl] at q5
                by_cases hz : acc.length < sizeLine
                · rw [if_pos hz] at q5
                  obtain ⟨vs5, hv5, rv5⟩ := h5.lst hat5 hl
                  refine ⟨vs5, hv5, by rw [← rv5.length]; exact hz, φ5, _, (p2.trans p4).trans p5, (((k2.trans k3).trans k4).trans k5).trans (Kp.mut hv5 fun z => z), h5.setL hat5 hv5 (rv5.append (.cons r5 .nil)), post_mono (Px.refl φ5) (Kp.mut hv5 fun z => z) q5 fun _ _ q => q⟩
                · rw [if_neg hz] at q5; exact q5.elim
              | dk _ => simp only [hl] at q5; exact q5.elim
              | dt _ => simp only [hl] at q5; exact q5.elim
              | lk _ => simp only [hl] at q5; exact q5.elim
    · rw [if_neg hck] at q; exact q.elim
  · have e : i = it.items.length := by omega
    subst e
    rw [List.drop_length] at q
    unfold loopC at q
    by_cases hck : it.chk mh = true
    · rw [if_pos hck] at q
      exact .inl ⟨(J1 _ φ mh H (px1.trans p2) k2 hh hck).2 (Nat.le_refl _), q φ _ H (Px.refl φ) (Kp.refl H) hh (.ref hat)⟩
    · rw [if_neg hck] at q; exact q.elim
theorem se_lc {elt tg iter : Expr} {ifs : List Expr} {scope : Scope} {own : List (Str × Nat)} {fi : MI} {p : Pat} {fe : ME} (hc : X.calm = true) (hN : X.N.Nodup) (hi : SI X W tg iter fi) (ok : BlkOk X.N X.env.scope scope own)
    (hv : ∀ j ∈ p.ix, j ∈ own.map (·.2)) (hg : ∀ (s : Shared) (H : Hp) (C : Addr) (cl : List (Str × Addr)) (fp : List Addr), SG (X.blk s H scope (compEnvC scope cl C X.env) fp) tg p)
    (ht : ∀ (s : Shared) (H : Hp) (C : Addr) (cl : List (Str × Addr)) (fp : List Addr), STs (X.blk s H scope (compEnvC scope cl C X.env) fp) W0 ifs ft)
    (he : ∀ (s : Shared) (H : Hp) (C : Addr) (cl : List (Str × Addr)) (fp : List Addr), SE (X.blk s H scope (compEnvC scope cl C X.env) fp) W0 elt fe) (hs : ∀ x, foldedSetIterable iter X.env x = pure x := by intro _; rfl) :
    SE X W (.ListComp elt [⟨tg, iter, ifs, 0⟩] scope pos) (lc fi p ft fe (own.map (·.2))) := (pe_lc hc hN hi ok hg ht he hs).imp (imp_lc hv)
theorem ss_setLc {i : Nat} {y : Str} {py : Pos} {elt tg iter : Expr} {ifs : List Expr} {scope : Scope} {own : List (Str × Nat)} {spos : Pos} {fi : MI} {p : Pat} {fe : ME} (hc : X.calm = true) (hN : X.N.Nodup) (hi : SI X W tg iter fi) (ok : BlkOk X.N X.env.scope scope own)
    (hv : ∀ j ∈ p.ix, j ∈ own.map (·.2)) (hg : ∀ (s : Shared) (H : Hp) (C : Addr) (cl : List (Str × Addr)) (fp : List Addr), SG (X.blk s H scope (compEnvC scope cl C X.env) fp) tg p)
    (ht : ∀ (s : Shared) (H : Hp) (C : Addr) (cl : List (Str × Addr)) (fp : List Addr), STs (X.blk s H scope (compEnvC scope cl C X.env) fp) W0 ifs ft)
    (he : ∀ (s : Shared) (H : Hp) (C : Addr) (cl : List (Str × Addr)) (fp : List Addr), SE (X.blk s H scope (compEnvC scope cl C X.env) fp) W0 elt fe)
    (hy : X.N[i]? = some y := by rfl) (hyl : X.env.scope.names.lookup y = some .local := by rfl)
    (hsw : swapsWith (.ListComp elt [⟨tg, iter, ifs, 0⟩] scope pos) (some (.Name y py)) spos.line X.env = pure true) (hs : ∀ x, foldedSetIterable iter X.env x = pure x := by intro _; rfl) :
    SS X W (.Assign [.Name y py] (.ListComp elt [⟨tg, iter, ifs, 0⟩] scope pos) spos) (sst i (lc fi p ft fe (own.map (·.2)))) := (ps_setLc hc hN hy hyl hsw hi ok hg ht he hs).imp (by
  rintro D σ H ⟨φ, env, mh, re, hh, pq⟩
  refine imp_lc hv σ H _ ⟨φ, env, mh, re, hh, post_mono (Px.refl φ) (Kp.refl H) (post_lift (R := RelD X.K) re pq) ?_⟩
  rintro x H1 ⟨φ1, d, mh1, p1, k1, h1, r1, q⟩
  exact q φ1 _ H1 (Px.refl φ1) (Kp.refl H1) h1 ((re.mono p1 k1).set r1 i))

/-! ### defs and calls -/
def spF (K : PySem.W.Frag) (mg : MGl) (n : Nat) (F : Fn) : Sp := fun vs H Q E => ∃ φ mh ds, RelDs K φ H ds vs ∧ HR K φ mh H ∧ ds.length = n ∧ post K mg (fun c d _ H' => E c d H') (RelD K) [] φ H (F ds mh) Q
abbrev DOk (P : Program) (w : World) (K : PySem.W.Frag) (mg : MGl) (base : Heap) (k : Nat) (f : Addr) (fd : FuncData) (ps : List Str) (F : Fn) : Prop := FnOk P w K mg base (L2.CX P w) k f fd ps (spF K mg ps.length F)
theorem imp_cal {F : Fn} {n : Nat} {fa : MA} : ∀ σ H Q, iE X.K X.mg W (cal n F fa) σ H Q → iA X.K X.mg W fa σ H fun vs H1 => spF X.K X.mg n F vs H1 Q (WE W σ) := by
  rintro σ H Q ⟨φ, env, mh, re, hh, pq⟩
  refine ⟨φ, env, mh, re, hh, post_mono (Px.refl φ) (Kp.refl H) (post_bind (R1 := RelDs X.K) pq) ?_⟩
  rintro vs H1 ⟨φ1, ds, mh1, p1, k1, h1, r1, q⟩
  by_cases hl : ds.length = n
  · rw [if_pos hl] at q
    refine ⟨φ1, mh1, ds, r1, h1, hl, ?_⟩
    cases hF : F ds mh1 with
    | ok d mh2 => rw [hF] at q; exact q
    | ex x mh2 => rw [hF] at q; exact q
    | no => rw [hF] at q; exact q
  · rw [if_neg hl] at q; exact q.elim
theorem se_call {F : Fn} {k : Nat} {g : Addr} {fd : FuncData} {ps : List Str} {x : Str} {p : Pos} {es : List Expr} {fa : MA} (tk : Takes X W) (G : DOk X.prog X.w X.K X.mg X.base k g fd ps F) (hr : Room k X.A) (hm : X.mg x = some (.ref g)) (hk : PySem.W.keepIn X.K (.ref g) = true) (hb : Binds X.K fd ps [])
    (ha : SA X W (e :: es) fa) (hg : Gl X x := by rfl) (hdb : (x == ("__debug__" : Str)) = false := by decide) (he : starEach (e :: es) X.env = (false, eval e X.env) :: starEach es X.env := by rfl) (hpl : (backTo pos (starEach es X.env)).any (·.1) = false := by rfl) :
    SE X W (.Call (.Name x p) (e :: es) [] pos) (cal ps.length F fa) := (pe_callS G hr hg hm hk hb (fun σ => passAt tk σ) ha hdb he hpl).imp imp_cal
/-- f(), nothing raised -/
theorem se_call0 {F : Fn} {k : Nat} {g : Addr} {fd : FuncData} {x : Str} {p : Pos} (tk : Takes X W) (G : DOk X.prog X.w X.K X.mg X.base k g fd [] F) (hr : Room k X.A) (hm : X.mg x = some (.ref g)) (hk : PySem.W.keepIn X.K (.ref g) = true) (hb : Binds X.K fd [] [])
    (hg : Gl X x := by rfl) (hdb : (x == ("__debug__" : Str)) = false := by decide) :
    SE X W (.Call (.Name x p) [] [] pos) (cal 0 F anil) := by
  refine ⟨fun pins s σ H Q I h => ?_⟩
  obtain ⟨φ, env, mh, re, hh, pq⟩ := imp_cal σ H Q h
  refine wpAny_Call_Name_kw (ld_glob I hg hm ?_ hdb)
  exact PySem.W.callWith_K0 I.kIn hk (run_fnS (us := []) G hr hb (passAt tk σ) I .nil (pq φ [] H (Px.refl φ) (Kp.refl H) hh .nil))
/-- THE RULE of a def -/
theorem okF {P : Program} {w : World} {K : PySem.W.Frag} {mg : MGl} {base : Heap} {x qual : Str} {stt : Stmt} {fad : Addr} {fd : FuncData} {N ps : List Str} {k : Nat} {bd : MS} (F : Fun K x qual stt fad fd) (S : FnScope N ps (defScope stt)) (hle : ps.length ≤ N.length)
    (hb : ∀ (cdv : Value) (A : Around) (outer : List Env) (s : Shared) (H : Hp) (E : XK), Room k (A.deeper (envOfC qual (defScope stt) s.heap.objs.size fad cdv)) →
      SSs (cxOf (L2.CX P w) P w K mg base N qual (defScope stt) fad cdv A outer s H E) (fun c d _ H' => E c d H') (defBody stt) bd) : DOk P w K mg base (k + 1) fad fd ps (runF N.length bd) := by
  refine F.okX S (fun vs H Q E h => ?_) (fun cdv A outer s H vs Q E hr h => ⟨_, hb cdv A outer s H E hr, ?_⟩)
  · obtain ⟨φ, mh, ds, r, _, hl, _⟩ := h
    rw [← r.length]; exact hl
  · obtain ⟨φ, mh, ds, r, hh, hl, q⟩ := h
    have hlv : vs.length = ps.length := by rw [← r.length]; exact hl
    refine ⟨φ, ds.map some ++ List.replicate (N.length - ds.length) none, mh, ⟨?_, fun i d e => ?_⟩, hh, ?_⟩
    · unfold L2.start; simp [r.length]
    · have hi : i < ds.length := by
        by_cases h : i < ds.length
        · exact h
        · rw [List.getElem?_append_right (by simpa using h)] at e
          rw [List.getElem?_replicate] at e
          split at e <;> cases e
      rw [List.getElem?_append_left (by simpa using hi), List.getElem?_map] at e
      cases hd : ds[i]? with
      | none => rw [hd] at e; cases e
      | some d' =>
        rw [hd] at e
        cases e
        obtain ⟨v, h1, h2⟩ := r.get hd
        refine ⟨v, ?_, h2⟩
        have hiv : i < vs.length := by rw [← r.length]; exact hi
        show (vs.map some ++ List.replicate (N.length - vs.length) none)[i]? = some (some v)
        rw [List.getElem?_append_left (by simpa using hiv), List.getElem?_map, h1]
        rfl
    · unfold runF at q
      cases hbd : bd (ds.map some ++ List.replicate (N.length - ds.length) none) mh with
      | nx e h => rw [hbd] at q; exact fun φ2 s2 H2 p2 k2 hr _ => q φ2 .non H2 p2 k2 hr .non
      | rt e h => rw [hbd] at q; exact q
      | ex x e h => rw [hbd] at q; exact fun φ2 c d s2 H2 p2 k2 hr _ hx => q φ2 c d H2 p2 k2 hr hx
      | bk e h => rw [hbd] at q; exact q.elim
      | ct e h => rw [hbd] at q; exact q.elim
      | no => rw [hbd] at q; exact q.elim
end
end Det
/-! Det, part D: operations on values. -/
namespace Det
open PySem PySem.Spec PyProof.Rows L2

/-! ### operators -/
def oAdd : Op2 := fun a b mh => match a, b with
  | .int i, .int j => some (.int (i + j), mh)
  | .str x, .str y => if x.length + y.length ≤ sizeLine then some (.str (x ++ y), mh) else none
  | .tup xs, .tup ys => if xs.length + ys.length ≤ sizeLine then some (.tup (xs ++ ys), mh) else none
  | .ref m, .ref n => match mh[m]?, mh[n]? with
    | some (.lst xs), some (.lst ys) => if xs.length + ys.length ≤ sizeLine then some (.ref mh.length, mh ++ [.lst (xs ++ ys)]) else none
    | _, _ => none
  | _, _ => none
def oSub : Op2 := fun a b mh => match a, b with
  | .int i, .int j => some (.int (i - j), mh)
  | _, _ => none
def oMul : Op2 := fun a b mh => match a, b with
  | .int i, .int j => if (-(2 ^ 64) < i ∧ i < 2 ^ 64) ∨ (-(2 ^ 64) < j ∧ j < 2 ^ 64) then some (.int (i * j), mh) else none
  | .tup xs, .int k => if xs ≠ [] ∧ 2 ≤ k ∧ k ≤ 1000 ∧ xs.length ≤ 1000 then some (.tup (List.replicate k.toNat xs).flatten, mh) else none
  | .ref m, .int k => match mh[m]? with
    | some (.lst xs) => if -(2 ^ 63) ≤ k ∧ k < 2 ^ 63 ∧ xs.length * k.toNat ≤ sizeLine then some (.ref mh.length, mh ++ [.lst (List.replicate k.toNat xs).flatten]) else none
    | _ => none
  | _, _ => none
def oFdiv : Op2 := fun a b mh => match a, b with
  | .int i, .int j => if j ≠ 0 ∧ j.natAbs < 1073741824 then some (.int (i.fdiv j), mh) else none
  | _, _ => none
def oMod : Op2 := fun a b mh => match a, b with
  | .int i, .int j => if j ≠ 0 then some (.int (i.fmod j), mh) else none
  | _, _ => none
def oPow : Op2 := fun a b mh => match a, b with
  | .int i, .int j => if 0 ≤ j ∧ j ≤ 1000000 ∧ i.natAbs < 2 ^ 64 then some (.int (i ^ j.toNat), mh) else none
  | _, _ => none
def oShl : Op2 := fun a b mh => match a, b with
  | .int i, .int j => if 0 ≤ j ∧ j ≤ 1000000 ∧ i.natAbs < 2 ^ 64 then some (.int (i * 2 ^ j.toNat), mh) else none
  | _, _ => none
def oNeg : Op1 := fun a mh => match a with
  | .int i => some (.int (-i), mh)
  | _ => none
section
variable {X : Cx}
theorem postO_val {K : PySem.W.Frag} {φ : List Addr} {H : Hp} {d : D} {v : V} {mh : MH} {Q : V → Hp → Prop} (hh : HR K φ mh H) (p : postO K (RelD K) φ H (some (d, mh)) Q) (r : RelD K φ H d v) : Q v H := p φ v H (Px.refl φ) (Kp.refl H) hh r
theorem postO_new {K : PySem.W.Frag} {φ : List Addr} {H : Hp} {ds : List D} {vs : List V} {mh : MH} {Q : V → Hp → Prop} (hh : HR K φ mh H) (p : postO K (RelD K) φ H (some (.ref mh.length, mh ++ [.lst ds])) Q) (r : RelDs K φ H ds vs) {a : Addr} (ha : H a = none) : Q (.ref a) (upd H a (.lst vs)) :=
  p (φ ++ [a]) (.ref a) _ px1 (Kp.new ha) (hh.new ha r) (.ref hh.last)
theorem postO_tup {K : PySem.W.Frag} {φ : List Addr} {H : Hp} {ds : List D} {vs : List V} {mh : MH} {Q : V → Hp → Prop} (hh : HR K φ mh H) (p : postO K (RelD K) φ H (some (.tup ds, mh)) Q) (r : RelDs K φ H ds vs) {a : Addr} (ha : H a = none) : Q (.ref a) (upd H a (.tup vs)) :=
  p φ (.ref a) _ (Px.refl φ) (Kp.new ha) (hh.grow ha) (.tup (SqT.of upd_same) (r.mono (Px.refl φ) (Kp.new ha)))
theorem RelDs.nil_iff {K : PySem.W.Frag} {φ : List Addr} {H : Hp} {ds : List D} {vs : List V} (r : RelDs K φ H ds vs) : ds = [] ↔ vs = [] := by
  cases r <;> simp
theorem r_add : OpR X (binaryOp .Add) (iR2 X.K oAdd) := by
  rintro pins s σ H x y v u Q I rx ry ⟨φ, mh, a, b, ra, rb, hh, p⟩
  cases ra with
  | int i =>
    cases rb with
    | int j => exact op_add pins s σ H _ _ v u Q I rx ry ⟨i, j, rfl, rfl, postO_val hh p (.int _)⟩
    | _ => exact p.elim
  | str i =>
    cases rb with
    | str j =>
      simp only [oAdd] at p
      split at p
      · rename_i hl; exact op_add_str pins s σ H _ _ v u Q I rx ry ⟨i, j, rfl, rfl, hl, postO_val hh p (.str _)⟩
      · exact p.elim
    | _ => exact p.elim
  | tup h1 r1 =>
    rename_i a1 xs vs
    cases rb with
    | tup h2 r2 =>
      rename_i a2 ys ws
      simp only [oAdd] at p
      split at p
      · rename_i hl
        refine op_catA pins s σ H _ _ v u Q I rx ry ⟨a1, a2, vs, ws, rfl, rfl, h1, h2, by rw [← r1.length, ← r2.length]; exact hl, fun e => ?_, fun _ e => ?_, fun _ _ q hq => postO_tup hh p (r1.append r2) hq⟩
        · have e' := r1.nil_iff.mpr e
          subst e'
          exact postO_val hh p (.tup h2 r2)
        · have e' := r2.nil_iff.mpr e
          subst e'
          rw [List.append_nil] at p
          exact postO_val hh p (.tup h1 r1)
      · exact p.elim
    | _ => exact p.elim
  | ref h1 =>
    rename_i n a1
    cases rb with
    | ref h2 =>
      rename_i m a2
      simp only [oAdd] at p
      split at p
      · rename_i xs ys e1 e2
        split at p
        · rename_i hl
          obtain ⟨vs, q1, r1⟩ := hh.lst h1 e1
          obtain ⟨ws, q2, r2⟩ := hh.lst h2 e2
          exact op_cat pins s σ H _ _ v u Q I rx ry ⟨a1, a2, vs, ws, rfl, rfl, q1, q2, by rw [← r1.length, ← r2.length]; exact hl, fun q hq => postO_new hh p (r1.append r2) hq⟩
        · exact p.elim
      · exact p.elim
    | _ => exact p.elim
  | _ => cases rb <;> exact p.elim
theorem r_sub : OpR X (binaryOp .Sub) (iR2 X.K oSub) := by
  rintro pins s σ H x y v u Q I rx ry ⟨φ, mh, a, b, ra, rb, hh, p⟩
  cases ra with
  | int i =>
    cases rb with
    | int j => exact op_sub pins s σ H _ _ v u Q I rx ry ⟨i, j, rfl, rfl, postO_val hh p (.int _)⟩
    | _ => exact p.elim
  | _ => cases rb <;> exact p.elim
theorem RelDs.rep {K : PySem.W.Frag} {φ : List Addr} {H : Hp} {ds : List D} {vs : List V} (r : RelDs K φ H ds vs) : ∀ k : Nat, RelDs K φ H (List.replicate k ds).flatten (List.replicate k vs).flatten
  | 0 => .nil
  | k + 1 => by rw [List.replicate_succ, List.replicate_succ, List.flatten_cons, List.flatten_cons]; exact r.append (RelDs.rep r k)
theorem r_mul : OpR X (binaryOp .Mult) (iR2 X.K oMul) := by
  rintro pins s σ H x y v u Q I rx ry ⟨φ, mh, a, b, ra, rb, hh, p⟩
  cases ra with
  | int i =>
    cases rb with
    | int j =>
      simp only [oMul] at p
      split at p
      · rename_i hl; exact op_mul pins s σ H _ _ v u Q I rx ry ⟨i, j, rfl, rfl, hl, postO_val hh p (.int _)⟩
      · exact p.elim
    | _ => exact p.elim
  | tup h1 r1 =>
    rename_i a1 xs vs
    cases rb with
    | int k =>
      simp only [oMul] at p
      split at p
      · rename_i hl
        obtain ⟨n1, n2, n3, n4⟩ := hl
        exact op_repT pins s σ H _ _ v u Q I rx ry ⟨a1, k, vs, rfl, rfl, h1, fun e => n1 (r1.nil_iff.mpr e), n2, n3, by rw [← r1.length]; exact n4, fun q hq => postO_tup hh p (r1.rep _) hq⟩
      · exact p.elim
    | _ => exact p.elim
  | ref h1 =>
    rename_i n a1
    cases rb with
    | int k =>
      simp only [oMul] at p
      split at p
      · rename_i xs e1
        split at p
        · rename_i hl
          obtain ⟨n1, n2, n3⟩ := hl
          obtain ⟨vs, q1, r1⟩ := hh.lst h1 e1
          exact op_rep pins s σ H _ _ v u Q I rx ry ⟨a1, k, vs, rfl, rfl, q1, n1, n2, by rw [← r1.length]; exact n3, fun q hq => postO_new hh p (r1.rep _) hq⟩
        · exact p.elim
      · exact p.elim
    | _ => exact p.elim
  | _ => cases rb <;> exact p.elim
theorem r_int {op : Operator} {C : Int → Int → Prop} [∀ i j, Decidable (C i j)] {g : Int → Int → Int} {o : Op2} (rule : OpR X (binaryOp op) (rI C fun i j => .int (g i j)))
    (ho : ∀ a b mh, o a b mh = match a, b with | .int i, .int j => if C i j then some (.int (g i j), mh) else none | _, _ => none) : OpR X (binaryOp op) (iR2 X.K o) := by
  rintro pins s σ H x y v u Q I rx ry ⟨φ, mh, a, b, ra, rb, hh, p⟩
  rw [ho] at p
  cases ra with
  | int i =>
    cases rb with
    | int j =>
      simp only at p
      split at p
      · rename_i hl; exact rule pins s σ H _ _ v u Q I rx ry ⟨i, j, rfl, rfl, hl, postO_val hh p (.int _)⟩
      · exact p.elim
    | _ => exact p.elim
  | _ => cases rb <;> exact p.elim
instance : ∀ i j, Decidable (CDivN i j) := fun i j => by unfold CDivN; infer_instance
instance : ∀ i j, Decidable (CPow i j) := fun i j => by unfold CPow; infer_instance
theorem r_fdiv : OpR X (binaryOp .FloorDiv) (iR2 X.K oFdiv) := r_int op_fdivN fun a b mh => by cases a <;> cases b <;> rfl
theorem r_mod : OpR X (binaryOp .Mod) (iR2 X.K oMod) := r_int op_modN fun a b mh => by cases a <;> cases b <;> rfl
theorem r_pow : OpR X (binaryOp .Pow) (iR2 X.K oPow) := r_int op_pow fun a b mh => by cases a <;> cases b <;> rfl
theorem r_shl : OpR X (binaryOp .LShift) (iR2 X.K oShl) := r_int op_shl fun a b mh => by cases a <;> cases b <;> rfl
theorem r_neg : UnR X (unaryOp .USub) (iR1 X.K oNeg) := by
  rintro pins s σ H x v Q I rx ⟨φ, mh, a, ra, hh, p⟩
  cases ra with
  | int i => exact un_neg pins s σ H _ v Q I rx ⟨i, rfl, postO_val hh p (.int _)⟩
  | _ => exact p.elim

/-! ### comparisons -/
/-- data of a value, lists read -/
def datD (mh : MH) : Nat → D → Option PyData
  | _, .non => some .none
  | _, .bl b => some (.bool b)
  | _, .int i => some (.int i)
  | _, .str x => some (.str x)
  | n + 1, .tup xs => (xs.mapM (datD mh n)).map .tuple
  | n + 1, .rol xs => (xs.mapM (datD mh n)).map .list
  | n + 1, .ref m => match mh[m]? with
    | some (.lst xs) => (xs.mapM (datD mh n)).map .list
    | _ => none
  | _, _ => none
theorem mapM_dat {K : PySem.W.Frag} {φ : List Addr} {H : Hp} {f : D → Option PyData} (hf : ∀ d v p, RelD K φ H d v → f d = some p → Dp K H v p) : ∀ {ds : List D} {vs : List V} {ps : List PyData}, RelDs K φ H ds vs → ds.mapM f = some ps → DpAll K H vs ps
  | _, _, ps, .nil, e => by
    simp at e
    subst e
    exact .nil
  | _, _, ps, .cons (d := d) (ds := ds) h t, e => by
    rw [List.mapM_cons] at e
    cases h1 : f d with
    | none => rw [h1] at e; cases e
    | some p =>
      rw [h1] at e
      cases h2 : ds.mapM f with
      | none => simp [h2] at e
      | some qs =>
        simp [h2] at e
        subst e
        exact .cons (hf _ _ _ h h1) (mapM_dat hf t h2)
theorem datD_ok {K : PySem.W.Frag} {φ : List Addr} {H : Hp} {mh : MH} (hh : HR K φ mh H) : ∀ (n : Nat) (d : D) (v : V) (p : PyData), RelD K φ H d v → datD mh n d = some p → Dp K H v p := by
  intro n
  induction n with
  | zero =>
    intro d v p r e
    cases r with
    | non => cases e; exact .non
    | bl b => cases e; exact .bl b
    | int i => cases e; exact .int i
    | str x => cases e; exact .str x
    | _ => cases e
  | succ n ih =>
    intro d v p r e
    cases r with
    | non => cases e; exact .non
    | bl b => cases e; exact .bl b
    | int i => cases e; exact .int i
    | str x => cases e; exact .str x
    | tup hs t =>
      simp only [datD] at e
      cases h2 : List.mapM (datD mh n) ‹List D› with
      | none => rw [h2] at e; cases e
      | some qs =>
        rw [h2] at e
        cases e
        exact .tup hs (mapM_dat ih t h2)
    | rol hs t =>
      simp only [datD] at e
      cases h2 : List.mapM (datD mh n) ‹List D› with
      | none => rw [h2] at e; cases e
      | some qs =>
        rw [h2] at e
        cases e
        exact .lst hs.seq (mapM_dat ih t h2)
    | ref hn =>
      simp only [datD] at e
      split at e
      · rename_i xs hx
        cases h2 : List.mapM (datD mh n) xs with
        | none => rw [h2] at e; cases e
        | some qs =>
          rw [h2] at e
          cases e
          obtain ⟨vs, q1, r1⟩ := hh.lst hn hx
          exact .lst (SqL.of q1) (mapM_dat ih r1 h2)
      · cases e
    | _ => cases e
/-- == of data -/
def eqD (mh : MH) (a b : D) : Option Bool := match a, b with
  | .int i, .int j => some (i == j)
  | .str x, .str y => some (x == y)
  | a, b => match datD mh 60 a, datD mh 60 b with
    | some d, some e => if SeqAt.shaped d = true ∧ SeqAt.shaped e = true then some (PyData.eqv d e) else none
    | _, _ => none
def oEq : Op2 := fun a b mh => match eqD mh a b with
  | some k => some (.bl k, mh)
  | none => none
def oNe : Op2 := fun a b mh => match eqD mh a b with
  | some k => some (.bl (!k), mh)
  | none => none
theorem eqD_ok {φ : List Addr} {H : Hp} {mh : MH} {a b : D} {x y : V} {k : Bool} (hh : HR X.K φ mh H) (ra : RelD X.K φ H a x) (rb : RelD X.K φ H b y) (h : eqD mh a b = some k) :
    (scal x y = true ∧ decide (x = y) = k) ∨ ∃ d e, Dp X.K H x d ∧ Dp X.K H y e ∧ SeqAt.shaped d = true ∧ SeqAt.shaped e = true ∧ PyData.eqv d e = k := by
  unfold eqD at h
  split at h
  · cases ra; cases rb
    simp only [Option.some.injEq] at h
    exact .inl ⟨rfl, by rw [dec_int]; exact h⟩
  · cases ra; cases rb
    simp only [Option.some.injEq] at h
    exact .inl ⟨rfl, by rw [dec_str]; exact h⟩
  · split at h
    · rename_i d e h1 h2
      split at h
      · rename_i hs
        simp only [Option.some.injEq] at h
        exact .inr ⟨d, e, datD_ok hh _ _ _ _ ra h1, datD_ok hh _ _ _ _ rb h2, hs.1, hs.2, h⟩
      · cases h
    · cases h
theorem r_eq (hu : X.A.units + 64 < cLine) : OpR X (compareOp .Eq) (iR2 X.K oEq) := by
  rintro pins s σ H x y v u Q I rx ry ⟨φ, mh, a, b, ra, rb, hh, p⟩
  unfold oEq at p
  cases h : eqD mh a b with
  | none => rw [h] at p; exact p.elim
  | some k =>
    rw [h] at p
    have q := postO_val hh p (.bl k)
    rcases eqD_ok hh ra rb h with ⟨h1, h2⟩ | ⟨d, e, h1, h2, h3, h4, h5⟩
    · exact op_eq pins s σ H x y v u Q I rx ry ⟨h1, by rw [h2]; exact q⟩
    · exact op_eqD hu pins s σ H x y v u Q I rx ry ⟨d, e, h1, h2, h3, h4, by rw [h5]; exact q⟩
theorem r_ne (hu : X.A.units + 64 < cLine) : OpR X (compareOp .NotEq) (iR2 X.K oNe) := by
  rintro pins s σ H x y v u Q I rx ry ⟨φ, mh, a, b, ra, rb, hh, p⟩
  unfold oNe at p
  cases h : eqD mh a b with
  | none => rw [h] at p; exact p.elim
  | some k =>
    rw [h] at p
    have q := postO_val hh p (.bl (!k))
    rcases eqD_ok hh ra rb h with ⟨h1, h2⟩ | ⟨d, e, h1, h2, h3, h4, h5⟩
    · exact op_ne pins s σ H x y v u Q I rx ry ⟨h1, by rw [h2]; exact q⟩
    · exact op_neD hu pins s σ H x y v u Q I rx ry ⟨d, e, h1, h2, h3, h4, by rw [h5]; exact q⟩
/-- order of ints and texts -/
def ltS (x y : Str) : Bool := decide (x.cps.toList < y.cps.toList)
def oCmp (fi : Int → Int → Bool) (fs : Str → Str → Bool) : Op2 := fun a b mh => match a, b with
  | .int i, .int j => some (.bl (fi i j), mh)
  | .str x, .str y => some (.bl (fs x y), mh)
  | _, _ => none
abbrev oLt : Op2 := oCmp (fun i j => decide (i < j)) ltS
abbrev oLe : Op2 := oCmp (fun i j => decide (i ≤ j)) fun x y => !ltS y x
abbrev oGt : Op2 := oCmp (fun i j => decide (j < i)) fun x y => ltS y x
abbrev oGe : Op2 := oCmp (fun i j => decide (j ≤ i)) fun x y => !ltS x y
theorem r_cmp {op : CmpOp} {fi : Int → Int → Bool} {fs : Str → Str → Bool} (h1 : OpR X (compareOp op) (rI0 fun i j => .bl (fi i j))) (h2 : OpR X (compareOp op) (fun x y H Q => ∃ i j, x = .str i ∧ y = .str j ∧ Q (.bl (fs i j)) H)) :
    OpR X (compareOp op) (iR2 X.K (oCmp fi fs)) := by
  rintro pins s σ H x y v u Q I rx ry ⟨φ, mh, a, b, ra, rb, hh, p⟩
  cases ra with
  | int i =>
    cases rb with
    | int j => exact h1 pins s σ H _ _ v u Q I rx ry ⟨i, j, rfl, rfl, postO_val hh p (.bl _)⟩
    | _ => exact p.elim
  | str i =>
    cases rb with
    | str j => exact h2 pins s σ H _ _ v u Q I rx ry ⟨i, j, rfl, rfl, postO_val hh p (.bl _)⟩
    | _ => exact p.elim
  | _ => cases rb <;> exact p.elim
theorem r_lt : OpR X (compareOp .Lt) (iR2 X.K oLt) := r_cmp op_lt op_lt_str
theorem r_le : OpR X (compareOp .LtE) (iR2 X.K oLe) := r_cmp op_le op_le_str
theorem r_gt : OpR X (compareOp .Gt) (iR2 X.K oGt) := r_cmp op_gt op_gt_str
theorem r_ge : OpR X (compareOp .GtE) (iR2 X.K oGe) := r_cmp op_ge op_ge_str
/-- x in xs: flat things; one sign in a text; a key of a dict -/
def flatD : D → Bool
  | .non => true
  | .bl _ => true
  | .int _ => true
  | .str _ => true
  | _ => false
def eqvD : D → D → Bool
  | .non, .non => true
  | .bl a, .bl b => a == b
  | .int i, .int j => i == j
  | .str x, .str y => x == y
  | .bl a, .int j => b2i a == j
  | .int i, .bl b => i == b2i b
  | _, _ => false
end
end Det
/-! Det, part E: membership, identity, built-ins, items, slices, displays, what is walked. -/
namespace Det
open PySem PySem.Spec PyProof.Rows L2

section
variable {X : Cx} {W : WX}
/-! ### in, is -/
def vD : D → V
  | .non => .non
  | .bl b => .bl b
  | .int i => .int i
  | .str x => .str x
  | _ => .non
theorem flat_rel {K : PySem.W.Frag} {φ : List Addr} {H : Hp} {d : D} {v : V} (r : RelD K φ H d v) (f : flatD d = true) : v = vD d ∧ flatV v = true := by
  cases r with
  | non => exact ⟨rfl, rfl⟩
  | bl b => exact ⟨rfl, rfl⟩
  | int i => exact ⟨rfl, rfl⟩
  | str x => exact ⟨rfl, rfl⟩
  | _ => simp [flatD] at f
theorem flats_rel {K : PySem.W.Frag} {φ : List Addr} {H : Hp} : ∀ {ds : List D} {vs : List V}, RelDs K φ H ds vs → ds.all flatD = true → vs = ds.map vD ∧ vs.all flatV = true
  | _, _, .nil, _ => ⟨rfl, rfl⟩
  | _, _, .cons h t, f => by
    rw [List.all_cons, Bool.and_eq_true] at f
    obtain ⟨e1, f1⟩ := flat_rel h f.1
    obtain ⟨e2, f2⟩ := flats_rel t f.2
    exact ⟨by rw [List.map_cons, ← e1, ← e2], by rw [List.all_cons, f1, f2]; rfl⟩
/-- == of flat values -/
def eqF (a b : D) : Bool := eqV (vD a) (vD b)
def hasF (x : D) (xs : List D) : Bool := xs.any fun y => eqF y x
theorem hasF_in {x : D} {xs : List D} : inV (vD x) (xs.map vD) = hasF x xs := by
  unfold inV hasF eqF
  rw [List.any_map]; rfl
/-- the items of a list or a tuple -/
def itemsD (mh : MH) : D → Option (List D)
  | .tup xs => some xs
  | .rol xs => some xs
  | .ref n => match mh[n]? with
    | some (.lst xs) => some xs
    | _ => none
  | _ => none
def subStr (x y : Str) : Bool := if x.cps.size = 1 then decide (x.cps.getD 0 0 ∈ y.cps.toList) else !(Builtin.Str.occurrences y x 0 y.length 1).isEmpty
def inD (mh : MH) (x c : D) : Option Bool := match x, c with
  | .str a, .str b => some (subStr a b)
  | x, c => match itemsD mh c with
    | some xs => if flatD x = true ∧ xs.all flatD = true then some (hasF x xs) else
      (match c with
      | .ref _ => (match datD mh 60 x, datD mh 60 c with
        | some d, some (.list ds) => if SeqAt.shaped d = true ∧ SeqAt.shaped (.list ds) = true then some (ds.any fun z => PyData.eqv z d) else none
        | _, _ => none)
      | _ => none)
    | none => none
def oIn : Op2 := fun a b mh => (inD mh a b).map fun k => (.bl k, mh)
def oNotIn : Op2 := fun a b mh => (inD mh a b).map fun k => (.bl (!k), mh)
theorem seq_of {φ : List Addr} {H : Hp} {mh : MH} {c : D} {y : V} {xs : List D} (hh : HR X.K φ mh H) (r : RelD X.K φ H c y) (h : itemsD mh c = some xs) : ∃ p vs, y = .ref p ∧ (SqL X.K H p vs ∨ SqT X.K H p vs) ∧ RelDs X.K φ H xs vs := by
  cases r with
  | tup hs rs => cases h; exact ⟨_, _, rfl, .inr hs, rs⟩
  | rol hs rs => cases h; exact ⟨_, _, rfl, .inl hs.seq, rs⟩
  | ref hn =>
    simp only [itemsD] at h
    split at h
    · rename_i xs' hx
      cases h
      obtain ⟨vs, q, rs⟩ := hh.lst hn hx
      exact ⟨_, vs, rfl, .inl (SqL.of q), rs⟩
    · cases h
  | _ => cases h
theorem inD_ok {φ : List Addr} {H : Hp} {mh : MH} {a c : D} {x y : V} {k : Bool} (hh : HR X.K φ mh H) (ra : RelD X.K φ H a x) (rc : RelD X.K φ H c y) (h : inD mh a c = some k) :
    (∃ c' z, x = .str ⟨#[c']⟩ ∧ y = .str z ∧ decide (c' ∈ z.cps.toList) = k) ∨ (∃ i j, x = .str i ∧ y = .str j ∧ (!(Builtin.Str.occurrences j i 0 j.length 1).isEmpty) = k) ∨
    (∃ p vs, y = .ref p ∧ (SqL X.K H p vs ∨ SqT X.K H p vs) ∧ flatV x = true ∧ vs.all flatV = true ∧ inV x vs = k) ∨
    (∃ d ds, Dp X.K H x d ∧ Dp X.K H y (.list ds) ∧ SeqAt.shaped d = true ∧ SeqAt.shaped (.list ds) = true ∧ (ds.any fun z => PyData.eqv z d) = k) := by
  unfold inD at h
  split at h
  · cases ra; cases rc
    rename_i a b
    simp only [Option.some.injEq] at h
    unfold subStr at h
    split at h
    · rename_i hs
      refine .inl ⟨a.cps.getD 0 0, b, ?_, rfl, h⟩
      obtain ⟨⟨l⟩⟩ := a
      match l, hs with
      | [c'], _ => rfl
      | [], hs => simp at hs
      | _ :: _ :: _, hs => simp at hs
    · exact .inr (.inl ⟨a, b, rfl, rfl, h⟩)
  · split at h
    · rename_i xs hx
      split at h
      · rename_i hf
        simp only [Option.some.injEq] at h
        obtain ⟨p, vs, e, hs, rs⟩ := seq_of hh rc hx
        obtain ⟨e1, f1⟩ := flat_rel ra hf.1
        obtain ⟨e2, f2⟩ := flats_rel rs hf.2
        exact .inr (.inr (.inl ⟨p, vs, e, hs, f1, f2, by rw [e1, e2, hasF_in]; exact h⟩))
      · split at h
        · split at h
          · rename_i d ds h1 h2
            split at h
            · rename_i hs
              simp only [Option.some.injEq] at h
              exact .inr (.inr (.inr ⟨d, ds, datD_ok hh _ _ _ _ ra h1, datD_ok hh _ _ _ _ rc h2, hs.1, hs.2, h⟩))
            · cases h
          · cases h
        · cases h
    · cases h
theorem r_in (hu : X.A.units + 65 < cLine) : OpR X (compareOp .In) (iR2 X.K oIn) := by
  rintro pins s σ H x y v u Q I rx ry ⟨φ, mh, a, b, ra, rb, hh, p⟩
  unfold oIn at p
  cases h : inD mh a b with
  | none => rw [h] at p; exact p.elim
  | some k =>
    rw [h] at p
    have q := postO_val hh p (.bl k)
    rcases inD_ok hh ra rb h with ⟨c, z, h1, h2, h3⟩ | ⟨i, j, h1, h2, h3⟩ | ⟨pp, vs, h1, h2, h3, h4, h5⟩ | ⟨d, ds, h1, h2, h3, h4, h5⟩
    · exact op_in_sign pins s σ H x y v u Q I rx ry ⟨c, z, h1, h2, by rw [h3]; exact q⟩
    · exact op_in_str pins s σ H x y v u Q I rx ry ⟨i, j, h1, h2, by rw [h3]; exact q⟩
    · exact op_in_seq pins s σ H x y v u Q I rx ry ⟨pp, vs, h1, h2, h3, h4, by rw [h5]; exact q⟩
    · exact op_inD hu pins s σ H x y v u Q I rx ry ⟨d, ds, h1, h2, h3, h4, by rw [h5]; exact q⟩
theorem r_notIn (hu : X.A.units + 65 < cLine) : OpR X (compareOp .NotIn) (iR2 X.K oNotIn) := by
  rintro pins s σ H x y v u Q I rx ry ⟨φ, mh, a, b, ra, rb, hh, p⟩
  unfold oNotIn at p
  cases h : inD mh a b with
  | none => rw [h] at p; exact p.elim
  | some k =>
    rw [h] at p
    have q := postO_val hh p (.bl (!k))
    rcases inD_ok hh ra rb h with ⟨c, z, h1, h2, h3⟩ | ⟨i, j, h1, h2, h3⟩ | ⟨pp, vs, h1, h2, h3, h4, h5⟩ | ⟨d, ds, h1, h2, h3, h4, h5⟩
    · exact op_notIn_sign pins s σ H x y v u Q I rx ry ⟨c, z, h1, h2, by rw [h3]; exact q⟩
    · exact op_notin_str pins s σ H x y v u Q I rx ry ⟨i, j, h1, h2, by rw [h3]; exact q⟩
    · exact op_notIn_seq pins s σ H x y v u Q I rx ry ⟨pp, vs, h1, h2, h3, h4, by rw [if_pos rfl, h5]; exact q⟩
    · exact op_notInD hu pins s σ H x y v u Q I rx ry ⟨d, ds, h1, h2, h3, h4, by rw [h5]; exact q⟩
def isD : D → D → Option Bool
  | .non, .non => some true
  | _, .non => some false
  | .bl a, .bl b => some (decide (a = b))
  | _, _ => none
def oIs : Op2 := fun a b mh => (isD a b).map fun k => (.bl k, mh)
def oIsNot : Op2 := fun a b mh => (isD a b).map fun k => (.bl (!k), mh)
theorem isD_ok {K : PySem.W.Frag} {φ : List Addr} {H : Hp} {a b : D} {x y : V} {k : Bool} (ra : RelD K φ H a x) (rb : RelD K φ H b y) (h : isD a b = some k) : (y = .non ∧ decide (x = .non) = k) ∨ ∃ i j : Bool, x = .bl i ∧ y = .bl j ∧ decide (i = j) = k := by
  cases rb with
  | non =>
    cases ra with
    | non => exact .inl ⟨rfl, by simpa [isD] using h⟩
    | _ => exact .inl ⟨rfl, by simpa [isD] using h⟩
  | bl j =>
    cases ra with
    | bl i => exact .inr ⟨i, j, rfl, rfl, by simpa [isD] using h⟩
    | _ => cases h
  | _ => cases ra <;> cases h
theorem r_is : OpR X (compareOp .Is) (iR2 X.K oIs) := by
  rintro pins s σ H x y v u Q I rx ry ⟨φ, mh, a, b, ra, rb, hh, p⟩
  unfold oIs at p
  cases h : isD a b with
  | none => rw [h] at p; exact p.elim
  | some k =>
    rw [h] at p
    have q := postO_val hh p (.bl k)
    rcases isD_ok ra rb h with ⟨h1, h2⟩ | ⟨i, j, h1, h2, h3⟩
    · exact op_isN pins s σ H x y v u Q I rx ry ⟨h1, by rw [h2]; exact q⟩
    · exact op_isBl pins s σ H x y v u Q I rx ry ⟨i, j, h1, h2, by rw [h3]; exact q⟩
theorem r_isNot : OpR X (compareOp .IsNot) (iR2 X.K oIsNot) := by
  rintro pins s σ H x y v u Q I rx ry ⟨φ, mh, a, b, ra, rb, hh, p⟩
  unfold oIsNot at p
  cases h : isD a b with
  | none => rw [h] at p; exact p.elim
  | some k =>
    rw [h] at p
    have q := postO_val hh p (.bl (!k))
    rcases isD_ok ra rb h with ⟨h1, h2⟩ | ⟨i, j, h1, h2, h3⟩
    · exact op_notN pins s σ H x y v u Q I rx ry ⟨h1, by rw [h2]; exact q⟩
    · exact op_notBl pins s σ H x y v u Q I rx ry ⟨i, j, h1, h2, by rw [h3]; exact q⟩

/-! ### built-ins by name -/
def lenD (mh : MH) : D → Option Nat
  | .str s => if s.length ≤ sizeLine then some s.length else none
  | .ref n => match mh[n]? with
    | some (.lst xs) => some xs.length
    | some (.dk kvs) => some kvs.length
    | _ => none
  | .tup xs => some xs.length
  | .rol xs => some xs.length
  | _ => none
def oLen : OpA := fun as mh => match as with
  | [a] => (lenD mh a).map fun n => (.int (n : Int), mh)
  | _ => none
theorem RelDs.one {K : PySem.W.Frag} {φ : List Addr} {H : Hp} {d : D} {vs : List V} (r : RelDs K φ H [d] vs) : ∃ v, vs = [v] ∧ RelD K φ H d v := by
  cases r with
  | cons h t => cases t; exact ⟨_, rfl, h⟩
theorem RelDs.two {K : PySem.W.Frag} {φ : List Addr} {H : Hp} {d e : D} {vs : List V} (r : RelDs K φ H [d, e] vs) : ∃ v w, vs = [v, w] ∧ RelD K φ H d v ∧ RelD K φ H e w := by
  cases r with
  | cons h t => obtain ⟨w, rfl, h2⟩ := t.one; exact ⟨_, _, rfl, h, h2⟩
theorem r_len : CallR X (.builtin "len") (iRA X.K oLen) := by
  rintro pins s σ H xs us Q I r ⟨φ, mh, as, ra, hh, p⟩
  unfold oLen at p
  split at p
  · rename_i a
    obtain ⟨v, rfl, rv⟩ := ra.one
    cases h : lenD mh a with
    | none => rw [h] at p; exact p.elim
    | some n =>
      rw [h] at p
      have q := postO_val hh p (.int _)
      cases rv with
      | str z =>
        simp only [lenD] at h
        split at h
        · rename_i hl
          cases h
          exact call_len_str pins s σ H _ us Q I r ⟨z, rfl, hl, q⟩
        · cases h
      | tup hs rs =>
        cases h
        rw [rs.length] at q
        exact call_len_seq pins s σ H _ us Q I r ⟨_, _, rfl, .inr hs, q⟩
      | rol hs rs =>
        cases h
        rw [rs.length] at q
        exact call_len_seq pins s σ H _ us Q I r ⟨_, _, rfl, .inl hs.seq, q⟩
      | ref hn =>
        simp only [lenD] at h
        split at h
        · rename_i xs hx
          cases h
          obtain ⟨vs, e, rs⟩ := hh.lst hn hx
          rw [rs.length] at q
          exact call_len_seq pins s σ H _ us Q I r ⟨_, _, rfl, .inl (SqL.of e), q⟩
        · rename_i kds hx
          cases h
          obtain ⟨kvs, e, rk⟩ := hh.ob _ _ _ hn hx
          have hl := congrArg List.length rk.1
          rw [List.length_map, List.length_map] at hl
          rw [hl] at q
          exact call_lenD pins s σ H _ us Q I r ⟨_, kvs, rfl, e, q⟩
        · cases h
      | _ => cases h
  · exact p.elim
def oInt : OpA := fun as mh => match as with
  | [.int i] => some (.int i, mh)
  | [.bl k] => some (.int (if k then 1 else 0), mh)
  | _ => none
theorem r_intc : CallR X (.type "int") (iRA X.K oInt) := by
  rintro pins s σ H xs us Q I r ⟨φ, mh, as, ra, hh, p⟩
  unfold oInt at p
  split at p
  · obtain ⟨v, rfl, rv⟩ := ra.one
    cases rv
    exact call_int1 pins s σ H _ us Q I r (.inl ⟨_, rfl, postO_val hh p (.int _)⟩)
  · obtain ⟨v, rfl, rv⟩ := ra.one
    cases rv
    exact call_int1 pins s σ H _ us Q I r (.inr ⟨_, rfl, postO_val hh p (.int _)⟩)
  · exact p.elim
def oStr : OpA := fun as mh => match as with
  | [.int i] => if i.natAbs.log2 < 1920 then some (.str (toString i : String), mh) else none
  | _ => none
theorem r_strc : CallR X (.type "str") (iRA X.K oStr) := by
  rintro pins s σ H xs us Q I r ⟨φ, mh, as, ra, hh, p⟩
  unfold oStr at p
  split at p
  · obtain ⟨v, rfl, rv⟩ := ra.one
    cases rv
    split at p
    · rename_i hl
      exact call_str_int pins s σ H _ us Q I r ⟨_, rfl, hl, postO_val hh p (.str _)⟩
    · exact p.elim
  · exact p.elim
def oAbs : OpA := fun as mh => match as with
  | [.int i] => some (.int (if i < 0 then -i else i), mh)
  | _ => none
theorem r_abs : CallR X (.builtin "abs") (iRA X.K oAbs) := by
  rintro pins s σ H xs us Q I r ⟨φ, mh, as, ra, hh, p⟩
  unfold oAbs at p
  split at p
  · obtain ⟨v, rfl, rv⟩ := ra.one
    cases rv
    exact call_abs pins s σ H _ us Q I r ⟨_, rfl, postO_val hh p (.int _)⟩
  · exact p.elim
def oTuple : OpA := fun as mh => match as with
  | [a] => (itemsD mh a).map fun xs => (.tup xs, mh)
  | _ => none
theorem r_tuple : CallR X (.type "tuple") (iRA X.K oTuple) := by
  rintro pins s σ H xs us Q I r ⟨φ, mh, as, ra, hh, p⟩
  unfold oTuple at p
  split at p
  · obtain ⟨v, rfl, rv⟩ := ra.one
    rename_i a
    cases h : itemsD mh a with
    | none => rw [h] at p; exact p.elim
    | some ys =>
      rw [h] at p
      obtain ⟨pp, vs, e, hs, rs⟩ := seq_of hh rv h
      subst e
      rcases hs with hs | hs
      · exact call_tuple_of pins s σ H _ us Q I r ⟨pp, vs, rfl, .inl ⟨hs, fun l hl => postO_tup hh p rs hl⟩⟩
      · exact call_tuple_of pins s σ H _ us Q I r ⟨pp, vs, rfl, .inr ⟨hs, postO_val hh p (.tup hs rs)⟩⟩
  · exact p.elim
def oList : OpA := fun as mh => match as with
  | [a] => (itemsD mh a).map fun xs => (.ref mh.length, mh ++ [.lst xs])
  | _ => none
theorem r_list : CallR X (.type "list") (iRA X.K oList) := by
  rintro pins s σ H xs us Q I r ⟨φ, mh, as, ra, hh, p⟩
  unfold oList at p
  split at p
  · obtain ⟨v, rfl, rv⟩ := ra.one
    rename_i a
    cases h : itemsD mh a with
    | none => rw [h] at p; exact p.elim
    | some ys =>
      rw [h] at p
      obtain ⟨pp, vs, e, hs, rs⟩ := seq_of hh rv h
      subst e
      exact call_list_of pins s σ H _ us Q I r ⟨pp, vs, rfl, hs, fun l hl => postO_new hh p rs hl⟩
  · exact p.elim
/-- isinstance(x, T), T a built-in type -/
def tyD (mh : MH) : D → Option String
  | .non => some "NoneType"
  | .bl _ => some "bool"
  | .int _ => some "int"
  | .str _ => some "str"
  | .tup _ => some "tuple"
  | .rol _ => some "list"
  | .ref n => match mh[n]? with
    | some (.lst _) => some "list"
    | some (.dk _) => some "dict"
    | some (.dt _) => some "dict"
    | _ => none
  | .ty _ => none
  | .exc _ _ _ => none
def oIsi : OpA := fun as mh => match as with
  | [a, .ty n] => match tyD mh a with
    | some t => (kitB t n).map fun b => (.bl b, mh)
    | none => none
  | _ => none
end
end Det
/-! Det, part F: isinstance, items, slices, displays, what is walked, methods of lists, stores. -/
namespace Det
open PySem PySem.Spec PyProof.Rows L2

section
variable {X : Cx} {W : WX}
theorem tyX_of {φ : List Addr} {H : Hp} {mh : MH} {d : D} {v : V} {t : String} (hh : HR X.K φ mh H) (r : RelD X.K φ H d v) (h : tyD mh d = some t) : TyX X.K H v (.type t) := by
  cases r with
  | non => cases h; exact .base .non
  | bl b => cases h; exact .base (.bl b)
  | int i => cases h; exact .base (.int i)
  | str x => cases h; exact .base (.str x)
  | tup hs rs =>
    cases h
    rcases hs with (e | ⟨o, e⟩) | ⟨o, its, n, e, c, _⟩
    · exact .base (.tup e)
    · exact .fTuple e
    · exact .kTuple e c
  | rol hs rs =>
    cases h
    rcases hs with ⟨o, e⟩ | ⟨o, its, n, e, c, _⟩
    · exact .base (.frz e)
    · exact .kList e c
  | ref hn =>
    simp only [tyD] at h
    split at h
    · rename_i xs hx
      cases h
      obtain ⟨vs, e, _⟩ := hh.lst hn hx
      exact .base (.lst e)
    · rename_i kds hx
      cases h
      obtain ⟨kvs, e, _⟩ := hh.ob _ _ _ hn hx
      exact .base (.dK e)
    · rename_i kds hx
      cases h
      obtain ⟨kvs, e, _⟩ := hh.ob _ _ _ hn hx
      exact .base (.dT e)
    · cases h
  | ty n => cases h
  | exc => cases h
theorem r_isi : CallR X (.builtin "isinstance") (iRA X.K oIsi) := by
  rintro pins s σ H xs us Q I r ⟨φ, mh, as, ra, hh, p⟩
  unfold oIsi at p
  split at p
  · rename_i a n
    obtain ⟨v, w, rfl, rv, rw'⟩ := ra.two
    cases rw'
    cases h : tyD mh a with
    | none => rw [h] at p; exact p.elim
    | some t =>
      rw [h] at p
      cases hk : kitB t n with
      | none => simp only [hk] at p; exact p.elim
      | some b =>
        simp only [hk] at p
        exact call_isi pins s σ H _ us Q I r ⟨v, .ty n, .type t, .type n, b, rfl, .ty n, tyX_of hh rv h, kit_ty hk, postO_val hh p (.bl b)⟩
  · exact p.elim

/-! ### calls of built-ins -/
theorem se_blt {id : String} {o : OpA} {x : Str} {p pos : Pos} {e : Expr} {es : List Expr} {fa : MA} (hc : CallR X (.builtin id) (iRA X.K o)) (hm : X.mg x = none) (ha : SA X W (e :: es) fa) (hg : Gl X x := by rfl) (hv : bootBuiltins x = some (.builtin id) := by decide +kernel) (hn : x ≠ "__name__" := by decide)
    (hdb : (x == ("__debug__" : Str)) = false := by decide) (he : starEach (e :: es) X.env = (false, eval e X.env) :: starEach es X.env := by rfl) (hpl : (backTo pos (starEach es X.env)).any (·.1) = false := by rfl) :
    SE X W (.Call (.Name x p) (e :: es) [] pos) (ap o fa) := (pe_callB hc hg hm hv ha hn hdb he hpl).imp (impA fun _ _ _ h => h)
theorem se_typ {id : String} {o : OpA} {x : Str} {p pos : Pos} {e : Expr} {es : List Expr} {fa : MA} (hc : CallR X (.type id) (iRA X.K o)) (hm : X.mg x = none) (ha : SA X W (e :: es) fa) (hg : Gl X x := by rfl) (hv : bootBuiltins x = some (.type id) := by decide +kernel) (hn : x ≠ "__name__" := by decide)
    (hdb : (x == ("__debug__" : Str)) = false := by decide) (he : starEach (e :: es) X.env = (false, eval e X.env) :: starEach es X.env := by rfl) (hpl : (backTo pos (starEach es X.env)).any (·.1) = false := by rfl) :
    SE X W (.Call (.Name x p) (e :: es) [] pos) (ap o fa) := (pe_callTy hc hg hm hv ha hn hdb he hpl).imp (impA fun _ _ _ h => h)
/-- a built-in type's name as a value -/
theorem s_ty {n : String} {x : Str} {pos : Pos} (hm : X.mg x = none) (hg : Gl X x := by rfl) (hv : bootBuiltins x = some (.type n) := by decide +kernel) (hn : x ≠ "__name__" := by decide) (hd : (x == ("__debug__" : Str)) = false := by decide) : SE X W (.Name x pos) (kn (.ty n)) :=
  skn (v := .ty n) (pe_bltn hg hm hv rfl hn hd) fun _ _ => .ty n
/-- a module's name that holds a text, an int -/
theorem s_gstr {z : Str} {t : Tok} {x : Str} {pos : Pos} (hm : X.mg x = some (.str z t)) (hg : Gl X x := by rfl) (hd : (x == ("__debug__" : Str)) = false := by decide) : SE X W (.Name x pos) (kn (.str z)) :=
  skn (v := .str z) (pe_glob hg hm ⟨t, rfl⟩ hd) fun _ _ => .str z
theorem s_gint {z : Int} {t : Tok} {x : Str} {pos : Pos} (hm : X.mg x = some (.int z t)) (hg : Gl X x := by rfl) (hd : (x == ("__debug__" : Str)) = false := by decide) : SE X W (.Name x pos) (kn (.int z)) :=
  skn (v := .int z) (pe_glob hg hm ⟨t, rfl⟩ hd) fun _ _ => .int z

/-! ### items and slices -/
def oIx : Op2 := fun a b mh => match a, b with
  | .str z, .int i => if z.length ≤ sizeLine then (atI z.cps.toList i).map fun c => (.str ⟨#[c]⟩, mh) else none
  | a, .int i => match itemsD mh a with
    | some xs => (atI xs i).map fun d => (d, mh)
    | none => none
  | _, _ => none
theorem atI_rel {K : PySem.W.Frag} {φ : List Addr} {H : Hp} {ds : List D} {vs : List V} {i : Int} {d : D} (r : RelDs K φ H ds vs) (h : atI ds i = some d) : ∃ v, atI vs i = some v ∧ RelD K φ H d v := by
  unfold atI at h ⊢
  rw [← r.length]
  cases hx : ixN ds.length i with
  | none => rw [hx] at h; cases h
  | some j =>
    rw [hx] at h
    exact r.get h
theorem r_ix : IxR X (iR2 X.K oIx) := by
  rintro ve se pins s σ H x y v u Q I rx ry ⟨φ, mh, a, b, ra, rb, hh, p⟩ hsub
  unfold oIx at p
  split at p
  · rename_i z i
    cases ra; cases rb
    split at p
    · rename_i hl
      cases h : atI z.cps.toList i with
      | none => rw [h] at p; exact p.elim
      | some c =>
        rw [h] at p
        exact ix_str ve se pins s σ H _ _ v u Q I rx ry ⟨z, i, c, rfl, rfl, hl, h, postO_val hh p (.str _)⟩ hsub
    · exact p.elim
  · rename_i i _
    cases rb
    split at p
    case h_2 => exact p.elim
    case h_1 xs h =>
      cases h2 : atI xs i with
      | none => simp only [h2] at p; exact p.elim
      | some d =>
        simp only [h2] at p
        obtain ⟨pp, vs, e, hs, rs⟩ := seq_of hh ra h
        subst e
        obtain ⟨w, h3, rw'⟩ := atI_rel rs h2
        rcases hs with hs | hs
        · exact ix_list ve se pins s σ H _ _ v u Q I rx ry ⟨pp, vs, i, w, rfl, rfl, hs, h3, postO_val hh p rw'⟩ hsub
        · exact ix_tup ve se pins s σ H _ _ v u Q I rx ry ⟨pp, vs, i, w, rfl, rfl, hs, h3, postO_val hh p rw'⟩ hsub
  · exact p.elim
theorem se_ix {a b : Expr} {f g : ME} {pos : Pos} (ha : SE X W a f) (hb : SE X W b g) (hs : PlainIx b := by exact fun _ _ => rfl) : SE X W (.Subscript a b pos) (bi oIx f g) := (pe_ix r_ix ha hb hs).imp (imp2 fun _ _ _ _ h => h)
/-- an end of a slice -/
abbrev MO := Nv → MH → Res (Option Int)
def RO : Rl (Option Int) (Option Int) := fun _ _ a b => a = b
def iO (K : PySem.W.Frag) (mg : MGl) (W : WX) (f : MO) : TO := fun σ H Q => ∃ φ env mh, RelE K φ H env σ ∧ HR K φ mh H ∧ post K mg W RO σ φ H (f env mh) Q
abbrev SO (X : Cx) (W : WX) (e : Option Expr) (f : MO) : Prop := PO X e (iO X.K X.mg W f)
def onone : MO := fun _ mh => .ok none mh
def osome (f : ME) : MO := fun env mh => (f env mh).bind fun a mh1 => match a with | .int i => .ok (some i) mh1 | _ => .no
theorem _root_.L2.PO.imp {e : Option Expr} {t t' : TO} (h : PO X e t) (w : ∀ σ H Q, t' σ H Q → t σ H Q) : PO X e t' := ⟨fun pins s σ H Q I q => h.run pins s σ H Q I (w σ H Q q)⟩
theorem so_none : SO X W none onone := po_none.imp (by
  rintro σ H Q ⟨φ, env, mh, re, hh, p⟩
  exact p φ none H (Px.refl φ) (Kp.refl H) hh rfl)
theorem so_some {e : Expr} {f : ME} (h : SE X W e f) : SO X W (some e) (osome f) := (po_some h).imp (by
  rintro σ H Q ⟨φ, env, mh, re, hh, p⟩
  refine ⟨φ, env, mh, re, hh, post_mono (Px.refl φ) (Kp.refl H) (post_bind (R1 := RelD X.K) p) ?_⟩
  rintro x H1 ⟨φ1, d, mh1, p1, k1, h1, r1, q⟩
  cases r1 with
  | int i => exact ⟨i, rfl, q φ1 (some i) H1 (Px.refl φ1) (Kp.refl H1) h1 rfl⟩
  | _ => exact q.elim)
def cutD (xs : List D) (lo hi : Option Int) : List D := (xs.drop (HT.sIx xs.length 0 lo)).take (HT.sIx xs.length xs.length hi - HT.sIx xs.length 0 lo)
theorem cut_rel {K : PySem.W.Frag} {φ : List Addr} {H : Hp} {ds : List D} {vs : List V} {lo hi : Option Int} (r : RelDs K φ H ds vs) : RelDs K φ H (cutD ds lo hi) (cutV vs lo hi) := by
  unfold cutD cutV
  rw [r.length]
  exact (r.drop _).take _
def oSl (a : D) (lo hi : Option Int) (mh : MH) : Option (D × MH) := match a with
  | .str z => if z.length ≤ sizeLine then some (.str (cutS z lo hi), mh) else none
  | .tup xs => some (.tup (cutD xs lo hi), mh)
  | a => match itemsD mh a with
    | some xs => some (.ref mh.length, mh ++ [.lst (cutD xs lo hi)])
    | none => none
def sl (f : ME) (l h : MO) : ME := fun env mh => (f env mh).bind fun a mh1 => (l env mh1).bind fun lo mh2 => (h env mh2).bind fun hi mh3 => .ofO (oSl a lo hi mh3)
def rSlD (K : PySem.W.Frag) : V → Option Int → Option Int → Hp → VK → Prop := fun x lo hi H Q => ∃ φ mh a, RelD K φ H a x ∧ HR K φ mh H ∧ postO K (RelD K) φ H (oSl a lo hi mh) Q
theorem r_sl : SlR X (rSlD X.K) := by
  rintro pins s σ H x v vl vu lo hi sl Q I rx hs pl pu ⟨φ, mh, a, ra, hh, p⟩
  unfold oSl at p
  split at p
  · rename_i z
    cases ra
    split at p
    · rename_i hl
      exact sl_str pins s σ H _ v vl vu lo hi sl Q I rx hs pl pu ⟨z, rfl, hl, postO_val hh p (.str _)⟩
    · exact p.elim
  · cases ra with
    | tup ht rs =>
      rename_i xs a vs
      refine sl_tupA pins s σ H _ v vl vu lo hi sl Q I rx hs pl pu ⟨_, _, rfl, ht, fun hw => ?_, fun _ q hq => postO_tup hh p (cut_rel rs) hq⟩
      have e : cutD xs lo hi = xs := by
        unfold cutD
        rw [rs.length, hw.1, hw.2, ← rs.length]
        simp
      rw [e] at p
      exact postO_val hh p (.tup ht rs)
  · split at p
    · rename_i xs h
      obtain ⟨pp, vs, e, hq, rs⟩ := seq_of hh ra h
      subst e
      rcases hq with hq | hq
      · exact sl_list pins s σ H _ v vl vu lo hi sl Q I rx hs pl pu ⟨pp, vs, rfl, hq, fun q hq => postO_new hh p (cut_rel rs) hq⟩
      · cases ra with
        | tup ht rs2 =>
          rename_i hn
          cases h
          exact (hn _ rfl).elim
        | rol hr rs2 => exact sl_list pins s σ H _ v vl vu lo hi sl Q I rx hs pl pu ⟨_, _, rfl, hr.seq, fun q hq => by cases h; exact postO_new hh p (cut_rel rs2) hq⟩
        | ref hn =>
          simp only [itemsD] at h
          split at h
          · rename_i ys hy
            cases h
            obtain ⟨ws, e2, rs2⟩ := hh.lst hn hy
            exact sl_list pins s σ H _ v vl vu lo hi sl Q I rx hs pl pu ⟨_, _, rfl, SqL.of e2, fun q hq => postO_new hh p (cut_rel rs2) hq⟩
          · cases h
        | exc => cases h
    · exact p.elim
theorem se_sl {e : Expr} {lo hi : Option Expr} {f : ME} {l h : MO} {pos p2 : Pos} (he : SE X W e f) (hl : SO X W lo l) (hu : SO X W hi h) : SE X W (.Subscript e (.Slice lo hi none p2) pos) (sl f l h) := (pe_slice r_sl he hl hu).imp (by
  rintro σ H Q ⟨φ, env, mh, re, hh, p⟩
  refine ⟨φ, env, mh, re, hh, post_mono (Px.refl φ) (Kp.refl H) (post_bind (R1 := RelD X.K) p) ?_⟩
  rintro x H1 ⟨φ1, d, mh1, p1, k1, h1, r1, q⟩
  refine ⟨φ1, env, mh1, re.mono p1 k1, h1, post_mono (Px.refl φ1) (Kp.refl H1) (post_bind (R1 := RO) q) ?_⟩
  rintro lo2 H2 ⟨φ2, d2, mh2, p2, k2, h2, r2, q2⟩
  have e2 : d2 = lo2 := r2
  subst e2
  refine ⟨φ2, env, mh2, (re.mono p1 k1).mono p2 k2, h2, post_mono (Px.refl φ2) (Kp.refl H2) (post_bind (R1 := RO) q2) ?_⟩
  rintro hi2 H3 ⟨φ3, d3, mh3, p3, k3, h3, r3, q3⟩
  have e3 : d3 = hi2 := r3
  subst e3
  exact ⟨φ3, mh3, d, (r1.mono p2 k2).mono p3 k3, h3, post_ofO q3⟩)

/-! ### displays -/
def dtup (f : MA) : ME := fun env mh => (f env mh).bind fun ds mh1 => if ds.length ≤ sizeLine then .ok (.tup ds) mh1 else .no
def dlst (f : MA) : ME := fun env mh => (f env mh).bind fun ds mh1 => if ds.length ≤ sizeLine then .ok (.ref mh1.length) (mh1 ++ [.lst ds]) else .no
theorem se_tup {es : List Expr} {f : MA} {pos : Pos} {x1 : Nat} (h : SA X W es f) : SE X W (.Tuple es x1 pos) (dtup f) := (pe_tup h).imp (by
  rintro σ H Q ⟨φ, env, mh, re, hh, p⟩
  refine ⟨φ, env, mh, re, hh, post_mono (Px.refl φ) (Kp.refl H) (post_bind (R1 := RelDs X.K) p) ?_⟩
  rintro vs H1 ⟨φ1, ds, mh1, p1, k1, h1, r1, q⟩
  by_cases hl : ds.length ≤ sizeLine
  · rw [if_pos hl] at q
    exact ⟨by rw [← r1.length]; exact hl, fun pp hp => q φ1 (.ref pp) _ (Px.refl φ1) (Kp.new hp) (h1.grow hp) (.tup (SqT.of upd_same) (r1.mono (Px.refl φ1) (Kp.new hp)))⟩
  · rw [if_neg hl] at q; exact q.elim)
theorem se_lst {es : List Expr} {f : MA} {pos : Pos} (h : SA X W es f) : SE X W (.List es pos) (dlst f) := (pe_lst h).imp (by
  rintro σ H Q ⟨φ, env, mh, re, hh, p⟩
  refine ⟨φ, env, mh, re, hh, post_mono (Px.refl φ) (Kp.refl H) (post_bind (R1 := RelDs X.K) p) ?_⟩
  rintro vs H1 ⟨φ1, ds, mh1, p1, k1, h1, r1, q⟩
  by_cases hl : ds.length ≤ sizeLine
  · rw [if_pos hl] at q
    exact ⟨by rw [← r1.length]; exact hl, fun pp hp => q (φ1 ++ [pp]) (.ref pp) _ px1 (Kp.new hp) (h1.new hp r1) (.ref h1.last)⟩
  · rw [if_neg hl] at q; exact q.elim)

/-! ### methods of lists -/
def app (fo f : ME) : ME := fun env mh => (fo env mh).bind fun o mh1 => match o with
  | .ref n => (match mh1[n]? with
    | some (.lst _) => (f env mh1).bind fun d mh2 => (match mh2[n]? with
      | some (.lst xs) => if xs.length < sizeLine then .ok .non (mh2.set n (.lst (xs ++ [d]))) else .no
      | _ => .no)
    | _ => .no)
  | _ => .no
theorem se_app {o e : Expr} {fo f : ME} {apos cpos : Pos} (ho : SE X W o fo) (he : SE X W e f) (hbase : attributeBase o "append" X.env (eval o X.env) = eval o X.env := by rfl) (hline : (apos.endLine == cpos.line) = true := by rfl)
    (hfew : ((backTo cpos (starEach [e] X.env)).all (fun x => !x.1) && (backToKw cpos (keywordEach [] X.env)).all (fun x => x.1.isSome) && decide (([e] : List Expr).length + ([] : List Keyword).length + (if ([] : List Keyword).isEmpty then 0 else 1) < 30)) = true := by rfl)
    (hst : starEach (e :: []) X.env = (false, eval e X.env) :: starEach [] X.env := by rfl) (hplain : (backTo cpos (starEach [] X.env)).any (·.1) = false := by rfl) : SE X W (.Call (.Attribute o "append" apos) [e] [] cpos) (app fo f) :=
  (pe_bm PySem.F.plainAttrs_list PySem.F.slot_list_append PySem.F.type_list_append mt_append ho (pa_cons he pa_nil hst) hbase hfew hline hst hplain).imp (by
  rintro σ H Q ⟨φ, env, mh, re, hh, p⟩
  refine ⟨φ, env, mh, re, hh, post_mono (Px.refl φ) (Kp.refl H) (post_bind (R1 := RelD X.K) p) ?_⟩
  rintro x H1 ⟨φ1, d, mh1, p1, k1, h1, r1, q⟩
  cases r1 with
  | ref hn =>
    rename_i n a
    try simp only at q
    split at q
    · rename_i xs0 hx0
      obtain ⟨vs0, e0, _⟩ := h1.lst hn hx0
      refine ⟨.inl ⟨rfl, vs0, SqL.of e0⟩, φ1, env, mh1, re.mono p1 k1, h1, post_mono (Px.refl φ1) (Kp.refl H1) (post_bind (R1 := RelD X.K) q) ?_⟩
      rintro y H2 ⟨φ2, d2, mh2, p2, k2, h2, r2, q2⟩
      try simp only at q2
      split at q2
      · rename_i xs hx
        split at q2
        · rename_i hl
          obtain ⟨vs, e1, rs⟩ := h2.lst (p2.get hn) hx
          exact ⟨a, vs, y, rfl, rfl, e1, by rw [← rs.length]; exact hl, q2 φ2 .non _ (Px.refl φ2) (Kp.mut e1 fun z => z) (h2.setL (p2.get hn) e1 (rs.append (.cons r2 .nil))) .non⟩
        · exact q2.elim
      · exact q2.elim
    · exact q.elim
  | _ => exact q.elim)
def popAt (fo f : ME) : ME := fun env mh => (fo env mh).bind fun o mh1 => match o with
  | .ref n => (match mh1[n]? with
    | some (.lst _) => (f env mh1).bind fun d mh2 => (match d, mh2[n]? with
      | .int i, some (.lst xs) => if -(2 ^ 63) ≤ i ∧ i < 2 ^ 63 then (match seqIndex? i xs.length with
        | some k => (match xs[k]? with
          | some y => .ok y (mh2.set n (.lst (xs.eraseIdx k)))
          | none => .no)
        | none => .no) else .no
      | _, _ => .no)
    | _ => .no)
  | _ => .no
theorem se_popAt {o e : Expr} {fo f : ME} {apos cpos : Pos} (ho : SE X W o fo) (he : SE X W e f) (hbase : attributeBase o "pop" X.env (eval o X.env) = eval o X.env := by rfl) (hline : (apos.endLine == cpos.line) = true := by rfl)
    (hfew : ((backTo cpos (starEach [e] X.env)).all (fun x => !x.1) && (backToKw cpos (keywordEach [] X.env)).all (fun x => x.1.isSome) && decide (([e] : List Expr).length + ([] : List Keyword).length + (if ([] : List Keyword).isEmpty then 0 else 1) < 30)) = true := by rfl)
    (hst : starEach (e :: []) X.env = (false, eval e X.env) :: starEach [] X.env := by rfl) (hplain : (backTo cpos (starEach [] X.env)).any (·.1) = false := by rfl) : SE X W (.Call (.Attribute o "pop" apos) [e] [] cpos) (popAt fo f) :=
  (pe_bm PySem.F.plainAttrs_list PySem.F.slot_list_pop PySem.F.type_list_pop mt_popAt ho (pa_cons he pa_nil hst) hbase hfew hline hst hplain).imp (by
  rintro σ H Q ⟨φ, env, mh, re, hh, p⟩
  refine ⟨φ, env, mh, re, hh, post_mono (Px.refl φ) (Kp.refl H) (post_bind (R1 := RelD X.K) p) ?_⟩
  rintro x H1 ⟨φ1, d, mh1, p1, k1, h1, r1, q⟩
  cases r1 with
  | ref hn =>
    rename_i n a
    try simp only at q
    split at q
    · rename_i xs0 hx0
      obtain ⟨vs0, e0, _⟩ := h1.lst hn hx0
      refine ⟨.inl ⟨rfl, vs0, SqL.of e0⟩, φ1, env, mh1, re.mono p1 k1, h1, post_mono (Px.refl φ1) (Kp.refl H1) (post_bind (R1 := RelD X.K) q) ?_⟩
      rintro y H2 ⟨φ2, d2, mh2, p2, k2, h2, r2, q2⟩
      try simp only at q2
      split at q2
      · rename_i i xs hx
        cases r2
        split at q2
        · rename_i hl
          split at q2
          · rename_i k hk
            split at q2
            · rename_i y hy
              obtain ⟨vs, e1, rs⟩ := h2.lst (p2.get hn) hx
              obtain ⟨w, hw, rw'⟩ := rs.get hy
              have km : Kp H2 (upd H2 a (.lst (vs.eraseIdx k))) := Kp.mut e1 fun z => z
              exact ⟨a, vs, i, k, w, rfl, rfl, e1, hl.1, hl.2, by rw [← rs.length]; exact hk, hw, q2 φ2 w _ (Px.refl φ2) km (h2.setL (p2.get hn) e1 (rs.erase k)) (rw'.mono (Px.refl φ2) km)⟩
            · exact q2.elim
          · exact q2.elim
        · exact q2.elim
      · exact q2.elim
    · exact q.elim
  | _ => exact q.elim)
def pop0 (fo : ME) : ME := fun env mh => (fo env mh).bind fun o mh1 => match o with
  | .ref n => (match mh1[n]? with
    | some (.lst xs) => (match xs[xs.length - 1]? with
      | some y => .ok y (mh1.set n (.lst xs.dropLast))
      | none => .no)
    | _ => .no)
  | _ => .no
theorem RelDs.dropLast {K : PySem.W.Frag} {φ : List Addr} {H : Hp} {ds : List D} {vs : List V} (r : RelDs K φ H ds vs) : RelDs K φ H ds.dropLast vs.dropLast := by
  rw [List.dropLast_eq_take, List.dropLast_eq_take, r.length]
  exact r.take _
theorem se_pop0 {o : Expr} {fo : ME} {apos cpos : Pos} (ho : SE X W o fo) (hbase : attributeBase o "pop" X.env (eval o X.env) = eval o X.env := by rfl) (hline : (apos.endLine == cpos.line) = true := by rfl) :
    SE X W (.Call (.Attribute o "pop" apos) [] [] cpos) (pop0 fo) :=
  (pe_bm0 PySem.F.plainAttrs_list PySem.F.slot_list_pop PySem.F.type_list_pop mt_pop ho hbase hline).imp (by
  rintro σ H Q ⟨φ, env, mh, re, hh, p⟩
  refine ⟨φ, env, mh, re, hh, post_mono (Px.refl φ) (Kp.refl H) (post_bind (R1 := RelD X.K) p) ?_⟩
  rintro x H1 ⟨φ1, d, mh1, p1, k1, h1, r1, q⟩
  cases r1 with
  | ref hn =>
    rename_i n a
    try simp only at q
    split at q
    · rename_i xs hx
      split at q
      · rename_i y hy
        obtain ⟨vs, e1, rs⟩ := h1.lst hn hx
        obtain ⟨w, hw, rw'⟩ := rs.get hy
        have km : Kp H1 (upd H1 a (.lst vs.dropLast)) := Kp.mut e1 fun z => z
        exact ⟨.inl ⟨rfl, vs, SqL.of e1⟩, a, vs, w, rfl, rfl, e1, by rw [← rs.length]; exact hw, q φ1 w _ (Px.refl φ1) km (h1.setL hn e1 rs.dropLast) (rw'.mono (Px.refl φ1) km)⟩
      · exact q.elim
    · exact q.elim
  | _ => exact q.elim)
/-- o[i] = e, o a list -/
def setIx (fo fi f : ME) : MS := fun env mh => lift (f env mh) env fun v mh1 => lift (fo env mh1) env fun o mh2 => lift (fi env mh2) env fun i mh3 => match o, i with
  | .ref n, .int k => (match mh3[n]? with
    | some (.lst xs) => (match ixN xs.length k with
      | some j => .nx env (mh3.set n (.lst (xs.set j v)))
      | none => .no)
    | _ => .no)
  | _, _ => .no
theorem ss_setIx {o i e : Expr} {fo fi f : ME} {pos pos' : Pos} (he : SE X W e f) (ho : SE X W o fo) (hi : SE X W i fi) (hs : swapsWithSole [.Subscript o i pos'] e pos.line X.env = pure false := by rfl) (hw : swappedStores [.Subscript o i pos'] e X.env = pure none := by rfl)
    (h1 : (assignEach [.Subscript o i pos'] X.env).map (·.2) = [assign (.Subscript o i pos') X.env] := by rfl)
    (ha : ∀ v, assign (.Subscript o i pos') X.env v = (do
      let ov ← holding [v] (eval o X.env)
      let iv ← holding [v, ov] (eval i X.env)
      standAt pos'
      holding [v, ov, iv] (setItem ov iv v)
      release [v, ov, iv] []) := by intro _; rfl) : SS X W (.Assign [.Subscript o i pos'] e pos) (setIx fo fi f) := (ps_asg he (pg_sub ho hi set_list ha) hs hw h1).imp (by
  rintro D σ H ⟨φ, env, mh, re, hh, p⟩
  refine ⟨φ, env, mh, re, hh, post_mono (Px.refl φ) (Kp.refl H) (post_lift (R := RelD X.K) re p) ?_⟩
  rintro x H1 ⟨φ1, v, mh1, p1, k1, h1, r1, q⟩
  have re1 := re.mono p1 k1
  refine ⟨φ1, env, mh1, re1, h1, post_mono (Px.refl φ1) (Kp.refl H1) (post_lift (R := RelD X.K) re1 q) ?_⟩
  rintro y H2 ⟨φ2, o, mh2, p2, k2, h2, r2, q2⟩
  have re2 := re1.mono p2 k2
  refine ⟨φ2, env, mh2, re2, h2, post_mono (Px.refl φ2) (Kp.refl H2) (post_lift (R := RelD X.K) re2 q2) ?_⟩
  rintro z H3 ⟨φ3, i, mh3, p3, k3, h3, r3, q3⟩
  have re3 := re2.mono p3 k3
  try simp only at q3
  split at q3
  · rename_i n k
    cases r3
    cases r2 with
    | ref hn =>
      rename_i a
      split at q3
      · rename_i xs hx
        split at q3
        · rename_i j hj
          obtain ⟨vs, e1, rs⟩ := h3.lst (p3.get hn) hx
          exact ⟨a, vs, k, j, rfl, rfl, e1, by rw [← rs.length]; exact hj, q3 φ3 σ _ (Px.refl φ3) (Kp.mut e1 fun z => z) (h3.setL (p3.get hn) e1 (rs.set ((r1.mono p2 k2).mono p3 k3) j)) (re3.mono (Px.refl φ3) (Kp.mut e1 fun z => z))⟩
        · exact q3.elim
      · exact q3.elim
  · exact q3.elim)

end
end Det
/-! Det, part G: equality of values, what is walked, sorted. -/
namespace Det
open PySem PySem.Spec PyProof.Rows L2

mutual
def D.beq : D → D → Bool
  | .non, .non => true
  | .bl a, .bl b => a == b
  | .int a, .int b => a == b
  | .str a, .str b => a == b
  | .ty a, .ty b => a == b
  | .tup a, .tup b => D.beqs a b
  | .rol a, .rol b => D.beqs a b
  | .ref a, .ref b => a == b
  | .exc a b c, .exc x y z => a == x && b == y && D.beqs c z
  | _, _ => false
def D.beqs : List D → List D → Bool
  | [], [] => true
  | a :: as, b :: bs => D.beq a b && D.beqs as bs
  | _, _ => false
end
mutual
theorem D.beq_iff : ∀ a b : D, D.beq a b = true ↔ a = b
  | .non, b => by cases b <;> simp [D.beq]
  | .bl _, b => by cases b <;> simp [D.beq]
  | .int _, b => by cases b <;> simp [D.beq]
  | .str _, b => by cases b <;> simp [D.beq]
  | .ty _, b => by cases b <;> simp [D.beq]
  | .ref _, b => by cases b <;> simp [D.beq]
  | .tup xs, b => by
    cases b with
    | tup ys => rw [D.beq, D.beqs_iff xs ys]; simp
    | _ => simp [D.beq]
  | .rol xs, b => by
    cases b with
    | rol ys => rw [D.beq, D.beqs_iff xs ys]; simp
    | _ => simp [D.beq]
  | .exc c ns xs, b => by
    cases b with
    | exc x y ys => rw [D.beq, Bool.and_eq_true, Bool.and_eq_true, D.beqs_iff xs ys]; simp [and_assoc]
    | _ => simp [D.beq]
theorem D.beqs_iff : ∀ as bs : List D, D.beqs as bs = true ↔ as = bs
  | [], b => by cases b <;> simp [D.beqs]
  | a :: as, b => by
    cases b with
    | nil => simp [D.beqs]
    | cons b bs => rw [D.beqs, Bool.and_eq_true, D.beq_iff a b, D.beqs_iff as bs]; simp
end
instance : DecidableEq D := fun a b => decidable_of_iff _ (D.beq_iff a b)

/-! ### what is walked -/
def lstIs (n : Nat) (xs : List D) (mh : MH) : Bool := match mh[n]? with
  | some (.lst ys) => decide (ys = xs)
  | _ => false
def sigs (z : Str) : List D := z.cps.toList.map fun c => .str ⟨#[c]⟩
def itD (d : D) (mh : MH) : Option ItD := match d with
  | .tup xs => some ⟨xs, fun _ => true⟩
  | .rol xs => some ⟨xs, fun _ => true⟩
  | .str z => some ⟨sigs z, fun _ => true⟩
  | .ref n => match mh[n]? with
    | some (.lst xs) => some ⟨xs, lstIs n xs⟩
    | _ => none
  | _ => none
def iter (f : ME) : MI := fun env mh => (f env mh).bind fun d mh1 => match itD d mh1 with | some it => .ok it mh1 | none => .no
section
variable {X : Cx} {W : WX} {tg : Expr}
/-- a list, a tuple, a text that is walked, whichever it is -/
def iAny (K : PySem.W.Frag) (tl : TE) : TI := fun σ H R => tl σ H fun x H1 =>
  (∃ a, x = .ref a ∧ (∃ xs, SqL K H1 a xs) ∧ R (Itl K a) H1) ∨ (∃ a, x = .ref a ∧ (∃ xs, SqT K H1 a xs) ∧ R (Itt K a) H1) ∨ ∃ z, x = .str z ∧ R (Its z) H1
/-- a value as an expression's reading: for the rules of walked things -/
theorem pi_any {l : Expr} {tl : TE} (hl : PE X l tl) : PI X tg l (iAny X.K tl) := by
  refine ⟨fun pins s σ H R I h => ?_⟩
  -- one of the three rules serves, by the value that has come
  refine thn (hl.run pins s σ H _ I h) fun v s1 hv => ?_
  obtain ⟨x, H1, I1, rx, q⟩ := hv
  rcases q with ⟨a, ea, ⟨xs, hq⟩, q⟩ | ⟨a, ea, ⟨xs, hq⟩, q⟩ | ⟨z, ez, q⟩
  · subst ea
    cases rx
    obtain ⟨its, _, pl, _⟩ := I1.list hq
    refine wpAny_pyIter_list pl.isList ?_
    exact ⟨_, [_], _, _, H1, rfl, I1.kept (t' := s1.toks) (fun b o e => Heap.get?_push_of_some _ e), turn_list a _, ⟨_, Heap.get?_push_size _ rfl, rfl, rfl⟩, (fun b hb => by
      rw [List.mem_singleton.mp hb]; exact I1.fpOk (Nat.le_refl _) (I1.hok.fresh (Nat.le_refl _))), q⟩
  · subst ea
    cases rx
    obtain ⟨its, _, pt, _⟩ := I1.tuple hq
    refine wpAny_pyIter_tuple (show s1.heap.IsTuple a its.toArray from pt) ?_
    exact ⟨_, [_], _, _, H1, rfl, I1.kept (t' := s1.toks) (fun b o e => Heap.get?_push_of_some _ e), turn_tuple a _, ⟨_, Heap.get?_push_size _ rfl, rfl, rfl⟩, (fun b hb => by
      rw [List.mem_singleton.mp hb]; exact I1.fpOk (Nat.le_refl _) (I1.hok.fresh (Nat.le_refl _))), q⟩
  · subst ez
    obtain ⟨tk, ev⟩ := rx
    subst ev
    by_cases hz : z.cps.all (· < 128) = true
    · refine wpAny_pyIter_ascii hz (pi_one (tk := s1.toks) I1 _ (turn_str _ z tk "str_ascii_iterator" (Or.inl rfl)) ?_ q)
      exact ⟨_, Heap.get?_push_size _ rfl, rfl, rfl⟩
    · have hz' : z.cps.all (· < 128) = false := by simpa using hz
      refine wpAny_pyIter_wide hz' (pi_one (tk := s1.toks) I1 _ (turn_str _ z tk "str_iterator" (Or.inr rfl)) ?_ q)
      exact ⟨_, Heap.get?_push_size _ rfl, rfl, rfl⟩
/-- an It over what stands still: its items are vs -/
theorem itOk_seq {φ : List Addr} {H : Hp} {it : ItD} {J : It}
    (h : ∀ i φ' mh' H', Px φ φ' → Kp H H' → HR X.K φ' mh' H' → it.chk mh' = true → ∃ vs : List V, RelDs X.K φ' H' it.items vs ∧ (∀ v, vs[i]? = some v → J.go i H' ∧ ∀ x H2, J.yld i H' x H2 → H2 = H' ∧ x = v) ∧ (vs.length ≤ i → J.stop i H')) : ItOk X.K φ H it J := by
  intro i φ' mh' H' p k hh hc
  obtain ⟨us, r, h1, h2⟩ := h i φ' mh' H' p k hh hc
  refine ⟨fun d hd => ?_, fun hl => h2 (by rw [← r.length]; exact hl)⟩
  obtain ⟨v, hv, rv⟩ := r.get hd
  obtain ⟨g1, g2⟩ := h1 v hv
  refine ⟨g1, fun x H2 y => ?_⟩
  obtain ⟨e1, e2⟩ := g2 x H2 y
  subst e1; subst e2
  exact ⟨Kp.refl _, hh, rv⟩
theorem si_any {e : Expr} {f : ME} (he : SE X W e f) : SI X W tg e (iter f) := (pi_any he).imp (by
  rintro σ H R ⟨φ, env, mh, re, hh, p⟩
  refine ⟨φ, env, mh, re, hh, post_mono (Px.refl φ) (Kp.refl H) (post_bind (R1 := RelD X.K) p) ?_⟩
  rintro x H1 ⟨φ1, d, mh1, p1, k1, h1, r1, q⟩
  cases r1 with
  | str z =>
    refine .inr (.inr ⟨z, rfl, q φ1 (Its z) H1 (Px.refl φ1) (Kp.refl H1) h1 (itOk_seq fun i φ' mh' H' _ _ _ _ => ⟨z.cps.toList.map fun c => .str ⟨#[c]⟩, ?_, fun v hv => ?_, fun hl => ?_⟩)⟩)
    · have : ∀ l : List Nat, RelDs X.K φ' H' (l.map fun c => D.str ⟨#[c]⟩) (l.map fun c => V.str ⟨#[c]⟩) := by
        intro l
        induction l with
        | nil => exact .nil
        | cons c l ih => exact .cons (.str _) ih
      exact this _
    · rw [List.getElem?_map, Array.getElem?_toList] at hv
      cases hc : z.cps[i]? with
      | none => rw [hc] at hv; cases hv
      | some c =>
        rw [hc] at hv
        cases hv
        refine ⟨(Array.getElem?_eq_some_iff.mp hc).1, fun x H2 y => ?_⟩
        obtain ⟨e1, c', hc', e2⟩ := y
        rw [hc] at hc'
        cases hc'
        exact ⟨e1, e2⟩
    · show z.cps.size ≤ i
      simpa using hl
  | tup hs rs =>
    rename_i a xs vs
    refine .inr (.inl ⟨a, rfl, ⟨vs, hs⟩, q φ1 (Itt X.K a) H1 (Px.refl φ1) (Kp.refl H1) h1 (itOk_seq fun i φ' mh' H' p' k' _ _ => ?_)⟩)
    have hs' := k'.seqT hs
    refine ⟨vs, rs.mono p' k', fun v hv => ⟨⟨vs, v, hs', hv⟩, fun x H2 y => ⟨y.1, ?_⟩⟩, fun hl => ⟨vs, hs', hl⟩⟩
    have := y.2 vs hs'
    rw [hv] at this
    exact (Option.some.inj this).symm
  | rol hs rs =>
    rename_i a xs vs
    refine .inl ⟨a, rfl, ⟨vs, hs.seq⟩, q φ1 (Itl X.K a) H1 (Px.refl φ1) (Kp.refl H1) h1 (itOk_seq fun i φ' mh' H' p' k' _ _ => ?_)⟩
    have hs' := (k'.roL hs).seq
    refine ⟨vs, rs.mono p' k', fun v hv => ⟨⟨vs, v, hs', hv⟩, fun x H2 y => ⟨y.1, ?_⟩⟩, fun hl => ⟨vs, hs', hl⟩⟩
    have := y.2 vs hs'
    rw [hv] at this
    exact (Option.some.inj this).symm
  | ref hn =>
    rename_i n a
    try simp only [itD] at q
    split at q
    · rename_i it hit
      split at hit
      · rename_i xs hx
        cases hit
        obtain ⟨vs, e1, rs⟩ := h1.lst hn hx
        refine .inl ⟨a, rfl, ⟨vs, SqL.of e1⟩, q φ1 (Itl X.K a) H1 (Px.refl φ1) (Kp.refl H1) h1 (itOk_seq fun i φ' mh' H' p' k' hh' hc => ?_)⟩
        have hc' : lstIs n xs mh' = true := hc
        unfold lstIs at hc'
        split at hc'
        · rename_i ys hy
          have ey : ys = xs := of_decide_eq_true hc'
          subst ey
          obtain ⟨ws, e2, rs2⟩ := hh'.lst (p'.get hn) hy
          have hs' : SqL X.K H' a ws := SqL.of e2
          refine ⟨ws, rs2, fun v hv => ⟨⟨ws, v, hs', hv⟩, fun x H2 y => ⟨y.1, ?_⟩⟩, fun hl => ⟨ws, hs', hl⟩⟩
          have := y.2 ws hs'
          rw [hv] at this
          exact (Option.some.inj this).symm
        · cases hc'
      · cases hit
    · exact q.elim
  | _ => exact q.elim)
/-- range(n), range(a, b) -/
def rgD (lo : Int) (n : Nat) : List D := (List.range n).map fun i => .int (lo + (i : Nat))
def okB (i : Int) : Bool := decide (-(2 ^ 62) ≤ i ∧ i < 2 ^ 62)
def range1 (f : ME) : MI := fun env mh => (f env mh).bind fun d mh1 => match d with
  | .int j => if okB j = true then .ok ⟨rgD 0 j.toNat, fun _ => true⟩ mh1 else .no
  | _ => .no
def range2 (f g : ME) : MI := fun env mh => (f env mh).bind fun d mh1 => (g env mh1).bind fun e mh2 => match d, e with
  | .int i, .int j => if okB i = true ∧ okB j = true then .ok ⟨rgD i (j - i).toNat, fun _ => true⟩ mh2 else .no
  | _, _ => .no
theorem itOk_range {φ : List Addr} {H : Hp} (lo : Int) (n : Nat) : ItOk X.K φ H ⟨rgD lo n, fun _ => true⟩ (Itr lo n) := by
  intro i φ' mh' H' _ _ hh _
  refine ⟨fun d hd => ?_, fun hl => ?_⟩
  · have hi : i < n := by
      have := (List.getElem?_eq_some_iff.mp hd).1
      simpa [rgD] using this
    have ed : d = .int (lo + (i : Nat)) := by
      simp [rgD, hi] at hd
      exact hd.symm
    subst ed
    refine ⟨hi, fun x H2 y => ?_⟩
    obtain ⟨e1, e2⟩ := y
    subst e1; subst e2
    exact ⟨Kp.refl _, hh, .int _⟩
  · show n ≤ i
    simpa [rgD] using hl
theorem si_range1 {e : Expr} {f : ME} {p pos : Pos} (hm : X.mg "range" = none) (he : SE X W e f) (hg : Gl X "range" := by rfl) (hs : starEach [e] X.env = [(false, eval e X.env)] := by rfl) (hst : starEach (e :: []) X.env = (false, eval e X.env) :: starEach [] X.env := by rfl) :
    SI X W tg (.Call (.Name "range" p) [e] [] pos) (range1 f) := (pi_range1 hg hm (pa_cons he pa_nil hst) hs).imp (by
  rintro σ H R ⟨φ, env, mh, re, hh, p⟩
  refine ⟨φ, env, mh, re, hh, post_mono (Px.refl φ) (Kp.refl H) (post_bind (R1 := RelD X.K) p) ?_⟩
  rintro x H1 ⟨φ1, d, mh1, p1, k1, h1, r1, q⟩
  cases r1 with
  | int j =>
    try simp only at q
    split at q
    · rename_i hb
      obtain ⟨b1, b2⟩ := of_decide_eq_true hb
      exact ⟨j, rfl, b1, b2, q φ1 _ H1 (Px.refl φ1) (Kp.refl H1) h1 (itOk_range 0 j.toNat)⟩
    · exact q.elim
  | _ => exact q.elim)
theorem si_range2 {e e2 : Expr} {f g : ME} {p pos : Pos} (hm : X.mg "range" = none) (he : SE X W e f) (he2 : SE X W e2 g) (hg : Gl X "range" := by rfl) (hs : starEach [e, e2] X.env = [(false, eval e X.env), (false, eval e2 X.env)] := by rfl) (hs2 : starEach [e2] X.env = [(false, eval e2 X.env)] := by rfl)
    (hst : starEach (e :: [e2]) X.env = (false, eval e X.env) :: starEach [e2] X.env := by rfl) (hst2 : starEach (e2 :: []) X.env = (false, eval e2 X.env) :: starEach [] X.env := by rfl) :
    SI X W tg (.Call (.Name "range" p) [e, e2] [] pos) (range2 f g) := (pi_range2 hg hm (pa_cons he (pa_cons he2 pa_nil hst2) hst) hs hs2).imp (by
  rintro σ H R ⟨φ, env, mh, re, hh, p⟩
  refine ⟨φ, env, mh, re, hh, post_mono (Px.refl φ) (Kp.refl H) (post_bind (R1 := RelD X.K) p) ?_⟩
  rintro x H1 ⟨φ1, d, mh1, p1, k1, h1, r1, q⟩
  refine ⟨φ1, env, mh1, re.mono p1 k1, h1, post_mono (Px.refl φ1) (Kp.refl H1) (post_bind (R1 := RelD X.K) q) ?_⟩
  rintro y H2 ⟨φ2, d2, mh2, p2, k2, h2, r2, q2⟩
  cases r1 with
  | int i =>
    cases r2 with
    | int j =>
      try simp only at q2
      split at q2
      · rename_i hb
        obtain ⟨b1, b2⟩ := of_decide_eq_true hb.1
        obtain ⟨b3, b4⟩ := of_decide_eq_true hb.2
        exact ⟨i, j, rfl, ⟨b1, b2, b3, b4⟩, q2 φ2 _ H2 (Px.refl φ2) (Kp.refl H2) h2 (itOk_range i (j - i).toNat)⟩
      · exact q2.elim
    | _ => exact q2.elim
  | _ => cases r2 <;> exact q2.elim)
end
end Det
/-! Det, part H: sorted, least and greatest. -/
namespace Det
open PySem PySem.Spec PyProof.Rows L2

/-! ### sorted -/
def ins {α : Type} (le : α → α → Bool) (a : α) : List α → List α
  | [] => [a]
  | b :: l => if le a b = true then a :: b :: l else b :: ins le a l
def isort {α : Type} (le : α → α → Bool) : List α → List α
  | [] => []
  | a :: l => ins le a (isort le l)
theorem ins_eq {α : Type} {le : α → α → Bool} {a : α} : ∀ {l₁ l₂ : List α}, (∀ b ∈ l₁, (!le a b) = true) → (∀ b, l₂.head? = some b → le a b = true) → ins le a (l₁ ++ l₂) = l₁ ++ a :: l₂
  | [], [], _, _ => rfl
  | [], b :: l, _, h => by
    show (if le a b = true then _ else _) = _
    rw [if_pos (h b rfl)]; rfl
  | c :: l₁, l₂, h1, h2 => by
    have hc : ¬ le a c = true := by have := h1 c List.mem_cons_self; simpa using this
    show (if le a c = true then _ else c :: ins le a (l₁ ++ l₂)) = _
    rw [if_neg hc, ins_eq (fun b hb => h1 b (List.mem_cons_of_mem _ hb)) h2]
    rfl
theorem isort_eq {α : Type} {le : α → α → Bool} (tr : ∀ a b c, le a b = true → le b c = true → le a c = true) (to : ∀ a b, (le a b || le b a) = true) : ∀ l : List α, l.mergeSort le = isort le l
  | [] => by simp [isort]
  | a :: l => by
    obtain ⟨l₁, l₂, h1, h2, h3⟩ := List.mergeSort_cons (le := le) tr to a l
    rw [h1]
    show l₁ ++ a :: l₂ = ins le a (isort le l)
    rw [← isort_eq tr to l, h2]
    refine (ins_eq h3 fun b hb => ?_).symm
    have hs := List.pairwise_mergeSort (le := le) tr to (a :: l)
    rw [h1, List.pairwise_append] at hs
    match l₂, hb, hs with
    | c :: l₂, hb, hs =>
      have e : c = b := Option.some.inj hb
      subst e
      exact (List.pairwise_cons.mp hs.2.1).1 c List.mem_cons_self
/-- data of a value that holds no lists -/
def datP (d : D) : PyData := (datD [] 60 d).getD .none
def leD (a b : D) : Bool := PySem.W.dataLe false datP a b
def notT : PyData → Bool
  | .none => false
  | .tuple _ => false
  | _ => true
def tupNE : PyData → Bool
  | .tuple (_ :: _) => true
  | _ => false
def okSort (xs : List D) : Bool := xs.all (fun d => (datD [] 60 d).isSome && decide ((datP d).depth ≤ 60)) && xs.all (fun d => xs.all fun e => PySem.W.alike (datP d) (datP e)) && (xs.all (fun d => tupNE (datP d)) || xs.all (fun d => notT (datP d))) && decide (xs.length ≤ sizeLine)
def oSorted : OpA := fun as mh => match as with
  | [a] => match itemsD mh a with
    | some xs => if okSort xs = true then some (.ref mh.length, mh ++ [.lst (isort leD xs)]) else none
    | none => none
  | _ => none
theorem leD_total : PySem.W.TotalLe leD := PySem.W.sortLe_total (listOrd itemOrd) false fun b => PySem.W.keyToks (datP b)
theorem each_vals {K : PySem.W.Frag} {φ : List Addr} {H : Hp} : ∀ {ds : List D} {vs : List V} {us : List Value}, RelDs K φ H ds vs → Vals vs us → PySem.W.EachIs (fun u d => ∃ v, RelV v u ∧ RelD K φ H d v) us ds
  | _, _, _, .nil, .nil => .nil
  | _, _, _, .cons h t, .cons r s => .cons ⟨_, r, h⟩ (each_vals t s)
theorem vals_each {K : PySem.W.Frag} {φ : List Addr} {H : Hp} : ∀ {us : List Value} {ds : List D}, PySem.W.EachIs (fun u d => ∃ v, RelV v u ∧ RelD K φ H d v) us ds → ∃ vs, RelDs K φ H ds vs ∧ Vals vs us
  | _, _, .nil => ⟨[], .nil, .nil⟩
  | _, _, .cons ⟨v, r, h⟩ t => by
    obtain ⟨vs, a, b⟩ := vals_each t
    exact ⟨v :: vs, .cons h a, .cons r b⟩
theorem each_and {α β : Type} {R : α → β → Prop} {p : β → Prop} : ∀ {as : List α} {bs : List β}, PySem.W.EachIs R as bs → (∀ b ∈ bs, p b) → PySem.W.EachIs (fun a b => R a b ∧ p b) as bs
  | _, _, .nil, _ => .nil
  | _, _, .cons r t, h => .cons ⟨r, h _ List.mem_cons_self⟩ (each_and t fun b hb => h b (List.mem_cons_of_mem _ hb))
theorem each_imp {α β : Type} {R R' : α → β → Prop} (f : ∀ a b, R a b → R' a b) : ∀ {as : List α} {bs : List β}, PySem.W.EachIs R as bs → PySem.W.EachIs R' as bs
  | _, _, .nil => .nil
  | _, _, .cons r t => .cons (f _ _ r) (each_imp f t)
theorem datP_ok {K : PySem.W.Frag} {φ : List Addr} {H : Hp} {d : D} {v : V} (h : (datD [] 60 d).isSome = true) (r : RelD K φ H d v) : Dp K H v (datP d) := by
  have go : ∀ (n : Nat) (d : D) (v : V) (p : PyData), RelD K φ H d v → datD [] n d = some p → Dp K H v p := by
    intro n
    induction n with
    | zero =>
      intro d v p r e
      cases r with
      | non => cases e; exact .non
      | bl b => cases e; exact .bl b
      | int i => cases e; exact .int i
      | str x => cases e; exact .str x
      | _ => cases e
    | succ n ih =>
      intro d v p r e
      cases r with
      | non => cases e; exact .non
      | bl b => cases e; exact .bl b
      | int i => cases e; exact .int i
      | str x => cases e; exact .str x
      | tup hs t =>
        simp only [datD] at e
        cases h2 : List.mapM (datD [] n) ‹List D› with
        | none => rw [h2] at e; cases e
        | some qs =>
          rw [h2] at e
          cases e
          exact .tup hs (mapM_dat ih t h2)
      | rol hs t =>
        simp only [datD] at e
        cases h2 : List.mapM (datD [] n) ‹List D› with
        | none => rw [h2] at e; cases e
        | some qs =>
          rw [h2] at e
          cases e
          exact .lst hs.seq (mapM_dat ih t h2)
      | ref hn => simp [datD] at e
      | _ => cases e
  unfold datP
  cases e : datD [] 60 d with
  | none => rw [e] at h; cases h
  | some p => exact go 60 d v p r e
section
variable {X : Cx}
theorem okSort_parts {xs : List D} (h : okSort xs = true) : (∀ d ∈ xs, (datD [] 60 d).isSome = true ∧ (datP d).depth ≤ 60) ∧ PySem.W.AllAlike (xs.map datP) ∧ PySem.W.Sortable (xs.map datP) ∧ xs.length ≤ sizeLine := by
  unfold okSort at h
  rw [Bool.and_eq_true, Bool.and_eq_true, Bool.and_eq_true] at h
  obtain ⟨⟨⟨h1, h2⟩, h3⟩, h4⟩ := h
  rw [List.all_eq_true] at h1 h2
  refine ⟨fun d hd => ?_, fun p hp q hq => ?_, ?_, of_decide_eq_true h4⟩
  · have := h1 d hd
    rw [Bool.and_eq_true] at this
    exact ⟨this.1, of_decide_eq_true this.2⟩
  · obtain ⟨d, hd, rfl⟩ := List.mem_map.mp hp
    obtain ⟨e, he, rfl⟩ := List.mem_map.mp hq
    exact List.all_eq_true.mp (h2 d hd) e he
  · rw [Bool.or_eq_true] at h3
    rcases h3 with h3 | h3
    · refine .inl fun p hp => ?_
      obtain ⟨d, hd, rfl⟩ := List.mem_map.mp hp
      have := List.all_eq_true.mp h3 d hd
      unfold tupNE at this
      split at this
      · rename_i x r e; exact ⟨x, r, e⟩
      · cases this
    · refine .inr fun p hp => ?_
      obtain ⟨d, hd, rfl⟩ := List.mem_map.mp hp
      have := List.all_eq_true.mp h3 d hd
      unfold notT at this
      split at this
      · cases this
      · cases this
      · rename_i h1 h2; exact ⟨h1, h2⟩
/-- the items of a tuple, gathered into a new list -/
theorem gather_tup {prog : Program} {w : World} {A : Around} {E : Value → Shared → Prop} {s : Shared} {t : Addr} {its : List Value} {Q : List Value → Shared → Prop} (ht : IsTup s.heap t its.toArray) (hz : its.length ≤ sizeLine)
    (h : Q its { s with heap := (s.heap.push (seqObj "list" #[] 0)).update s.heap.objs.size (Obj.mapSeq (· ++ its.toArray)) }) : wpAny (model prog w) A (collect (.ref t)) Q E s := by
  obtain ⟨o, ho, hc, n, hd⟩ := ht
  have ho' : (s.heap.push (seqObj "list" #[] 0)).get? t = some o := Heap.get?_push_of_some _ ho
  have hnew : (s.heap.push (seqObj "list" #[] 0)).get? s.heap.objs.size = some (seqObj "list" #[] 0) := Heap.get?_push_size _ rfl
  unfold collect
  refine wpAny_bind (wpAny_runValue (codeAny_builtin entry_proto_collect' ?_))
  refine wpAny_bind (wpAny_newList (wpAny_pure ⟨Code.quiet_builtin _ (by decide +kernel), codeAny_builtin entry_list_iadd' ?_⟩))
  have tt : (Value.type "tuple" == Value.type "tuple") = true := by rfl
  show wpAny _ _ (Builtin.List.listExtendWith (.ref s.heap.objs.size) (.ref t) (.ref s.heap.objs.size)) _ _ _
  unfold Builtin.List.listExtendWith
  refine wpAny_bind (wpAny_typeOf (T := "tuple") ⟨o, ho', hc⟩ ?_)
  rw [if_pos (by rw [tt, Bool.or_true])]
  refine wpAny_bind (listItems_at ho' hd (wpAny_bind (listItems_at hnew rfl ?_)))
  rw [if_neg (by simp)]
  have hz2 : ((#[] : Array Value) ++ its.toArray).size ≤ sizeLine + 1 := by
    rw [Array.size_append, List.size_toArray]
    exact Nat.le_succ_of_le (by simpa using hz)
  refine wpAny_bind (listUpdate_at hnew rfl (wpAny_pure ?_) (Nat.zero_le _) hz2)
  refine wpAny_bind (wpAny_load (get?_update_seq hnew _) ?_)
  have e0 : ((#[] : Array Value) ++ its.toArray).toList = its := by simp
  show wpAny _ _ (pure ((#[] : Array Value) ++ its.toArray).toList) Q E _
  rw [e0]
  exact wpAny_pure h
/-- sorted(t), t a tuple -/
theorem sorted_tup {β : Type} {prog : Program} {w : World} {A : Around} {E : Value → Shared → Prop} {s : Shared} {t : Addr} {its : List Value} {bs : List β} {enc : β → PyData} {R : Value → β → Prop} {Q : Value → Shared → Prop} (ht : IsTup s.heap t its.toArray)
    (e : PySem.W.EachIs R its bs) (er : PySem.W.EachIs (fun v b => ∃ as, Reads s.heap v (enc b) as) its bs) (hal : PySem.W.AllAlike (bs.map enc)) (hk : PySem.W.Sortable (bs.map enc)) (hL : bs.length ≤ sizeLine) (hu : ∀ b, b ∈ bs → A.units + 2 + (enc b).depth < cLine)
    (h : ∀ out, out.length = bs.length → PySem.W.EachIs R out (bs.mergeSort (PySem.W.dataLe false enc)) → Q (.ref (s.heap.objs.size + 1)) { s with heap := sortedAll s.heap its (List.toArray out) }) : wpAny (model prog w) A (call (.builtin "sorted") [.ref t]) Q E s := by
  have hz : its.length ≤ sizeLine := by rw [e.length]; exact hL
  have h2 : PySem.W.EachIs (fun v b => ∃ as, Reads (PySem.W.sortingHeap (PySem.W.copyHeap s.heap its) (s.heap.objs.size + 1) its) v (enc b) as) its bs :=
    each_imp (fun v b ⟨as, r⟩ => ⟨as, PyProof.Rows.Reads.keeps (fun _ _ => PySem.W.sorting_copy_old) r⟩) er
  have S := PySem.W.SortsAt.data (prog := prog) (w := w) (A := A.in1.in1) (s := { s with heap := PySem.W.sortingHeap (PySem.W.copyHeap s.heap its) (s.heap.objs.size + 1) its }) (PySem.W.each_map (R := fun v d => ∃ as, Reads (PySem.W.sortingHeap (PySem.W.copyHeap s.heap its) (s.heap.objs.size + 1) its) v d as) enc h2) hal hk
    (fun d hd => by
      obtain ⟨b, hb, rfl⟩ := List.mem_map.mp hd
      exact hu b hb)
  have n1 : ((s.heap.push (seqObj "list" #[] 0)).update s.heap.objs.size (Obj.mapSeq (· ++ its.toArray))).objs.size = s.heap.objs.size + 1 := by
    rw [Heap.size_update, size_push']
  refine PyProof.Rows.call_function_entry_kw kind_sorted plain_sorted entry_sorted (args_sorted1 _) ?_
  unfold Builtin.«sorted»
  refine wpAny_bind (m := checkCount "sorted" 1 1 _) (wpAny_pure (wpAny_bind (gather_tup ht hz (wpAny_bind (wpAny_newList ?_ hz)))))
  show wpAny _ _ _ _ _ { s with heap := PySem.W.copyHeap s.heap its }
  rw [n1]
  refine wpAny_bind (wpAny_holding (wpAny_call_entry_kw slot_list_sort ⟨_, PySem.W.copyHeap_at s.heap its, rfl⟩ entry_list_sort ?body (args_list_sort _)))
  case body =>
    refine wpAny_mono (PySem.W.list_sort_vals (prog := prog) (w := w) (A := A.in1.in1) (E := fun _ _ => False) (P := fun f s' => f = .done (.ret .none) ∧ Q (.ref (s.heap.objs.size + 1)) s') (s := { s with heap := PySem.W.copyHeap s.heap its }) (PySem.W.copyHeap_at s.heap its) S hz
      ⟨rfl, h _ (by rw [PySem.W.sortVals_length false rfl]; exact e.length) (PySem.W.sortVals_data false e h2 hal)⟩) (fun f s' hf => ?_) fun _ _ x => x.elim
    obtain ⟨rfl, hq⟩ := hf
    exact ⟨_, rfl, wpAny_pure ⟨_, rfl, hq⟩⟩
theorem r_sorted (hu : X.A.units + 64 < cLine) : CallR X (.builtin "sorted") (iRA X.K oSorted) := by
  rintro pins s σ H xs us Q I r ⟨φ, mh, as, ra, hh, p⟩
  unfold oSorted at p
  split at p
  · rename_i a
    obtain ⟨v, rfl, rv⟩ := ra.one
    cases h : itemsD mh a with
    | none => rw [h] at p; exact p.elim
    | some ds =>
      simp only [h] at p
      split at p
      · rename_i hok
        obtain ⟨k1, k2, k3, k4⟩ := okSort_parts hok
        obtain ⟨pp, vs, ev, hs, rs⟩ := seq_of hh rv h
        subst ev
        obtain ⟨u, rfl, ru⟩ := Vals.one r
        cases ru
        -- what is known of the items, whichever it is
        have main : ∀ (its : List Value), Vals vs its → (∀ out : List Value, True) → ∀ (out : List Value), PySem.W.EachIs (fun u d => ∃ v, RelV v u ∧ RelD X.K φ H d v) out (ds.mergeSort (PySem.W.dataLe false datP)) → out.length = ds.length →
            EP X pins σ Q (.ref (s.heap.objs.size + 1)) { s with heap := sortedAll s.heap its (List.toArray out) } := by
          intro its _ _ out eo lo
          rw [show PySem.W.dataLe false datP = leD from rfl, isort_eq (fun a b c => leD_total.trans a b c) (fun a b => by have := leD_total.total a b; simpa using this)] at eo
          obtain ⟨ws, r1, r2⟩ := vals_each eo
          obtain ⟨ep, he'⟩ := sortedAll_at s.heap its (List.toArray out)
          have hfree : H (s.heap.objs.size + 1) = none := I.hok.fresh (Nat.le_succ _)
          refine ⟨.ref (s.heap.objs.size + 1), _, I.laid (t' := s.toks) (o := .lst ws) (fun _ _ => sortedAll_old) (Nat.le_succ _) ⟨?_, out, ep, r2, he'⟩, rfl, postO_new hh p r1 hfree⟩
          rw [r2.length, lo]; exact k4
        have rd : ∀ its : List Value, Vals vs its → PySem.W.EachIs (fun v b => ∃ as, Reads s.heap v (datP b) as) its ds := fun its rv2 =>
          each_imp (fun u d hq => by
            obtain ⟨⟨v, h1, h2⟩, h3⟩ := hq
            exact Dp.reads I (datP d) v u (datP_ok h3 h2) h1) (each_and (each_vals rs rv2) fun d hd => (k1 d hd).1)
        have un : ∀ d ∈ ds, X.A.units + 2 + (datP d).depth < cLine := fun d hd => by
          have := (k1 d hd).2
          omega
        rcases hs with hs | hs
        · obtain ⟨its, rv2, hl, _⟩ := I.list hs
          exact PySem.W.sorted_data hl.isList (each_vals rs rv2) (rd its rv2) k2 k3 k4 un fun out lo eo => main its rv2 (fun _ => trivial) out eo lo
        · obtain ⟨its, rv2, ht, _⟩ := I.tuple hs
          exact sorted_tup ht (each_vals rs rv2) (rd its rv2) k2 k3 k4 un fun out lo eo => main its rv2 (fun _ => trivial) out eo lo
      · exact p.elim
  · exact p.elim
end
end Det
/-! Det, part I: the lesser and the greater of two, count, a tuple turned about. -/
namespace Det
open PySem PySem.Spec PyProof.Rows L2

section
variable {prog : Program} {w : World} {A : Around} {E : Value → Shared → Prop} {s : Shared}
theorem min2S {a b : Str} {t u : Tok} {Q : Value → Shared → Prop} (hh : A.handled = none)
    (h : ∀ h' tk, (∀ c o, s.heap.get? c = some o → h'.get? c = some o) → Q (if ltS b a = true then Value.str b u else Value.str a t) { s with heap := h', toks := tk }) :
    wpAny (model prog w) A (call (.builtin "min") [Value.str a t, Value.str b u]) Q E s := by
  have n1 : (s.heap.push { cls := .type "tuple", data := .seq #[Value.str a t, Value.str b u] }).objs.size = s.heap.objs.size + 1 := Heap.size_push ..
  have hT : (s.heap.push { cls := .type "tuple", data := .seq #[Value.str a t, Value.str b u] }).IsTuple s.heap.objs.size #[Value.str a t, Value.str b u] := ⟨_, Heap.get?_push_size _ rfl, rfl, 0, rfl⟩
  have hP : ∀ (i : Nat) (v : Value), (#[Value.str a t, Value.str b u] : Array Value)[i]? = some v → ∃ tk, v = .str (if i = 0 then a else b) tk := by
    intro i v e
    match i, e with
    | 0, e => cases e; exact ⟨t, rfl⟩
    | 1, e => cases e; exact ⟨u, rfl⟩
    | i + 2, e => simp at e
  have hcmp : CmpOf prog w A.in1 .Lt (fun (i : Nat) (v : Value) => (#[Value.str a t, Value.str b u] : Array Value)[i]? = some v) (fun (i j : Nat) => ltS (if i = 0 then a else b) (if j = 0 then a else b)) := fun i j vi vj s Q E hi hj hq => by
    obtain ⟨t1, rfl⟩ := hP i vi hi
    obtain ⟨t2, rfl⟩ := hP j vj hj
    exact richCompare_gives (op := .Lt) (typeIs_str s _ t1) (typeIs_str s _ t2) F.slot_str_lt F.entry_str_lt (F.args_str_lt_2 _ _) (gives_str_lt _ _ t1 t2) (fun x => nomatch x) hq
  refine call_min_two (wpAny_pyIter_tuple hT ?_)
  refine ⟨_, [_, s.heap.objs.size], [_], _, _, _, _, rfl, Walks.tuple (A := A.in1) hh _ s.heap.objs.size (by rw [n1]; exact Nat.ne_of_lt (Nat.lt_succ_self _)) #[Value.str a t, Value.str b u],
    ⟨⟨_, Heap.get?_push_size _ rfl, rfl, rfl⟩, hT.push _⟩, fun c hc => ?_, by simp, hcmp, fun v h' tk hv hk => ?_⟩
  · have n2 : ((s.heap.push { cls := .type "tuple", data := .seq #[Value.str a t, Value.str b u] }).push { cls := .type "tuple_iterator", data := .fields #[.ref s.heap.objs.size, rawInt 0] }).objs.size = s.heap.objs.size + 1 + 1 := by rw [Heap.size_push, n1]
    have hc' : c = s.heap.objs.size + 1 ∨ c = s.heap.objs.size := by
      rcases List.mem_cons.mp hc with e | e
      · exact .inl (by rw [e, n1])
      · exact .inr (List.mem_singleton.mp e)
    show c < ((s.heap.push _).push _).objs.size
    rw [Heap.size_push, n1]
    rcases hc' with e | e
    · rw [e]; exact Nat.lt_succ_self _
    · rw [e]; exact Nat.lt_succ_of_lt (Nat.lt_succ_self _)
  · have keep : ∀ c o, s.heap.get? c = some o → h'.get? c = some o := fun c o e => hk c o (fun hm => by
      have e1 := List.mem_singleton.mp hm
      have := Heap.lt_size e
      rw [e1, n1] at this
      exact Nat.lt_irrefl _ (Nat.lt_of_succ_lt this)) (Heap.get?_push_of_some _ (Heap.get?_push_of_some _ e))
    have q := h h' tk keep
    have e2 : v = if ltS b a = true then Value.str b u else Value.str a t := by
      cases hc : ltS b a with
      | true =>
        have ev : (#[Value.str a t, Value.str b u] : Array Value)[1]? = some v := by
          have : argBest (fun (i j : Nat) => ltS (if i = 0 then a else b) (if j = 0 then a else b)) 1 = 1 := by
            show (if (ltS (if 1 = 0 then a else b) (if 0 = 0 then a else b)) = true then 1 else 0) = 1
            rw [if_pos]; simpa using hc
          rw [← this]; exact hv
        simpa using ev.symm
      | false =>
        have ev : (#[Value.str a t, Value.str b u] : Array Value)[0]? = some v := by
          have : argBest (fun (i j : Nat) => ltS (if i = 0 then a else b) (if j = 0 then a else b)) 1 = 0 := by
            show (if (ltS (if 1 = 0 then a else b) (if 0 = 0 then a else b)) = true then 1 else 0) = 0
            rw [if_neg]; simpa using hc
          rw [← this]; exact hv
        simpa using ev.symm
    rw [e2]; exact q
theorem max2S {a b : Str} {t u : Tok} {Q : Value → Shared → Prop} (hh : A.handled = none)
    (h : ∀ h' tk, (∀ c o, s.heap.get? c = some o → h'.get? c = some o) → Q (if ltS a b = true then Value.str b u else Value.str a t) { s with heap := h', toks := tk }) :
    wpAny (model prog w) A (call (.builtin "max") [Value.str a t, Value.str b u]) Q E s := by
  have n1 : (s.heap.push { cls := .type "tuple", data := .seq #[Value.str a t, Value.str b u] }).objs.size = s.heap.objs.size + 1 := Heap.size_push ..
  have hT : (s.heap.push { cls := .type "tuple", data := .seq #[Value.str a t, Value.str b u] }).IsTuple s.heap.objs.size #[Value.str a t, Value.str b u] := ⟨_, Heap.get?_push_size _ rfl, rfl, 0, rfl⟩
  have hP : ∀ (i : Nat) (v : Value), (#[Value.str a t, Value.str b u] : Array Value)[i]? = some v → ∃ tk, v = .str (if i = 0 then a else b) tk := by
    intro i v e
    match i, e with
    | 0, e => cases e; exact ⟨t, rfl⟩
    | 1, e => cases e; exact ⟨u, rfl⟩
    | i + 2, e => simp at e
  have hcmp : CmpOf prog w A.in1 .Gt (fun (i : Nat) (v : Value) => (#[Value.str a t, Value.str b u] : Array Value)[i]? = some v) (fun (i j : Nat) => ltS (if j = 0 then a else b) (if i = 0 then a else b)) := fun i j vi vj s Q E hi hj hq => by
    obtain ⟨t1, rfl⟩ := hP i vi hi
    obtain ⟨t2, rfl⟩ := hP j vj hj
    exact richCompare_gives (op := .Gt) (typeIs_str s _ t1) (typeIs_str s _ t2) F.slot_str_gt F.entry_str_gt (F.args_str_gt_2 _ _) (gives_str_gt _ _ t1 t2) (fun x => nomatch x) hq
  refine call_max_two (wpAny_pyIter_tuple hT ?_)
  refine ⟨_, [_, s.heap.objs.size], [_], _, _, _, _, rfl, Walks.tuple (A := A.in1) hh _ s.heap.objs.size (by rw [n1]; exact Nat.ne_of_lt (Nat.lt_succ_self _)) #[Value.str a t, Value.str b u],
    ⟨⟨_, Heap.get?_push_size _ rfl, rfl, rfl⟩, hT.push _⟩, fun c hc => ?_, by simp, hcmp, fun v h' tk hv hk => ?_⟩
  · have n2 : ((s.heap.push { cls := .type "tuple", data := .seq #[Value.str a t, Value.str b u] }).push { cls := .type "tuple_iterator", data := .fields #[.ref s.heap.objs.size, rawInt 0] }).objs.size = s.heap.objs.size + 1 + 1 := by rw [Heap.size_push, n1]
    have hc' : c = s.heap.objs.size + 1 ∨ c = s.heap.objs.size := by
      rcases List.mem_cons.mp hc with e | e
      · exact .inl (by rw [e, n1])
      · exact .inr (List.mem_singleton.mp e)
    show c < ((s.heap.push _).push _).objs.size
    rw [Heap.size_push, n1]
    rcases hc' with e | e
    · rw [e]; exact Nat.lt_succ_self _
    · rw [e]; exact Nat.lt_succ_of_lt (Nat.lt_succ_self _)
  · have keep : ∀ c o, s.heap.get? c = some o → h'.get? c = some o := fun c o e => hk c o (fun hm => by
      have e1 := List.mem_singleton.mp hm
      have := Heap.lt_size e
      rw [e1, n1] at this
      exact Nat.lt_irrefl _ (Nat.lt_of_succ_lt this)) (Heap.get?_push_of_some _ (Heap.get?_push_of_some _ e))
    have q := h h' tk keep
    have e2 : v = if ltS a b = true then Value.str b u else Value.str a t := by
      cases hc : ltS a b with
      | true =>
        have ev : (#[Value.str a t, Value.str b u] : Array Value)[1]? = some v := by
          have : argBest (fun (i j : Nat) => ltS (if j = 0 then a else b) (if i = 0 then a else b)) 1 = 1 := by
            show (if (ltS (if 0 = 0 then a else b) (if 1 = 0 then a else b)) = true then 1 else 0) = 1
            rw [if_pos]; simpa using hc
          rw [← this]; exact hv
        simpa using ev.symm
      | false =>
        have ev : (#[Value.str a t, Value.str b u] : Array Value)[0]? = some v := by
          have : argBest (fun (i j : Nat) => ltS (if j = 0 then a else b) (if i = 0 then a else b)) 1 = 0 := by
            show (if (ltS (if 0 = 0 then a else b) (if 1 = 0 then a else b)) = true then 1 else 0) = 0
            rw [if_neg]; simpa using hc
          rw [← this]; exact hv
        simpa using ev.symm
    rw [e2]; exact q
end
section
variable {X : Cx} {W : WX}
def oMin2 : OpA := fun as mh => match as with
  | [.int i, .int j] => some (.int (if j < i then j else i), mh)
  | [.str x, .str y] => some (.str (if ltS y x = true then y else x), mh)
  | _ => none
def oMax2 : OpA := fun as mh => match as with
  | [.int i, .int j] => some (.int (if j > i then j else i), mh)
  | [.str x, .str y] => some (.str (if ltS x y = true then y else x), mh)
  | _ => none
theorem r_min2 (hc : X.calm = true) : CallR X (.builtin "min") (iRA X.K oMin2) := by
  rintro pins s σ H xs us Q I r ⟨φ, mh, as, ra, hh, p⟩
  unfold oMin2 at p
  split at p
  · obtain ⟨v, v2, rfl, rv, rw'⟩ := ra.two
    cases rv; cases rw'
    exact call_min2 hc pins s σ H _ us Q I r ⟨_, _, rfl, postO_val hh p (.int _)⟩
  · rename_i x y
    obtain ⟨v, v2, rfl, rv, rw'⟩ := ra.two
    cases rv; cases rw'
    obtain ⟨u1, u2, rfl, ⟨t1, rfl⟩, ⟨t2, rfl⟩⟩ := Vals.two r
    refine min2S (I.ok.hd hc) fun h' tk k => ⟨.str (if ltS y x = true then y else x), H, I.kept k, ?_, postO_val hh p (.str _)⟩
    by_cases hl : ltS y x = true
    · rw [if_pos hl, if_pos hl]; exact ⟨_, rfl⟩
    · rw [if_neg hl, if_neg hl]; exact ⟨_, rfl⟩
  · exact p.elim
theorem r_max2 (hc : X.calm = true) : CallR X (.builtin "max") (iRA X.K oMax2) := by
  rintro pins s σ H xs us Q I r ⟨φ, mh, as, ra, hh, p⟩
  unfold oMax2 at p
  split at p
  · obtain ⟨v, v2, rfl, rv, rw'⟩ := ra.two
    cases rv; cases rw'
    exact call_max2 hc pins s σ H _ us Q I r ⟨_, _, rfl, postO_val hh p (.int _)⟩
  · rename_i x y
    obtain ⟨v, v2, rfl, rv, rw'⟩ := ra.two
    cases rv; cases rw'
    obtain ⟨u1, u2, rfl, ⟨t1, rfl⟩, ⟨t2, rfl⟩⟩ := Vals.two r
    refine max2S (I.ok.hd hc) fun h' tk k => ⟨.str (if ltS x y = true then y else x), H, I.kept k, ?_, postO_val hh p (.str _)⟩
    by_cases hl : ltS x y = true
    · rw [if_pos hl, if_pos hl]; exact ⟨_, rfl⟩
    · rw [if_neg hl, if_neg hl]; exact ⟨_, rfl⟩
  · exact p.elim
end
end Det
/-! Det, part J: sorted(set(xs)), len(set(xs)) of ints and texts. -/
namespace Det
open PySem PySem.Spec PyProof.Rows L2

/-- the key that an entry bears -/
def keyAt (z : Int × Value) : Key := match z.2 with
  | .int i _ => .inl i
  | .str x _ => .inr x
  | _ => .inl 0
def KeyE (w : World) (z : Int × Value) : Prop := ∃ y : Key, keyIs y z.2 = true ∧ z.1 = keyH w y
/-- the set of keys at a: ys its members, once each, in no order -/
def SetG (w : World) (h : Heap) (a : Addr) (ys : List Key) : Prop :=
  ∃ ob rows stamp tab, h.get? a = some ob ∧ ob.ExactSet ∧ ob.data = .set rows stamp tab ∧ (∀ z ∈ rows.toList, KeyE w z) ∧ (rows.toList.map keyAt).Perm ys ∧ ys.Nodup ∧
    rows.size < scanBound ∧ tab.fits rows.size = true ∧ Ris tab.place.toList ∧ (w.params.followText "set-order" = true ∨ tab.led = true)
instance memK (y : Key) (ys : List Key) : Decidable (y ∈ ys) := decidable_of_iff (ys.any (fun z => decide (z = y)) = true) (by simp)
def addK (ys : List Key) (y : Key) : List Key := if y ∈ ys then ys else ys ++ [y]
section
variable {P : Program} {w : World} {h h' : Heap} {a : Addr} {ys : List Key}
theorem SetG.at (R : SetG w h a ys) (keep : ∀ q, h.get? a = some q → h'.get? a = some q) : SetG w h' a ys := by
  obtain ⟨ob, rows, stamp, tab, h0, rest⟩ := R
  exact ⟨ob, rows, stamp, tab, keep ob h0, rest⟩
theorem KeyE.elems {l : List (Int × Value)} (g : ∀ z ∈ l, KeyE w z) : ElemsOf (mixKind P w) l := fun z hz => by
  obtain ⟨y, h1, h2⟩ := g z hz
  refine ⟨⟨y, h1, h2⟩, ?_⟩
  rcases keyIs_shape h1 with ⟨i, t, _, e⟩ | ⟨x, t, _, e⟩ <;> rw [e] <;> rfl
theorem KeyE.is {z : Int × Value} (g : KeyE w z) (y : Key) : (mixKind P w).is y z.2 = true ↔ keyAt z = y := by
  obtain ⟨y0, h1, _⟩ := g
  unfold keyAt
  rcases keyIs_shape h1 with ⟨i, t, e0, e⟩ | ⟨x, t, e0, e⟩
  · rw [e]
    constructor
    · intro q; exact (mixKind P w).inj _ _ _ (mixKind_int P w i t) q
    · intro q; have q' : (Sum.inl i : Key) = y := q; rw [← q']; exact mixKind_int P w i t
  · rw [e]
    constructor
    · intro q; exact (mixKind P w).inj _ _ _ (mixKind_str P w x t) q
    · intro q; have q' : (Sum.inr x : Key) = y := q; rw [← q']; exact mixKind_str P w x t
theorem SetG.fresh (ho : h.get? a = some { cls := .type "set", dict := none, data := .set #[] 0 (.fresh 0 0 (!w.params.followText "set-order")) }) : SetG w h a [] :=
  ⟨_, #[], 0, _, ho, ⟨rfl, rfl, rfl⟩, rfl, (fun z hz => by simp at hz), (by simp), (by simp), (by decide), (by rfl), List.Pairwise.nil, by
    show _ ∨ (!w.params.followText "set-order") = true
    cases w.params.followText "set-order"
    · exact .inr rfl
    · exact .inl rfl⟩
end
section
variable {P : Program} {w : World} {A : Around} {E : Value → Shared → Prop} {s : Shared} {a : Addr} {ys : List Key}
theorem setG_tail {gv : Bool → Sem Unit} (hgv : ∀ (b : Bool) (s₁ : Shared) (Q' : Unit → Shared → Prop), Q' () s₁ → wpAny (model P w) A (gv b) Q' E s₁)
    {ob : Obj} {rows : Array (Int × Value)} {stamp : Nat} {tab : SetTable} (ho : s.heap.get? a = some ob) (hex : ob.ExactSet) (hd : ob.data = .set rows stamp tab)
    {rows1 : Array (Int × Value)} {tab2 : SetTable} {zs : List Key} (g1 : ∀ z ∈ rows1.toList, KeyE w z) (m1 : (rows1.toList.map keyAt).Perm zs) (nd1 : zs.Nodup)
    (hb1 : rows1.size < scanBound) (hf2 : tab2.fits rows1.size = true) (hr : Ris tab2.place.toList) (hl : w.params.followText "set-order" = true ∨ tab2.led = true) {wasD : Bool} {R : Option Bool → Shared → Prop}
    (hR : ∀ h', Heap.SameBut a s.heap h' → SetG w h' a zs → R (some true) { s with heap := h' }) :
    wpAny (model P w) A (do
        storeSet a rows1 tab2
        if (!wasD && tab2.tooFull) = true then do
            gv (relayAll tab2 rows1 (SetTable.grown rows1.size)).2.2
            storeSet a (relayAll tab2 rows1 (SetTable.grown rows1.size)).1 (relayAll tab2 rows1 (SetTable.grown rows1.size)).2.1
            pure (some true)
          else pure (some true)) R E s := by
  refine wpAny_bind (wpAny_storeSet_of ho hd ?_ (fits_of_scanBound hb1))
  have at1 := store_at (es' := rows1) (t' := tab2) ho hd
  have same1 := Heap.SameBut.update s.heap a (Obj.putSet rows1 tab2)
  split
  · have pmx := relayAll_perm tab2 rows1 (SetTable.grown rows1.size)
    have hf3 := relayAll_fits tab2 rows1 (SetTable.grown rows1.size)
    have hr3 := relayAll_ris tab2 rows1 (SetTable.grown rows1.size)
    have hl3 := relayAll_led tab2 rows1 (SetTable.grown rows1.size)
    generalize relayAll tab2 rows1 (SetTable.grown rows1.size) = Zr at pmx hf3 hr3 hl3 ⊢
    obtain ⟨rows2, tab3, gave⟩ := Zr
    dsimp only at pmx hf3 hr3 hl3 ⊢
    have hsz : rows2.size = rows1.size := by rw [← Array.length_toList, pmx.length_eq, Array.length_toList]
    have hb2 : rows2.size < scanBound := by rw [hsz]; exact hb1
    refine wpAny_bind (hgv _ _ _ ?_)
    refine wpAny_bind (wpAny_storeSet_of at1 rfl ?_ (fits_of_scanBound hb2))
    have at2 := store_at (es' := rows2) (t' := tab3) at1 rfl
    refine wpAny_pure (hR _ (same1.trans (Heap.SameBut.update _ a _)) ?_)
    exact ⟨_, rows2, _, tab3, at2, hex, rfl, fun z hz => g1 z (pmx.mem_iff.mp hz), (pmx.map keyAt).trans m1, nd1, hb2, (by rw [hsz]; first | exact hf3 | (rw [← hsz]; exact hf3)), hr3,
      hl.imp id fun q => by rw [hl3]; exact q⟩
  · exact wpAny_pure (hR _ same1 ⟨_, rows1, _, tab2, at1, hex, rfl, g1, m1, nd1, hb1, hf2, hr, hl⟩)

theorem setG_addHashed {y : Key} {x : Value} {Q : Bool → Shared → Prop} (hx : (mixKind P w).is y x = true) (R : SetG w s.heap a ys) (room : ys.length + 1 < scanBound)
    (hQ : ∀ b h', Heap.SameBut a s.heap h' → SetG w h' a (addK ys y) → Q b { s with heap := h' }) :
    wpAny (model P w) A (setAddHashed a x ((mixKind P w).hash y)) Q E s := by
  obtain ⟨ob, rows, stamp, tab, ho, hex, hd, g, pm0, nd, hb, hf, hr, hl⟩ := R
  have hsc : x.scannable = true := by
    rcases keyIs_shape hx with ⟨i, t, _, e⟩ | ⟨z, t, _, e⟩ <;> rw [e] <;> rfl
  have hn : rows.size = ys.length := by rw [← pm0.length_eq, List.length_map, Array.length_toList]
  have hel : ElemsOf (mixKind P w) rows.toList := KeyE.elems g
  unfold setAddHashed setAddHashedIn
  refine wpAny_holding (wpAny_bind (wpAny_setState_of ho hd hf ?_))
  dsimp only
  rw [byScan_of hsc hb hel]
  simp only [↓reduceIte]
  unfold setAddByScan
  refine wpAny_bind ?_
  refine wpAny_bind (wpAny_rule ?_)
  refine wpAny_bind (wpAny_setScan_of hx ho hd hf hel ?_)
  cases hfi : List.findIdx? (fun e => (mixKind P w).is y e.2) rows.toList with
  | some j =>
    dsimp only
    obtain ⟨hj, pj, _⟩ := List.findIdx?_eq_some_iff_getElem.mp hfi
    have hy : y ∈ ys := pm0.mem_iff.mp (List.mem_map.mpr ⟨_, List.getElem_mem hj, (KeyE.is (P := P) (g _ (List.getElem_mem hj)) y).mp pj⟩)
    refine wpAny_pure (wpAny_pure (hQ _ s.heap (Heap.SameBut.refl a s.heap) ?_))
    unfold addK
    rw [if_pos hy]
    exact ⟨ob, rows, stamp, tab, ho, hex, hd, g, pm0, nd, hb, hf, hr, hl⟩
  | none =>
    dsimp only
    have hny : y ∉ ys := fun z => by
      obtain ⟨e, he, q⟩ := List.mem_map.mp (pm0.mem_iff.mpr z)
      have c := List.findIdx?_eq_none_iff.mp hfi e he
      rw [(KeyE.is (P := P) (g e he) y).mpr q] at c
      cases c
    have gvw : ∀ (b : Bool) {s₁ : Shared} {Q' : Unit → Shared → Prop}, Q' () s₁ → wpAny (model P w) A (match b with | true => rule "set.scan.the-table-gave-way" | false => pure ()) Q' E s₁ :=
      fun b s₁ Q' q => by cases b; exact wpAny_pure q; exact wpAny_rule q
    have pm := layNew_perm tab rows ((mixKind P w).hash y) x
    have hf1 := layNew_fits tab rows ((mixKind P w).hash y) x
    have hr1 := layNew_ris tab rows ((mixKind P w).hash y) x hr
    have hl1 := layNew_led tab rows ((mixKind P w).hash y) x
    generalize layNew tab rows ((mixKind P w).hash y) x = Zn at pm hf1 hr1 hl1 ⊢
    obtain ⟨rows1, tab1, wasD, gave⟩ := Zn
    dsimp only at pm hf1 hr1 hl1 ⊢
    rw [Array.toList_push] at pm
    have pc : rows1.toList.Perm (rows.toList ++ [((mixKind P w).hash y, x)]) := pm
    have kx : keyAt ((mixKind P w).hash y, x) = y := (KeyE.is (P := P) (w := w) (z := ((mixKind P w).hash y, x)) ⟨y, hx, rfl⟩ y).mp hx
    have pk : (rows1.toList.map keyAt).Perm (ys ++ [y]) := by
      have q := pc.map keyAt
      rw [List.map_append, List.map_singleton, kx] at q
      exact q.trans (pm0.append_right _)
    have g1 : ∀ e ∈ rows1.toList, KeyE w e := fun e he => by
      rcases List.mem_append.mp (pc.mem_iff.mp he) with z | z
      · exact g e z
      · rw [List.mem_singleton.mp z]; exact ⟨y, hx, rfl⟩
    have nd1 : (ys ++ [y]).Nodup := by
      rw [List.nodup_append]
      exact ⟨nd, by simp, fun p hp q hq e => by rw [List.mem_singleton] at hq; subst hq; subst e; exact hny hp⟩
    have hsz : rows1.size = ys.length + 1 := by rw [← Array.length_toList, pc.length_eq, List.length_append, Array.length_toList, hn]; rfl
    have hb1 : rows1.size < scanBound := by rw [hsz]; exact room
    have hled : w.params.followText "set-order" = true ∨ tab1.led = true := hl.imp id fun z => by rw [hl1]; exact z
    have ea : addK ys y = ys ++ [y] := by unfold addK; rw [if_neg hny]
    refine wpAny_bind (gvw _ ?_)
    split
    · refine wpAny_bind ?_
      rw [hashByValue_scannable 8 hsc]
      refine wpAny_pure ?_
      refine setG_tail ?_ ho hex hd g1 pk nd1 hb1 ?_ ?_ ?_ ?_
      · intro b s₁ Q' q; cases b; exact wpAny_pure q; exact wpAny_rule q
      · first | exact hf1 | (split <;> first | exact hf1 | exact SetTable.fits_plain_off hf1)
      · first | exact hr1 | (split <;> exact hr1)
      · first | exact hled | (split <;> exact hled)
      · intro h' sb rg; dsimp only; exact wpAny_pure (hQ _ h' sb (by rw [ea]; exact rg))
    · refine wpAny_bind (wpAny_pure ?_)
      simp only [↓reduceIte]
      refine setG_tail ?_ ho hex hd g1 pk nd1 hb1 hf1 hr1 hled ?_
      · intro b s₁ Q' q; cases b; exact wpAny_pure q; exact wpAny_rule q
      · intro h' sb rg; dsimp only; exact wpAny_pure (hQ _ h' sb (by rw [ea]; exact rg))
def addKs (ys : List Key) (zs : List Key) : List Key := zs.foldl addK ys
theorem addK_len (ys : List Key) (y : Key) : (addK ys y).length ≤ ys.length + 1 := by
  unfold addK; split <;> simp
theorem setG_update {I : Addr} {fp wr : List Addr} {G : Array GenState → Array GenState → Prop} {n : Nat} {Pv : Nat → Value → Prop} {St : Nat → Shared → Prop} {R : Result → Shared → Prop}
    (W : WalksS P w A.in1 I fp wr G n Pv St) (S : Addr) (hSf : S ∉ fp) (zs : List Key) (hn : n = zs.length) (hval : ∀ i v, Pv i v → ∃ y, zs[i]? = some y ∧ (mixKind P w).is y v = true) :
    ∀ (m i : Nat) (cur : List Key) (s : Shared), n - i = m → i ≤ n → cur.length + m + 1 < scanBound → St i s → SetG w s.heap S cur →
      (∀ s', Moved (S :: wr) G s s' → SetG w s'.heap S (addKs cur (zs.drop i)) → R (.ok (.ret .none)) s') →
      codeAny (model P w) A (.builtin "set.update.loop" ⟨[.ref S, .ref I], []⟩) R s := by
  have hSw : S ∉ wr := fun z => hSf (W.sub _ z)
  have subw : ∀ b ∈ wr, b ∈ S :: wr := fun b hb => List.mem_cons_of_mem _ hb
  intro m
  induction m with
  | zero =>
    intro i cur s hm hi hc hst hS hR
    obtain rfl : i = n := by omega
    refine codeAny_builtin F.entry_set_update_loop ?_
    rw [Around.under_plainId F.plain_set_update_loop _]
    show wpAny _ A.in1 (pyNext (.ref I) >>= _) _ _ s
    refine wpAny_bind (W.done s _ _ hst fun s' mv => ?_)
    show wpAny _ A.in1 (PySem.ret Value.none) _ _ s'
    refine wpAny_pure (hR s' (mv.mono subw) ?_)
    rw [show zs.drop i = [] from List.drop_of_length_le (by omega)]
    exact hS.at fun o e => mv.heap S o hSw e
  | succ m ih =>
    intro i cur s hm hi hc hst hS hR
    have lt : i < n := by omega
    refine codeAny_builtin F.entry_set_update_loop ?_
    rw [Around.under_plainId F.plain_set_update_loop _]
    show wpAny _ A.in1 (pyNext (.ref I) >>= _) _ _ s
    refine wpAny_bind (W.item i s _ _ lt hst fun v s' hP hst' mv => ?_)
    obtain ⟨y, hy, hk⟩ := hval i v hP
    have hS' : SetG w s'.heap S cur := hS.at fun o e => mv.heap S o hSw e
    show wpAny _ A.in1 (holding [v] (setAdd S v) >>= _) _ _ s'
    refine wpAny_bind (wpAny_holding ?_)
    unfold setAdd
    refine wpAny_holding ?_
    refine wpAny_bind ((mixKind P w).pyHash (k := y) hk ?_)
    refine setG_addHashed (s := { s' with toks := s'.toks + 1 }) hk hS' (by omega) fun _ h' hsb hS2 => ?_
    have hle := addK_len cur y
    refine wpAny_pure ⟨plainId_quiet F.plain_set_update_loop _, ih (i + 1) _ _ (by omega) lt (by omega) (W.frame _ s' _ _ hst' (Nat.le_succ _) fun b hb o e => ?_) hS2 fun s'' mv'' hS'' => ?_⟩
    · rw [hsb.2 b (fun q : b = S => hSf (by rw [← q]; exact hb))]; exact e
    · refine hR s'' (Moved.trans W.gtrans ((mv.mono subw).then_heap (Nat.le_succ _) fun b o hb e => ?_) mv'') ?_
      · rw [hsb.2 b (fun q : b = S => hb (by rw [q]; exact List.mem_cons_self))]; exact e
      · have ed : zs.drop i = y :: zs.drop (i + 1) := by
          have hlt : i < zs.length := by omega
          rw [List.drop_eq_getElem_cons hlt]
          rw [List.getElem?_eq_getElem hlt] at hy
          rw [Option.some.inj hy]
        rw [ed]
        exact hS''
end
end Det
/-! Det, part K: set(xs). -/
namespace Det
open PySem PySem.Spec PyProof.Rows L2
@[reducible] def newS (w : World) : Obj := { cls := .type "set", dict := none, data := .set #[] 0 (.fresh 0 0 (!w.params.followText "set-order")) }
section
variable {P : Program} {w : World} {A : Around} {E : Value → Shared → Prop} {s : Shared}

set_option maxRecDepth 100000 in
theorem set_of_list {l : Addr} {its : Array Value} {zs : List Key} {Q : Value → Shared → Prop} (hh : A.handled = none) (hl : s.heap.IsList l its) (hz : zs.length = its.size) (hk : ∀ (i : Nat) (v : Value), its[i]? = some v → ∃ y, zs[i]? = some y ∧ (mixKind P w).is y v = true) (room : zs.length + 2 < scanBound)
    (fin : ∀ (hp : Heap) (tk : Nat), SetG w hp s.heap.objs.size (addKs [] zs) → (∀ b o, s.heap.get? b = some o → hp.get? b = some o) → Q (.ref s.heap.objs.size) { s with heap := hp, toks := tk }) :
    wpAny (model P w) A (call (.type "set") [.ref l]) Q E s := by
  obtain ⟨c0, tl0, hmro⟩ := PySem.F.called_set.mro
  have hmd := PySem.F.called_set.made
  have hsb := PySem.F.called_set.sub
  refine wpAny_call (codeAny_of_tree ?_)
  show wpAny _ _ (callAny (.type "set") _) _ _ _
  refine wpAny_pure ⟨Code.quiet_builtin _ (by decide +kernel), codeAny_builtin PySem.F.entry_type_call ?_⟩
  rw [Around.under_plain (weight_type_call_type "set" [.ref l] []) rfl]
  have f1 := PySem.F.called_set.notType
  have f2 := PySem.F.called_set.canCreate
  have f3 := PySem.F.typeCall_set_1 (.ref l)
  repeat (any_goals (first | assumption | wp_step))
  refine codeAny_mono (code_set_led1 (.ref l) (E := E) (Q₁ := fun obj sx => obj = .ref s.heap.objs.size ∧ sx = { s with heap := s.heap.push (newS w) }) ⟨rfl, rfl⟩) fun r sx hr => ?_
  cases r with
  | error e => exact hr
  | ok fl =>
    cases fl with
    | ret obj =>
      obtain ⟨rfl, rfl⟩ := hr
      have atS : (s.heap.push (newS w)).get? s.heap.objs.size = some (newS w) := Heap.get?_push_size _ rfl
      have hT : Shared.TypeIs { s with heap := s.heap.push (newS w) } (.ref s.heap.objs.size) "set" := ⟨_, atS, rfl⟩
      have hli := PySem.F.called_set.init.lookup
      have hbi := PySem.F.called_set.init.bind (.ref s.heap.objs.size)
      repeat (any_goals (first | assumption | wp_step))
      refine codeAny_mono (codeAny_call_builtin (R := wants (fun r sy => r = .none ∧ ∃ hp tk, sy = { s with heap := hp, toks := tk } ∧ SetG w hp s.heap.objs.size (addKs [] zs) ∧
          (∀ b o, s.heap.get? b = some o → hp.get? b = some o)) E) PySem.F.called_set.init.plain PySem.F.entry_set_init (check_set_init_1 hT ?_)) fun r₂ sy hr₂ => ?_
      · obtain ⟨⟨ocls, odict, odata, oslots⟩, hol, hcl, nl, hdl⟩ := hl
        simp only at hcl hdl
        subst hcl; subst hdl
        have hol' : (s.heap.push (newS w)).get? l = some { cls := .type "list", dict := odict, data := .seq its nl, slots := oslots } := Heap.get?_push_of_some _ hol
        have hs1 := PySem.F.sub_list_set
        have hs2 := PySem.F.sub_list_frozenset
        have hne : (Value.type "list" == Value.type "dict") = false := by decide
        have hl1 : (s.heap.push (newS w)).IsList l its := ⟨_, hol', rfl, nl, rfl⟩
        unfold Builtin.«set.__init__» noKeywords Builtin.Frozenset.updateFrom
        generalize hIter : pyIter = walkIter
        wp_walk
        subst hIter
        refine wpAny_pyIter_list hl1 ?_
        refine wpAny_bind (wpAny_runValue ?_)
        have hlS : l < s.heap.objs.size := Heap.lt_size hol
        have hd3 : A.in1.in1.in1.handled = none := by simp [hh]
        have hneI : l ≠ (s.heap.push (newS w)).objs.size := by
          rw [Heap.size_push]; exact Nat.ne_of_lt (Nat.lt_succ_of_lt hlS)
        have hSf : s.heap.objs.size ∉ [(s.heap.push (newS w)).objs.size, l] := by
          rw [Heap.size_push]; simp only [List.mem_cons, List.mem_singleton, List.not_mem_nil, or_false, not_or]
          exact ⟨Nat.ne_of_lt (Nat.lt_succ_self _), Nat.ne_of_gt hlS⟩
        refine setG_update ((Walks.list hd3 _ l hneI its).toS) s.heap.objs.size hSf zs hz.symm hk (its.size - 0) 0 [] _ (by omega) (Nat.zero_le _) (by rw [List.length_nil]; omega)
          ⟨⟨_, Heap.get?_push_size _ rfl, rfl, rfl⟩, (hl1.push _)⟩ ?first ?last
        case first => exact SetG.fresh (Heap.get?_push_of_some _ atS)
        case last =>
          intro s' mv hS'
          obtain ⟨hp, gg, dd, tk, oo⟩ := s'
          have e1 : gg = s.gens := mv.gens
          have e2 : dd = s.drawn := mv.drawn
          have e3 : oo = s.os := mv.os
          subst e1; subst e2; subst e3
          show wpAny _ _ _ _ _ _
          refine wpAny_pure ?_
          show wpAny _ _ (PySem.ret Value.none) _ _ _
          refine wpAny_pure ⟨rfl, hp, tk, rfl, hS', fun b o e => ?_⟩
          have hb0 : b < s.heap.objs.size := Heap.lt_size e
          have hb2 : b ≠ (s.heap.push (newS w)).objs.size := by
            rw [Heap.size_push]; exact Nat.ne_of_lt (Nat.lt_succ_of_lt hb0)
          exact mv.heap b o (by simp only [List.mem_cons, List.mem_singleton, List.not_mem_nil, or_false, not_or]; exact ⟨Nat.ne_of_lt hb0, hb2⟩) (Heap.get?_push_of_some _ (Heap.get?_push_of_some _ e))
      · cases r₂ with
        | error e => exact hr₂
        | ok fl₂ =>
          cases fl₂ with
          | ret r =>
            obtain ⟨rfl, hp, tk, rfl, hS', hk'⟩ := hr₂
            repeat (any_goals (first | assumption | wp_step))
            exact fin _ _ hS' hk'
          | _ => exact hr₂.elim
    | _ => exact hr.elim


set_option maxRecDepth 100000 in
theorem set_of_tuple {l : Addr} {its : Array Value} {zs : List Key} {Q : Value → Shared → Prop} (hh : A.handled = none) (hl : s.heap.IsTuple l its) (hz : zs.length = its.size) (hk : ∀ (i : Nat) (v : Value), its[i]? = some v → ∃ y, zs[i]? = some y ∧ (mixKind P w).is y v = true) (room : zs.length + 2 < scanBound)
    (fin : ∀ (hp : Heap) (tk : Nat), SetG w hp s.heap.objs.size (addKs [] zs) → (∀ b o, s.heap.get? b = some o → hp.get? b = some o) → Q (.ref s.heap.objs.size) { s with heap := hp, toks := tk }) :
    wpAny (model P w) A (call (.type "set") [.ref l]) Q E s := by
  obtain ⟨c0, tl0, hmro⟩ := PySem.F.called_set.mro
  have hmd := PySem.F.called_set.made
  have hsb := PySem.F.called_set.sub
  refine wpAny_call (codeAny_of_tree ?_)
  show wpAny _ _ (callAny (.type "set") _) _ _ _
  refine wpAny_pure ⟨Code.quiet_builtin _ (by decide +kernel), codeAny_builtin PySem.F.entry_type_call ?_⟩
  rw [Around.under_plain (weight_type_call_type "set" [.ref l] []) rfl]
  have f1 := PySem.F.called_set.notType
  have f2 := PySem.F.called_set.canCreate
  have f3 := PySem.F.typeCall_set_1 (.ref l)
  repeat (any_goals (first | assumption | wp_step))
  refine codeAny_mono (code_set_led1 (.ref l) (E := E) (Q₁ := fun obj sx => obj = .ref s.heap.objs.size ∧ sx = { s with heap := s.heap.push (newS w) }) ⟨rfl, rfl⟩) fun r sx hr => ?_
  cases r with
  | error e => exact hr
  | ok fl =>
    cases fl with
    | ret obj =>
      obtain ⟨rfl, rfl⟩ := hr
      have atS : (s.heap.push (newS w)).get? s.heap.objs.size = some (newS w) := Heap.get?_push_size _ rfl
      have hT : Shared.TypeIs { s with heap := s.heap.push (newS w) } (.ref s.heap.objs.size) "set" := ⟨_, atS, rfl⟩
      have hli := PySem.F.called_set.init.lookup
      have hbi := PySem.F.called_set.init.bind (.ref s.heap.objs.size)
      repeat (any_goals (first | assumption | wp_step))
      refine codeAny_mono (codeAny_call_builtin (R := wants (fun r sy => r = .none ∧ ∃ hp tk, sy = { s with heap := hp, toks := tk } ∧ SetG w hp s.heap.objs.size (addKs [] zs) ∧
          (∀ b o, s.heap.get? b = some o → hp.get? b = some o)) E) PySem.F.called_set.init.plain PySem.F.entry_set_init (check_set_init_1 hT ?_)) fun r₂ sy hr₂ => ?_
      · obtain ⟨⟨ocls, odict, odata, oslots⟩, hol, hcl, nl, hdl⟩ := hl
        simp only at hcl hdl
        subst hcl; subst hdl
        have hol' : (s.heap.push (newS w)).get? l = some { cls := .type "tuple", dict := odict, data := .seq its nl, slots := oslots } := Heap.get?_push_of_some _ hol
        have hs1 := PySem.F.sub_tuple_set
        have hs2 := PySem.F.sub_tuple_frozenset
        have hne : (Value.type "tuple" == Value.type "dict") = false := by decide
        have hl1 : (s.heap.push (newS w)).IsTuple l its := ⟨_, hol', rfl, nl, rfl⟩
        unfold Builtin.«set.__init__» noKeywords Builtin.Frozenset.updateFrom
        generalize hIter : pyIter = walkIter
        wp_walk
        subst hIter
        refine wpAny_pyIter_tuple hl1 ?_
        refine wpAny_bind (wpAny_runValue ?_)
        have hlS : l < s.heap.objs.size := Heap.lt_size hol
        have hd3 : A.in1.in1.in1.handled = none := by simp [hh]
        have hneI : l ≠ (s.heap.push (newS w)).objs.size := by
          rw [Heap.size_push]; exact Nat.ne_of_lt (Nat.lt_succ_of_lt hlS)
        have hSf : s.heap.objs.size ∉ [(s.heap.push (newS w)).objs.size, l] := by
          rw [Heap.size_push]; simp only [List.mem_cons, List.mem_singleton, List.not_mem_nil, or_false, not_or]
          exact ⟨Nat.ne_of_lt (Nat.lt_succ_self _), Nat.ne_of_gt hlS⟩
        refine setG_update ((Walks.tuple hd3 _ l hneI its).toS) s.heap.objs.size hSf zs hz.symm hk (its.size - 0) 0 [] _ (by omega) (Nat.zero_le _) (by rw [List.length_nil]; omega)
          ⟨⟨_, Heap.get?_push_size _ rfl, rfl, rfl⟩, (hl1.push _)⟩ ?first ?last
        case first => exact SetG.fresh (Heap.get?_push_of_some _ atS)
        case last =>
          intro s' mv hS'
          obtain ⟨hp, gg, dd, tk, oo⟩ := s'
          have e1 : gg = s.gens := mv.gens
          have e2 : dd = s.drawn := mv.drawn
          have e3 : oo = s.os := mv.os
          subst e1; subst e2; subst e3
          show wpAny _ _ _ _ _ _
          refine wpAny_pure ?_
          show wpAny _ _ (PySem.ret Value.none) _ _ _
          refine wpAny_pure ⟨rfl, hp, tk, rfl, hS', fun b o e => ?_⟩
          have hb0 : b < s.heap.objs.size := Heap.lt_size e
          have hb2 : b ≠ (s.heap.push (newS w)).objs.size := by
            rw [Heap.size_push]; exact Nat.ne_of_lt (Nat.lt_succ_of_lt hb0)
          exact mv.heap b o (by simp only [List.mem_cons, List.mem_singleton, List.not_mem_nil, or_false, not_or]; exact ⟨Nat.ne_of_lt hb0, hb2⟩) (Heap.get?_push_of_some _ (Heap.get?_push_of_some _ e))
      · cases r₂ with
        | error e => exact hr₂
        | ok fl₂ =>
          cases fl₂ with
          | ret r =>
            obtain ⟨rfl, hp, tk, rfl, hS', hk'⟩ := hr₂
            repeat (any_goals (first | assumption | wp_step))
            exact fin _ _ hS' hk'
          | _ => exact hr₂.elim
    | _ => exact hr.elim

end
end Det
/-! Det, part L: sorted(set(xs)), len(set(xs)). -/
namespace Det
open PySem PySem.Spec PyProof.Rows L2

/-! ### sorting what is ordered strictly -/
section
variable {α : Type} {le : α → α → Bool}
theorem ins_comm (tr : ∀ a b c, le a b = true → le b c = true → le a c = true) (to : ∀ a b, (le a b || le b a) = true) {a b : α} (anti : le a b = true → le b a = true → a = b) : ∀ l : List α, ins le a (ins le b l) = ins le b (ins le a l) := by
  have go : ∀ (a b : α), le a b = true → ¬ le b a = true → ∀ l : List α, ins le a (ins le b l) = ins le b (ins le a l) := by
    intro a b hab hba l
    induction l with
    | nil => simp [ins, hab, hba]
    | cons c l ih =>
      by_cases hbc : le b c = true
      · have hac := tr _ _ _ hab hbc
        simp [ins, hbc, hac, hab, hba]
      · by_cases hac : le a c = true
        · simp [ins, hbc, hac, hba]
        · simp [ins, hbc, hac, ih]
  intro l
  by_cases h1 : le a b = true
  · by_cases h2 : le b a = true
    · rw [anti h1 h2]
    · exact go a b h1 h2 l
  · have h2 : le b a = true := by
      have := to a b
      rw [Bool.or_eq_true] at this
      exact this.resolve_left h1
    exact (go b a h2 h1 l).symm
theorem isort_perm (tr : ∀ a b c, le a b = true → le b c = true → le a c = true) (to : ∀ a b, (le a b || le b a) = true) {l₁ l₂ : List α} (p : l₁.Perm l₂) (anti : ∀ a ∈ l₁, ∀ b ∈ l₁, le a b = true → le b a = true → a = b) : isort le l₁ = isort le l₂ := by
  induction p with
  | nil => rfl
  | cons x p ih =>
    show ins le x _ = ins le x _
    rw [ih fun a ha b hb => anti a (List.mem_cons_of_mem _ ha) b (List.mem_cons_of_mem _ hb)]
  | swap x y l => exact ins_comm tr to (anti y List.mem_cons_self x (List.mem_cons_of_mem _ List.mem_cons_self)) _
  | trans p q ih1 ih2 => exact (ih1 anti).trans (ih2 fun a ha b hb => anti a (p.mem_iff.mpr ha) b (p.mem_iff.mpr hb))
theorem ins_perm (a : α) : ∀ l : List α, (ins le a l).Perm (a :: l)
  | [] => .refl _
  | b :: l => by
    unfold ins
    split
    · exact .refl _
    · exact ((ins_perm a l).cons b).trans (.swap a b l)
theorem isort_perm_self : ∀ l : List α, (isort le l).Perm l
  | [] => .refl _
  | a :: l => (ins_perm a _).trans ((isort_perm_self l).cons a)
end

/-! ### keys as data -/
def kP : Key → PyData
  | .inl i => .int i
  | .inr x => .str x
def leK (a b : Key) : Bool := PySem.W.dataLe false kP a b
theorem leK_total : PySem.W.TotalLe leK := PySem.W.sortLe_total (listOrd itemOrd) false fun b => PySem.W.keyToks (kP b)
theorem leK_int (a b : Int) : leK (.inl a) (.inl b) = decide (a ≤ b) := congrFun (congrFun (PySem.W.dataLe_int (fun x : Int => x)) a) b
theorem leK_str (a b : Str) : leK (.inr a) (.inr b) = decide (a.cps.toList ≤ b.cps.toList) := congrFun (congrFun (PySem.W.dataLe_str (fun x : Str => x)) a) b
/-- all ints, or all texts -/
def evenK (ys : List Key) : Bool := ys.all (fun y => y.isLeft) || ys.all (fun y => y.isRight)
theorem leK_anti {a b : Key} (h : (a.isLeft && b.isLeft || a.isRight && b.isRight) = true) (h1 : leK a b = true) (h2 : leK b a = true) : a = b := by
  cases a with
  | inl i => cases b with
    | inl j =>
      rw [leK_int] at h1 h2
      have h1 := of_decide_eq_true h1
      have h2 := of_decide_eq_true h2
      rw [Int.le_antisymm h1 h2]
    | inr y => simp at h
  | inr x => cases b with
    | inl j => simp at h
    | inr y =>
      rw [leK_str] at h1 h2
      have h1 := of_decide_eq_true h1
      have h2 := of_decide_eq_true h2
      have e := List.le_antisymm h1 h2
      cases x; cases y
      simp only [Sum.inr.injEq, Str.mk.injEq]
      exact Array.toList_inj.mp e
theorem evenK_two {ys : List Key} (h : evenK ys = true) : ∀ a ∈ ys, ∀ b ∈ ys, (a.isLeft && b.isLeft || a.isRight && b.isRight) = true := fun a ha b hb => by
  unfold evenK at h
  rw [Bool.or_eq_true, List.all_eq_true, List.all_eq_true] at h
  rcases h with h | h
  · rw [h a ha, h b hb]; rfl
  · rw [h a ha, h b hb]; cases a.isLeft <;> cases b.isLeft <;> rfl
section
variable {P : Program} {w : World} {A : Around} {E : Value → Shared → Prop} {s : Shared} {a : Addr} {ys : List Key}
theorem relK_of {y : Key} {u : Value} (h : keyIs y u = true) : RelV (kV y) u := by
  rcases keyIs_shape h with ⟨i, t, rfl, rfl⟩ | ⟨x, t, rfl, rfl⟩
  · exact ⟨t, rfl⟩
  · exact ⟨t, rfl⟩
theorem each_keys' : ∀ {l : List (Int × Value)}, (∀ z ∈ l, KeyE w z) → PySem.W.EachIs (fun u y => RelV (kV y) u) (l.map (·.2)) (l.map keyAt)
  | [], _ => .nil
  | z :: l, h => by
    refine .cons ?_ (each_keys' fun e he => h e (List.mem_cons_of_mem _ he))
    obtain ⟨y, h1, h2⟩ := h z List.mem_cons_self
    have e : keyAt z = y := (KeyE.is (P := default) (w := w) ⟨y, h1, h2⟩ y).mp h1
    rw [e]
    exact relK_of h1
theorem each_key_of : ∀ {l : List Value}, (∀ u ∈ l, ∃ y, keyIs y u = true) → PySem.W.EachIs (fun u y => RelV (kV y) u) l (l.map fun u => keyAt (0, u))
  | [], _ => .nil
  | u :: l, h => by
    refine .cons ?_ (each_key_of fun e he => h e (List.mem_cons_of_mem _ he))
    obtain ⟨y, h1⟩ := h u List.mem_cons_self
    have e : keyAt (0, u) = y := by
      rcases keyIs_shape h1 with ⟨i, t, rfl, rfl⟩ | ⟨x, t, rfl, rfl⟩ <;> rfl
    show RelV (kV (keyAt (0, u))) u
    rw [e]
    exact relK_of h1
theorem keyReads {h : Heap} {y : Key} {u : Value} (r : RelV (kV y) u) : ∃ as, Reads h u (kP y) as := by
  cases y with
  | inl i => obtain ⟨t, rfl⟩ := r; exact ⟨_, .int i t⟩
  | inr x => obtain ⟨t, rfl⟩ := r; exact ⟨_, .str x t⟩
theorem even_alike (h : evenK ys = true) : PySem.W.AllAlike (ys.map kP) ∧ PySem.W.Sortable (ys.map kP) := by
  refine ⟨fun p hp q hq => ?_, .inr fun p hp => ?_⟩
  · obtain ⟨x, hx, rfl⟩ := List.mem_map.mp hp
    obtain ⟨y, hy, rfl⟩ := List.mem_map.mp hq
    have := evenK_two h x hx y hy
    cases x <;> cases y <;> first | rfl | (simp at this)
  · obtain ⟨x, hx, rfl⟩ := List.mem_map.mp hp
    cases x <;> exact ⟨(fun z => nomatch z), (fun _ z => nomatch z)⟩
/-- sorted(s), s a set -/
theorem sorted_setG {Q : Value → Shared → Prop} (R : SetG w s.heap a ys) (hh : A.handled = none) (ev : evenK ys = true) (hu : A.units + 8 < cLine)
    (fin : ∀ (s' : Shared) p (out : List Value) (c : Nat), (∀ b o, s.heap.get? b = some o → s'.heap.get? b = some o) → s'.gens = s.gens → s'.os = s.os → s.heap.objs.size ≤ p →
      s'.heap.get? p = some (seqObj "list" out.toArray c) → PySem.W.EachIs (fun u y => RelV (kV y) u) out (isort leK ys) → Q (.ref p) s') :
    wpAny (model P w) A (call (.builtin "sorted") [.ref a]) Q E s := by
  obtain ⟨ob, rows, stamp, tab, ho, hex, hd, g, pm0, nd, hb, hf, hr, hl⟩ := R
  have hn : rows.size = ys.length := by rw [← pm0.length_eq, List.length_map, Array.length_toList]
  refine PyProof.Rows.call_function_entry_kw kind_sorted plain_sorted entry_sorted (args_sorted1 _) ?_
  unfold Builtin.«sorted»
  refine wpAny_bind (m := checkCount "sorted" 1 1 _) (wpAny_pure ?_)
  refine wpAny_bind (collect_set (A := A.in1) hh ⟨ob, ho, hex.1, hd⟩ hf hb hr hl fun s1 vs keep hsz g1 o1 pm => ?_)
  have hlv : vs.length = ys.length := by rw [pm.length_eq, List.length_map, Array.length_toList]; exact hn
  have hvs : ∀ u ∈ vs, ∃ y, keyIs y u = true := fun u hu => by
    obtain ⟨z, hz, rfl⟩ := List.mem_map.mp (pm.mem_iff.mp hu)
    obtain ⟨y, h1, _⟩ := g z hz
    exact ⟨y, h1⟩
  have eK := each_key_of hvs
  have pk : (vs.map fun u => keyAt (0, u)).Perm ys := by
    have q := pm.map fun u => keyAt (0, u)
    rw [List.map_map] at q
    refine q.trans ?_
    have : ((fun u => keyAt (0, u)) ∘ fun (x : Int × Value) => x.2) = keyAt := by
      funext z; obtain ⟨i, u⟩ := z; cases u <;> rfl
    rw [this]
    exact pm0
  have ev' : evenK (vs.map fun u => keyAt (0, u)) = true := by
    unfold evenK at ev ⊢
    rw [Bool.or_eq_true, List.all_eq_true, List.all_eq_true] at ev ⊢
    exact ev.imp (fun h x hx => h x (pk.mem_iff.mp hx)) (fun h x hx => h x (pk.mem_iff.mp hx))
  obtain ⟨al, so⟩ := even_alike ev'
  have hL : vs.length ≤ sizeLine := by
    rw [hlv, ← hn]; exact fits_of_scanBound hb
  refine wpAny_bind (wpAny_newList ?_ hL)
  have hoL : (s1.heap.push (seqObj "list" vs.toArray 0)).get? s1.heap.objs.size = some (seqObj "list" vs.toArray 0) := Heap.get?_push_size _ rfl
  have er : ∀ hp : Heap, PySem.W.EachIs (fun v b => ∃ as, Reads hp v (kP b) as) vs (vs.map fun u => keyAt (0, u)) := fun hp => each_imp (fun u y r => keyReads r) eK
  have S := PySem.W.SortsAt.data (prog := P) (w := w) (A := A.in1.in1) (s := { s1 with heap := PySem.W.sortingHeap (s1.heap.push (seqObj "list" vs.toArray 0)) s1.heap.objs.size vs }) (PySem.W.each_map (R := fun v d => ∃ as, Reads (PySem.W.sortingHeap (s1.heap.push (seqObj "list" vs.toArray 0)) s1.heap.objs.size vs) v d as) kP (er _)) al so
    (fun d hd => by
      obtain ⟨b, hb, rfl⟩ := List.mem_map.mp hd
      have e0 : (kP b).depth ≤ 1 := by cases b <;> simp [kP, PyData.depth]
      have e1 : A.in1.in1.units ≤ A.units + 2 := by first | exact Nat.le_refl _ | rfl | (show A.units + 1 + 1 ≤ A.units + 2; omega)
      omega)
  refine wpAny_bind (wpAny_holding (wpAny_call_entry_kw slot_list_sort ⟨_, hoL, rfl⟩ entry_list_sort ?body (args_list_sort _)))
  case body =>
    obtain ⟨ep, hat⟩ := sortedHeap_at (out := List.toArray (PySem.W.sortVals (PySem.W.dataKind (PySem.W.sortingHeap (s1.heap.push (seqObj "list" vs.toArray 0)) s1.heap.objs.size vs) ((vs.map fun u => keyAt (0, u)).map kP)) false vs vs)) hoL
    refine wpAny_mono (PySem.W.list_sort_vals (prog := P) (w := w) (A := A.in1.in1) (E := fun _ _ => False) (P := fun f s' => f = .done (.ret .none) ∧ Q (.ref s1.heap.objs.size) s') (s := { s1 with heap := s1.heap.push (seqObj "list" vs.toArray 0) }) hoL S hL
      ⟨rfl, fin _ s1.heap.objs.size _ ep (fun b o e => ?_) g1 o1 hsz hat ?_⟩) (fun f s' hf => ?_) fun _ _ x => x.elim
    · have q := keep b o e
      have hlt := Heap.lt_size q
      show (sortedHeap _ _ _ _).get? b = some o
      rw [sortedHeap_old (Nat.ne_of_lt hlt) (by rw [size_push']; exact Nat.lt_succ_of_lt hlt)]
      exact Heap.get?_push_of_some _ q
    · have q := PySem.W.sortVals_data (h' := PySem.W.sortingHeap (s1.heap.push (seqObj "list" vs.toArray 0)) s1.heap.objs.size vs) false eK (er _) al
      rw [show PySem.W.dataLe false kP = leK from rfl, isort_eq (fun a b c => leK_total.trans a b c) (fun a b => by have := leK_total.total a b; simpa using this)] at q
      rw [isort_perm (fun a b c => leK_total.trans a b c) (fun a b => by have := leK_total.total a b; simpa using this) pk (fun a ha b hb h1 h2 => leK_anti (evenK_two ev' a ha b hb) h1 h2)] at q
      exact q
    · obtain ⟨rfl, hq⟩ := hf
      exact ⟨_, rfl, wpAny_pure ⟨_, rfl, hq⟩⟩
end
end Det
/-! Det, part M: the rules of sorted(set(xs)), len(set(xs)). -/
namespace Det
open PySem PySem.Spec PyProof.Rows L2

def keyD : Key → D
  | .inl i => .int i
  | .inr x => .str x
def dKey : D → Option Key
  | .int i => some (.inl i)
  | .str x => some (.inr x)
  | _ => none
def keysOf : List D → Option (List Key)
  | [] => some []
  | d :: ds => match dKey d, keysOf ds with
    | some y, some ys => some (y :: ys)
    | _, _ => none
theorem keys_rel {K : PySem.W.Frag} {φ : List Addr} {H : Hp} : ∀ {ds : List D} {ys : List Key} {vs : List V}, keysOf ds = some ys → RelDs K φ H ds vs → vs = ys.map kV
  | [], ys, vs, e, r => by
    cases r
    cases e
    rfl
  | d :: ds, ys, vs, e, r => by
    cases r with
    | cons h t =>
      unfold keysOf at e
      split at e
      · rename_i y ys' h1 h2
        cases e
        rw [keys_rel h2 t]
        cases h with
        | int i => cases h1; rfl
        | str x => cases h1; rfl
        | _ => cases h1
      · cases e
theorem keyDs_rel {K : PySem.W.Frag} {φ : List Addr} {H : Hp} : ∀ ys : List Key, RelDs K φ H (ys.map keyD) (ys.map kV)
  | [] => .nil
  | .inl i :: ys => .cons (.int i) (keyDs_rel ys)
  | .inr x :: ys => .cons (.str x) (keyDs_rel ys)
theorem each_kvals : ∀ {us : List Value} {ys : List Key}, PySem.W.EachIs (fun u y => RelV (kV y) u) us ys → Vals (ys.map kV) us
  | _, _, .nil => .nil
  | _, _, .cons r t => .cons r (each_kvals t)
def setHO (w : World) (a : Addr) (ys : List Key) : HO := .ext fun h => SetG w h a ys
section
variable {X : Cx}
def rSetK (K : PySem.W.Frag) (w : World) : List V → Hp → VK → Prop := fun xs H Q => ∃ (p : Addr) (zs : List Key), xs = [.ref p] ∧ (SqL K H p (zs.map kV) ∨ SqT K H p (zs.map kV)) ∧ zs.length + 2 < scanBound ∧
  ∀ q, H q = none → Q (.ref q) (upd H q (setHO w q (addKs [] zs)))
theorem at_key {zs : List Key} {its : List Value} (r : Vals (zs.map kV) its) : ∀ (i : Nat) (v : Value), its.toArray[i]? = some v → ∃ y, zs[i]? = some y ∧ (mixKind X.prog X.w).is y v = true := fun i v hv => by
  have hv' : its[i]? = some v := by simpa using hv
  have hl := r.length
  rw [List.length_map] at hl
  have hi : i < zs.length := by rw [hl]; exact (List.getElem?_eq_some_iff.mp hv').1
  obtain ⟨u, h1, h2⟩ := r.get (i := i) (x := kV zs[i]) (by simp [hi])
  rw [hv'] at h1
  cases h1
  exact ⟨zs[i], by simp [hi], kV_is h2⟩
theorem c_setK (hc : X.calm = true) : CallR X (.type "set") (rSetK X.K X.w) := by
  rintro pins s σ H xs us Q I r ⟨p, zs, rfl, hs, room, q⟩
  obtain ⟨u, rfl, ru⟩ := Vals.one r
  cases ru
  have fin : ∀ (hp : Heap) (tk : Nat), SetG X.w hp s.heap.objs.size (addKs [] zs) → (∀ b o, s.heap.get? b = some o → hp.get? b = some o) → EP X pins σ Q (.ref s.heap.objs.size) { s with heap := hp, toks := tk } := fun hp tk R keep => by
    have R2 := R
    obtain ⟨ob, _, _, _, ho, _⟩ := R2
    have hfree : H s.heap.objs.size = none := I.hok.fresh (Nat.le_refl _)
    exact ⟨.ref _, _, I.laid (o := setHO X.w s.heap.objs.size (addKs [] zs)) keep (Nat.le_refl _) ⟨R, ⟨ob, ho⟩, fun h1 h2 p k => SetG.at p k⟩, rfl, q _ hfree⟩
  rcases hs with hs | hs
  · obtain ⟨its, rv, hl, _⟩ := I.list hs
    have hn := rv.length
    rw [List.length_map] at hn
    exact set_of_list (I.ok.hd hc) hl.isList (by rw [List.size_toArray]; exact hn) (at_key rv) room fin
  · obtain ⟨its, rv, ht, _⟩ := I.tuple hs
    have hn := rv.length
    rw [List.length_map] at hn
    exact set_of_tuple (I.ok.hd hc) ht (by rw [List.size_toArray]; exact hn) (at_key rv) room fin
def rSortG (w : World) : List V → Hp → VK → Prop := fun xs H Q => ∃ (p : Addr) (ys : List Key), xs = [.ref p] ∧ H p = some (setHO w p ys) ∧ evenK ys = true ∧ ∀ q, H q = none → Q (.ref q) (upd H q (.lst ((isort leK ys).map kV)))
theorem c_sortG (hc : X.calm = true) (hu : X.A.units + 64 < cLine) : CallR X (.builtin "sorted") (rSortG X.w) := by
  rintro pins s σ H xs us Q I r ⟨p, ys, rfl, hp, ev, q⟩
  obtain ⟨u, rfl, ru⟩ := Vals.one r
  cases ru
  have R : SetG X.w s.heap p ys := (I.hok p _ hp).1
  have R2 := R
  obtain ⟨ob, rows, stamp, tab, ho, hex, hd, g, pm0, nd, hb, hf, hr, hl⟩ := R2
  have hn : rows.size = ys.length := by rw [← pm0.length_eq, List.length_map, Array.length_toList]
  refine sorted_setG R (I.ok.hd hc) ev (by omega) fun s' pp out c keep g1 o1 le at1 eo => ?_
  have hfree : H pp = none := I.hok.fresh le
  have rv := each_kvals eo
  have lo := rv.length
  refine ⟨.ref pp, upd H pp (.lst ((isort leK ys).map kV)), I.call' (ch := []) o1 (Un.laid keep le hfree) (I.hok.laid keep le ⟨?_, out, c, rv, at1⟩) (by rw [g1]; exact I.bare) (fun _ z => nomatch z), rfl, q _ hfree⟩
  rw [List.length_map, (isort_perm_self ys).length_eq, ← hn]
  exact fits_of_scanBound hb
def rLenG (w : World) : List V → Hp → VK → Prop := fun xs H Q => ∃ (p : Addr) (ys : List Key), xs = [.ref p] ∧ H p = some (setHO w p ys) ∧ Q (.int (ys.length : Nat)) H
theorem c_lenG : CallR X (.builtin "len") (rLenG X.w) := by
  rintro pins s σ H xs us Q I r ⟨p, ys, rfl, hp, q⟩
  obtain ⟨u, rfl, ru⟩ := Vals.one r
  cases ru
  obtain ⟨ob, rows, stamp, tab, ho, hex, hd, g, pm0, nd, hb, hf, hr, hl⟩ : SetG X.w s.heap p ys := (I.hok p _ hp).1
  have hn : rows.size = ys.length := by rw [← pm0.length_eq, List.length_map, Array.length_toList]
  have hb2 : rows.size < 4096 := hb
  exact call_len_set ho hex hd hf (by omega) ⟨.int (ys.length : Nat), H, I.tok _, ⟨_, by rw [hn]⟩, q⟩
end
/-! ### as functions -/
def oSSet : Op1 := fun a mh => match itemsD mh a with
  | some ds => match keysOf ds with
    | some zs => if zs.length + 2 < 4096 ∧ evenK (addKs [] zs) = true then some (.ref mh.length, mh ++ [.lst ((isort leK (addKs [] zs)).map keyD)]) else none
    | none => none
  | none => none
def oLSet : Op1 := fun a mh => match itemsD mh a with
  | some ds => match keysOf ds with
    | some zs => if zs.length + 2 < 4096 then some (.int ((addKs [] zs).length : Nat), mh) else none
    | none => none
  | none => none
section
variable {X : Cx} {W : WX} {e : Expr} {f : ME} {p p2 q pos : Pos}
theorem se_sset (hc : X.calm = true) (hu : X.A.units + 64 < cLine) (hm : X.mg "sorted" = none) (hm2 : X.mg "set" = none) (he : SE X W e f) (hg : Gl X "sorted" := by rfl) (hg2 : Gl X "set" := by rfl)
    (h0 : starEach (e :: []) X.env = (false, eval e X.env) :: starEach [] X.env := by rfl) (h1 : starEach (.Call (.Name "set" p2) [e] [] q :: []) X.env = (false, eval (.Call (.Name "set" p2) [e] [] q) X.env) :: starEach [] X.env := by rfl) :
    SE X W (.Call (.Name "sorted" p) [.Call (.Name "set" p2) [e] [] q] [] pos) (un oSSet f) := by
  refine (pe_callB (c_sortG hc hu) hg hm boot_sorted (pa_cons (pe_callTy (c_setK hc) hg2 hm2 boot_set (pa_cons he pa_nil h0) (he := h0)) pa_nil h1) (he := h1)).imp ?_
  rintro σ H Q ⟨φ, env, mh, re, hh, pp⟩
  refine ⟨φ, env, mh, re, hh, post_mono (Px.refl φ) (Kp.refl H) (post_bind (R1 := RelD X.K) pp) ?_⟩
  rintro x H1 ⟨φ1, d, mh1, p1, k1, hh1, r1, qq⟩
  have q2 := post_ofO qq
  unfold oSSet at q2
  cases hi : itemsD mh1 d with
  | none => rw [hi] at q2; exact q2.elim
  | some ds =>
    rw [hi] at q2
    simp only at q2
    cases hk : keysOf ds with
    | none => rw [hk] at q2; exact q2.elim
    | some zs =>
      rw [hk] at q2
      simp only at q2
      by_cases hz : zs.length + 2 < 4096 ∧ evenK (addKs [] zs) = true
      · rw [if_pos hz] at q2
        obtain ⟨pa, vs, rfl, hs, rs⟩ := seq_of hh1 r1 hi
        have ev := keys_rel hk rs
        subst ev
        refine ⟨pa, zs, rfl, hs, hz.1, fun a ha => ?_⟩
        refine ⟨a, addKs [] zs, rfl, upd_same, hz.2, fun b hb => ?_⟩
        have hh2 : HR X.K φ1 mh1 (upd H1 a (setHO X.w a (addKs [] zs))) := hh1.grow ha
        exact postO_new hh2 (fun φ' v H' p' k' => q2 φ' v H' p' ((Kp.new ha).trans k')) (keyDs_rel _) hb
      · rw [if_neg hz] at q2; exact q2.elim
theorem se_lset (hc : X.calm = true) (hm : X.mg "len" = none) (hm2 : X.mg "set" = none) (he : SE X W e f) (hg : Gl X "len" := by rfl) (hg2 : Gl X "set" := by rfl)
    (h0 : starEach (e :: []) X.env = (false, eval e X.env) :: starEach [] X.env := by rfl) (h1 : starEach (.Call (.Name "set" p2) [e] [] q :: []) X.env = (false, eval (.Call (.Name "set" p2) [e] [] q) X.env) :: starEach [] X.env := by rfl) :
    SE X W (.Call (.Name "len" p) [.Call (.Name "set" p2) [e] [] q] [] pos) (un oLSet f) := by
  refine (pe_callB c_lenG hg hm boot_len (pa_cons (pe_callTy (c_setK hc) hg2 hm2 boot_set (pa_cons he pa_nil h0) (he := h0)) pa_nil h1) (he := h1)).imp ?_
  rintro σ H Q ⟨φ, env, mh, re, hh, pp⟩
  refine ⟨φ, env, mh, re, hh, post_mono (Px.refl φ) (Kp.refl H) (post_bind (R1 := RelD X.K) pp) ?_⟩
  rintro x H1 ⟨φ1, d, mh1, p1, k1, hh1, r1, qq⟩
  have q2 := post_ofO qq
  unfold oLSet at q2
  cases hi : itemsD mh1 d with
  | none => rw [hi] at q2; exact q2.elim
  | some ds =>
    rw [hi] at q2
    simp only at q2
    cases hk : keysOf ds with
    | none => rw [hk] at q2; exact q2.elim
    | some zs =>
      rw [hk] at q2
      simp only at q2
      by_cases hz : zs.length + 2 < 4096
      · rw [if_pos hz] at q2
        obtain ⟨pa, vs, rfl, hs, rs⟩ := seq_of hh1 r1 hi
        have ev := keys_rel hk rs
        subst ev
        refine ⟨pa, zs, rfl, hs, hz, fun a ha => ?_⟩
        refine ⟨a, addKs [] zs, rfl, upd_same, ?_⟩
        have hh2 : HR X.K φ1 mh1 (upd H1 a (setHO X.w a (addKs [] zs))) := hh1.grow ha
        exact q2 φ1 _ _ (Px.refl φ1) (Kp.new ha) hh2 (.int _)
      · rw [if_neg hz] at q2; exact q2.elim
end
end Det
/-! Det, part N: enumerate(list or tuple). -/
namespace Det
open PySem PySem.Spec PyProof.Rows L2

theorem new_enum_tup (t : Addr) (its : Array Value) (n : Nat) (dc : Option Addr) (sl : Array (Option Value)) :
    Meets (Builtin.«enumerate.__new__» ⟨[.type "enumerate", .ref t], []⟩) (fun _ R s => s.heap.get? t = some { cls := .type "tuple", dict := dc, data := .seq its n, slots := sl } ∧
      R (.ok (.ret (.ref (s.heap.push { cls := .type "tuple_iterator", data := .fields #[.ref t, .int 0 0] }).objs.size)))
        { s with heap := (s.heap.push { cls := .type "tuple_iterator", data := .fields #[.ref t, .int 0 0] }).push { cls := .type "enumerate", data := .fields #[.none, .bool false, .ref s.heap.objs.size, rawInt 0, .none, .none] } }) :=
  .of_wp fun prog w A R s h => by
    obtain ⟨hp, gn, dr, tk, os⟩ := s; obtain ⟨ht, h⟩ := h
    have hsb := PySem.sub_enumerate
    have hT : Heap.IsTuple (Shared.heap ⟨hp, gn, dr, tk, os⟩) t its := ⟨_, ht, rfl, n, rfl⟩
    wp_walk using PySem.AutoSeq1.wpAny_loadPart' ht
    refine wpAny_stack_any fun st => wpAny_pure ?_
    split
    · rename_i c _ _ _ _ _
      cases (c == Value.type "enumerate")
      · wp_walk using PySem.AutoSeq1.wpAny_loadPart' ht, wpAny_pyIter_tuple hT
        exact ⟨_, rfl, h⟩
      · wp_walk using PySem.AutoSeq1.wpAny_loadPart' ht, wpAny_pyIter_tuple hT
        exact ⟨_, rfl, h⟩
    · wp_walk using PySem.AutoSeq1.wpAny_loadPart' ht, wpAny_pyIter_tuple hT
      exact ⟨_, rfl, h⟩
section
variable {prog : Program} {w : World} {A : Around} {E : Value → Shared → Prop} {s : Shared}
theorem make_enum_tup {t : Addr} {its : Array Value} {Q : Value → Shared → Prop} (hT : s.heap.IsTuple t its)
    (fin : ∀ h', IsEnum h' (s.heap.objs.size + 1) s.heap.objs.size 0 .none → h'.IsTupleIter s.heap.objs.size t 0 → h'.objs.size = s.heap.objs.size + 2 →
      (∀ b o, s.heap.get? b = some o → h'.get? b = some o) → Q (.ref (s.heap.objs.size + 1)) { s with heap := h' }) :
    wpAny (model prog w) A (call (.type "enumerate") [.ref t]) Q E s := by
  obtain ⟨⟨c, dc, dt, sl⟩, ht, hc, n, hd⟩ := hT
  replace hc : c = .type "tuple" := hc
  replace hd : dt = .seq its n := hd
  subst hc; subst hd
  refine callType_new PySem.F.called_enumerate (by decide) (PySem.F.typeCall_enumerate_1 _) (PySem.F.newCall_enumerate_1 _) (fun obj => PySem.F.args_object_init_2 obj _) PySem.F.entry_enumerate_new
    (new_enum_tup t its n dc sl) ⟨ht, ?_⟩
  have z1 : (s.heap.push { cls := .type "tuple_iterator", data := .fields #[.ref t, .int 0 0] }).objs.size = s.heap.objs.size + 1 := Heap.size_push ..
  show _ ∧ _
  rw [z1]
  have he : IsEnum ((s.heap.push { cls := .type "tuple_iterator", data := .fields #[.ref t, .int 0 0] }).push
      { cls := .type "enumerate", data := .fields #[.none, .bool false, .ref s.heap.objs.size, rawInt 0, .none, .none] }) (s.heap.objs.size + 1) s.heap.objs.size 0 .none := by
    have q := Heap.get?_push_size (s.heap.push { cls := .type "tuple_iterator", data := .fields #[.ref t, .int 0 0] })
      (o := { cls := .type "enumerate", data := .fields #[.none, .bool false, .ref s.heap.objs.size, rawInt 0, .none, .none] }) rfl
    rw [z1] at q; exact q
  refine ⟨⟨_, he, rfl⟩, fin _ he ⟨_, Heap.get?_push_of_some _ (Heap.get?_push_size _ rfl), rfl, rfl⟩ (by rw [Heap.size_push, z1]) fun b o x => Heap.get?_push_of_some _ (Heap.get?_push_of_some _ x)⟩
end
/-- the tuple at a, each item in a new pair -/
def ItEt (K : PySem.W.Frag) (a : Addr) : It :=
  ⟨fun i H => ∃ (xs : List V) (x : V), SqT K H a xs ∧ xs[i]? = some x, fun i H v H' => ∃ T x, v = .ref T ∧ H T = none ∧ H' = upd H T (.tup [.int (i : Nat), x]) ∧ ∀ xs, SqT K H a xs → xs[i]? = some x, fun i H => ∃ xs : List V, SqT K H a xs ∧ xs.length ≤ i⟩
theorem turn_enumT {P : Program} {w : World} {K : PySem.W.Frag} {elts : List Expr} {kk : Nat} {tpos : Pos} (a e it : Addr) :
    Turn P w K (.Tuple elts kk tpos) (ItEt K a) [e, it] e (fun i h => (∃ old, IsEnum h e it ((i : Nat) : Int) old) ∧ h.IsTupleIter it a i ∧ e ≠ it ∧ a ≠ it ∧ a ≠ e) where
  mem := by simp
  obj := fun i h st b hb => by
    obtain ⟨⟨old, he⟩, ⟨o, ho, hc, hd⟩, _⟩ := st
    have hbe : b = e ∨ b = it := by simpa using hb
    rcases hbe with z | z
    · rw [z]; exact ⟨_, he, fun v q => nomatch q⟩
    · rw [z]; exact ⟨o, ho, fun v q => by rw [hd] at q; cases q⟩
  keep := fun i h h' st k => let ⟨⟨old, he⟩, ⟨o, ho, r⟩, hne⟩ := st; ⟨⟨old, k e (by simp) _ he⟩, ⟨o, k it (by simp) o ho, r⟩, hne⟩
  item := by
    intro X hP hw hK hc i pins s σ H E I hf st hg
    subst hP; subst hw; subst hK
    obtain ⟨⟨old, he⟩, hit, hne, na1, na2⟩ := st
    obtain ⟨xs, x, hq, hx⟩ := hg
    obtain ⟨its, rv, p, hz⟩ := I.tuple hq
    obtain ⟨u, hu, ru⟩ := rv.get hx
    have pT : s.heap.IsTuple a its.toArray := p
    have hel : e < s.heap.objs.size := Heap.lt_size he
    have hil : it < s.heap.objs.size := by obtain ⟨_, q, _⟩ := hit; exact Heap.lt_size q
    have hlt : i < its.toArray.size := by
      have := (List.getElem?_eq_some_iff.mp hu).1
      simpa using this
    have hnd : X.A.in1.handled = none := by have := I.ok.hd hc; simpa using this
    refine wpAny_pyNext_enum_itemD (Draws.tuple hnd it a na1 its.toArray) he ⟨hit, pT⟩ hlt hne (by simp only [List.mem_cons, List.not_mem_nil, or_false, not_or]; exact ⟨hne, na2.symm⟩) fun u' h' tk hu' ho hst' hT hsz hk => ?_
    have eu : u' = u := by
      rw [show its.toArray[i]? = its[i]? by simp, hu] at hu'
      exact (Option.some.inj hu').symm
    subst eu
    refine ⟨_, rfl, wpAny_letOwnedTupleGo_enum (s := { s with heap := h', toks := tk + 1 }) ho fun h'' he' sb => ?_⟩
    have hT2 : h''.get? s.heap.objs.size = some { cls := .type "tuple", data := .seq #[.int i tk, u'] } := (sb.2 _ (Nat.ne_of_gt hel)).trans hT
    have new : ObjOk X.prog X.w (upd H s.heap.objs.size (.tup [.int (i : Nat), x])) h'' s.heap.objs.size (.tup [.int (i : Nat), x]) :=
      ⟨by show 2 ≤ sizeLine; decide, [.int i tk, u'], .cons ⟨_, rfl⟩ (.cons ru .nil), ⟨_, hT2, rfl, _, rfl⟩⟩
    have I1 : Inv X pins σ (upd H s.heap.objs.size (.tup [.int (i : Nat), x])) { s with heap := h'', toks := tk + 1 } :=
      I.turnedNew (ch := [e, it]) (fun b ob hb q => (sb.2 b (fun z => hb (by simp [z]))).trans (hk b ob (fun z => hb (by simp [z])) (fun z => hb (by simp [z])) q)) hf (Nat.le_refl _) new
    refine ⟨.ref s.heap.objs.size, _, I1, rfl, ⟨_, x, rfl, I.hok.fresh (Nat.le_refl _), rfl, fun ys hy => by rw [I.tuple_inj hy hq]; exact hx⟩, ⟨⟨u', ?_⟩, ?_, hne, na1, na2⟩, fun b hb => ?_⟩
    · have e1 : ((i + 1 : Nat) : Int) = (i : Int) + 1 := by omega
      rw [e1]; exact he'
    · obtain ⟨o, h1, r⟩ := hst'.1
      exact ⟨o, (sb.2 it (Ne.symm hne)).trans h1, r⟩
    · have hb' : b < s.heap.objs.size := by
        have hbe : b = e ∨ b = it := by simpa using hb
        rcases hbe with z | z
        · rw [z]; exact hel
        · rw [z]; exact hil
      rw [upd_ne (Nat.ne_of_lt hb')]
      exact (hf b hb).1
  done := by
    intro X hP hw hK hc i pins s σ H E I hf st hg
    subst hP; subst hw; subst hK
    obtain ⟨⟨old, he⟩, hit, hne, na1, na2⟩ := st
    obtain ⟨xs, hq, hx⟩ := hg
    obtain ⟨its, rv, p, hz⟩ := I.tuple hq
    have pT : s.heap.IsTuple a its.toArray := p
    obtain ⟨f0, f1, f2, f3, f4, f5⟩ := hf it (by simp)
    have hl := rv.length
    have hnd : X.A.in1.handled = none := by have := I.ok.hd hc; simpa using this
    unfold pyNext
    have hTy : s.TypeIs (.ref e) "enumerate" := ⟨_, he, rfl⟩
    refine wpAny_bind (wpAny_attempt (wpAny_callSpecial?_slot (name := Str.ofString "__next__") hTy PySem.F.slot_enumerate_next
      (wpAny_call_entry PySem.F.slot_enumerate_next hTy PySem.F.entry_enumerate_next ?_ (PySem.F.args_enumerate_next_1 _))))
    show wpAny _ _ (field (.ref e) 2 >>= _) _ _ _
    refine wpAny_bind (wpAny_field he rfl (x := .ref it) rfl ?_)
    refine wpAny_bind (wpAny_nextOf_tuple_end hnd hit pT (by simp; omega) fun h' x eb hx' => ?_)
    obtain ⟨o, ho, hc'⟩ := hx'
    refine wpAny_bind (wpAny_isInstance (T := "StopIteration") (b := true) ⟨o, ho, hc'⟩ PySem.isSubtype_stop ?_)
    exact wpAny_pure ⟨rfl, I.turned (t' := s.toks) (fun b o hb q => eb b o hb q) f0 f1 f3 f4 f5⟩
  self := fun A i s Q E st h => let ⟨⟨_, he⟩, _⟩ := st; wpAny_pyIter_enum he h
def iEnumA (K : PySem.W.Frag) (ta : TA) : TI := fun σ H R => ta σ H fun vs H1 => ∃ a xs, vs = [.ref a] ∧ (SqL K H1 a xs ∧ R (Ite K a) H1 ∨ SqT K H1 a xs ∧ R (ItEt K a) H1)
theorem pi_enumA {X : Cx} {e : Expr} {ta : TA} {p pos tpos : Pos} {elts : List Expr} {kk : Nat} (hg : Gl X "enumerate") (hm : X.mg "enumerate" = none) (ha : PA X [e] ta) (hs : starEach [e] X.env = [(false, eval e X.env)] := by rfl) :
    PI X (.Tuple elts kk tpos) (.Call (.Name "enumerate" p) [e] [] pos) (iEnumA X.K ta) := by
  refine ⟨fun pins s σ H R I h => ?_⟩
  refine Call_ (ld_blt I hg hm boot_enumerate (PyProof.Rows.callWith_type1 (thn (ha.run pos pins s σ H _ I h) fun us s1 ⟨vs, H1, I1, r1, q1⟩ => ?_) hs rfl))
  obtain ⟨a, xs, ex, q1⟩ := q1
  subst ex
  obtain ⟨u, rfl, ru⟩ := Vals.one r1
  cases ru
  have fpk : ∀ b ∈ [s1.heap.objs.size + 1, s1.heap.objs.size], FpOk X pins H1 b := fun b hb => by
    have hbe : b = s1.heap.objs.size + 1 ∨ b = s1.heap.objs.size := by simpa using hb
    have hle : s1.heap.objs.size ≤ b := by
      rcases hbe with z | z
      · rw [z]; exact Nat.le_add_right _ _
      · rw [z]; exact Nat.le_refl _
    exact I1.fpOk hle (I1.hok.fresh hle)
  rcases q1 with ⟨hq, q⟩ | ⟨hq, q⟩
  · obtain ⟨its, rv, p', hz⟩ := I1.list hq
    exact call_enumerate_list p'.isList fun h' he hit hsz hk => wpAny_pyIter_enum he
      ⟨s1.heap.objs.size + 1, _, _, _, H1, rfl, I1.kept (t' := s1.toks) hk, turn_enum a (s1.heap.objs.size + 1) s1.heap.objs.size, ⟨⟨.none, he⟩, hit, Nat.succ_ne_self _⟩, fpk, q⟩
  · obtain ⟨its, rv, p', hz⟩ := I1.tuple hq
    have pT : s1.heap.IsTuple a its.toArray := p'
    have hal : a < s1.heap.objs.size := by obtain ⟨_, q, _⟩ := pT; exact Heap.lt_size q
    exact make_enum_tup pT fun h' he hit hsz hk => wpAny_pyIter_enum he
      ⟨s1.heap.objs.size + 1, _, _, _, H1, rfl, I1.kept (t' := s1.toks) hk, turn_enumT a (s1.heap.objs.size + 1) s1.heap.objs.size, ⟨⟨.none, he⟩, hit, Nat.succ_ne_self _, Nat.ne_of_lt hal, Nat.ne_of_lt (Nat.lt_succ_of_lt hal)⟩, fpk, q⟩
end Det
/-! Det, part O: enumerate as a function. -/
namespace Det
open PySem PySem.Spec PyProof.Rows L2

def enF : Nat → List D → List D
  | _, [] => []
  | i, d :: ds => .tup [.int (i : Nat), d] :: enF (i + 1) ds
theorem enF_get : ∀ (ds : List D) (k i : Nat), (enF k ds)[i]? = ds[i]?.map fun d => .tup [.int ((k + i : Nat) : Nat), d]
  | [], k, i => by simp [enF]
  | d :: ds, k, 0 => by simp [enF]
  | d :: ds, k, i + 1 => by
    have := enF_get ds (k + 1) i
    simp only [enF, List.getElem?_cons_succ, this]
    congr 1
    funext d
    rw [show k + 1 + i = k + (i + 1) by omega]
theorem enF_len : ∀ (ds : List D) (k : Nat), (enF k ds).length = ds.length
  | [], k => rfl
  | d :: ds, k => by simp [enF, enF_len ds]
def enm (f : ME) : MI := fun env mh => (f env mh).bind fun d mh1 => match d with
  | .tup xs => .ok ⟨enF 0 xs, fun _ => true⟩ mh1
  | .rol xs => .ok ⟨enF 0 xs, fun _ => true⟩ mh1
  | .ref n => match mh1[n]? with
    | some (.lst xs) => .ok ⟨enF 0 xs, lstIs n xs⟩ mh1
    | _ => .no
  | _ => .no
section
variable {X : Cx} {W : WX}
theorem yl_tup {φ : List Addr} {mh : MH} {H : Hp} {T : Addr} {ds : List D} {vs : List V} (hh : HR X.K φ mh H) (hT : H T = none) (r : RelDs X.K φ H ds vs) : Kp H (upd H T (.tup vs)) ∧ HR X.K φ mh (upd H T (.tup vs)) ∧ RelD X.K φ (upd H T (.tup vs)) (.tup ds) (.ref T) :=
  ⟨Kp.new hT, hh.grow hT, .tup (SqT.of upd_same) (r.mono (Px.refl φ) (Kp.new hT))⟩
theorem itOk_enL {φ : List Addr} {H : Hp} {a : Addr} {xs : List D} {ck : MH → Bool}
    (h : ∀ φ' mh' H', Px φ φ' → Kp H H' → HR X.K φ' mh' H' → ck mh' = true → ∃ vs : List V, RelDs X.K φ' H' xs vs ∧ SqL X.K H' a vs) : ItOk X.K φ H ⟨enF 0 xs, ck⟩ (Ite X.K a) := by
  intro i φ' mh' H' p k hh hc
  obtain ⟨vs, rs, hs⟩ := h φ' mh' H' p k hh hc
  refine ⟨fun d hd => ?_, fun hl => ⟨vs, hs, ?_⟩⟩
  · rw [enF_get] at hd
    cases hx : xs[i]? with
    | none => rw [hx] at hd; cases hd
    | some d0 =>
      rw [hx] at hd
      cases hd
      obtain ⟨v, hv, rv⟩ := rs.get hx
      refine ⟨⟨vs, v, hs, hv⟩, ?_⟩
      rintro x H2 ⟨T, y, rfl, hT, rfl, hy⟩
      have := hy vs hs
      rw [hv] at this
      cases this
      exact yl_tup hh hT (.cons (by rw [Nat.zero_add]; exact .int _) (.cons rv .nil))
  · have : (enF 0 xs).length ≤ i := hl
    rw [enF_len] at this
    rw [← rs.length]; exact this
theorem itOk_enT {φ : List Addr} {H : Hp} {a : Addr} {xs : List D} {ck : MH → Bool}
    (h : ∀ φ' mh' H', Px φ φ' → Kp H H' → HR X.K φ' mh' H' → ck mh' = true → ∃ vs : List V, RelDs X.K φ' H' xs vs ∧ SqT X.K H' a vs) : ItOk X.K φ H ⟨enF 0 xs, ck⟩ (ItEt X.K a) := by
  intro i φ' mh' H' p k hh hc
  obtain ⟨vs, rs, hs⟩ := h φ' mh' H' p k hh hc
  refine ⟨fun d hd => ?_, fun hl => ⟨vs, hs, ?_⟩⟩
  · rw [enF_get] at hd
    cases hx : xs[i]? with
    | none => rw [hx] at hd; cases hd
    | some d0 =>
      rw [hx] at hd
      cases hd
      obtain ⟨v, hv, rv⟩ := rs.get hx
      refine ⟨⟨vs, v, hs, hv⟩, ?_⟩
      rintro x H2 ⟨T, y, rfl, hT, rfl, hy⟩
      have := hy vs hs
      rw [hv] at this
      cases this
      exact yl_tup hh hT (.cons (by rw [Nat.zero_add]; exact .int _) (.cons rv .nil))
  · have : (enF 0 xs).length ≤ i := hl
    rw [enF_len] at this
    rw [← rs.length]; exact this
theorem si_enum {e : Expr} {f : ME} {p pos tpos : Pos} {elts : List Expr} {kk : Nat} (hm : X.mg "enumerate" = none) (he : SE X W e f) (hg : Gl X "enumerate" := by rfl) (hs : starEach [e] X.env = [(false, eval e X.env)] := by rfl) (hst : starEach (e :: []) X.env = (false, eval e X.env) :: starEach [] X.env := by rfl) :
    SI X W (.Tuple elts kk tpos) (.Call (.Name "enumerate" p) [e] [] pos) (enm f) := (pi_enumA hg hm (pa_cons he pa_nil hst) hs).imp (by
  rintro σ H R ⟨φ, env, mh, re, hh, p⟩
  refine ⟨φ, env, mh, re, hh, post_mono (Px.refl φ) (Kp.refl H) (post_bind (R1 := RelD X.K) p) ?_⟩
  rintro x H1 ⟨φ1, d, mh1, p1, k1, h1, r1, q⟩
  cases r1 with
  | tup hs rs =>
    rename_i a xs vs
    exact ⟨a, vs, rfl, .inr ⟨hs, q φ1 _ H1 (Px.refl φ1) (Kp.refl H1) h1 (itOk_enT fun φ' mh' H' p' k' _ _ => ⟨vs, rs.mono p' k', k'.seqT hs⟩)⟩⟩
  | rol hs rs =>
    rename_i a xs vs
    exact ⟨a, vs, rfl, .inl ⟨hs.seq, q φ1 _ H1 (Px.refl φ1) (Kp.refl H1) h1 (itOk_enL fun φ' mh' H' p' k' _ _ => ⟨vs, rs.mono p' k', (k'.roL hs).seq⟩)⟩⟩
  | ref hn =>
    rename_i n a
    try simp only at q
    split at q
    · rename_i xs hx
      obtain ⟨vs, e1, rs⟩ := h1.lst hn hx
      refine ⟨a, vs, rfl, .inl ⟨SqL.of e1, q φ1 _ H1 (Px.refl φ1) (Kp.refl H1) h1 (itOk_enL fun φ' mh' H' p' k' hh' hc => ?_)⟩⟩
      have hc' : lstIs n xs mh' = true := hc
      unfold lstIs at hc'
      split at hc'
      · rename_i ys hy
        have ey : ys = xs := of_decide_eq_true hc'
        subst ey
        obtain ⟨ws, e2, rs2⟩ := hh'.lst (p'.get hn) hy
        exact ⟨ws, rs2, SqL.of e2⟩
      · cases hc'
    · exact q.elim
  | _ => exact q.elim)
end
end Det
/-! Det, part P: tuple * int, any count. -/
namespace Det
open PySem PySem.Spec PyProof.Rows L2
theorem tup_mul_same (l : Addr) (its : Array Value) (n : Nat) (dd : Option Addr) (sl : Array (Option Value)) (x : Int) (u : Tok) (c0 : (decide (x < -(2 ^ 63)) || decide (x ≥ 2 ^ 63)) = false) (c1 : (its.isEmpty || x == 1) = true) :
    Meets (Builtin.«tuple.__mul__» ⟨[.ref l, .int x u], []⟩) (fun _ R s => s.heap.get? l = some { cls := .type "tuple", dict := dd, data := .seq its n, slots := sl } ∧ R (.ok (.ret (Value.ref l))) s) :=
  .of_wp fun prog w A R s h => by
    obtain ⟨hp, gn, dr, tk, os⟩ := s
    obtain ⟨hl, h⟩ := h
    have f1 := AutoSeq1.idx_int
    wp_walk using wpAny_loadPart' hl
    repeat (first
      | (refine wpAny_ite_false (decide_eq_false (by rw [c0]; exact Bool.false_ne_true)) ?_; wp_walk using wpAny_loadPart' hl)
      | (refine wpAny_ite_true (decide_eq_true c1) ?_; wp_walk using wpAny_loadPart' hl))
    exact ⟨_, rfl, h⟩
theorem tup_mul_none (l : Addr) (its : Array Value) (n : Nat) (dd : Option Addr) (sl : Array (Option Value)) (x : Int) (u : Tok) (c0 : (decide (x < -(2 ^ 63)) || decide (x ≥ 2 ^ 63)) = false) (c1 : (its.isEmpty || x == 1) = false) (c2 : (decide (x ≤ 0) || its.isEmpty) = true) :
    Meets (Builtin.«tuple.__mul__» ⟨[.ref l, .int x u], []⟩) (fun _ R s => s.heap.get? l = some { cls := .type "tuple", dict := dd, data := .seq its n, slots := sl } ∧
      R (.ok (.ret (Value.ref s.heap.objs.size))) { s with heap := s.heap.push { cls := Value.type "tuple", data := Data.seq #[] }, toks := s.toks }) :=
  .of_wp fun prog w A R s h => by
    obtain ⟨hp, gn, dr, tk, os⟩ := s
    obtain ⟨hl, h⟩ := h
    have f1 := AutoSeq1.idx_int
    wp_walk using wpAny_loadPart' hl
    repeat (first
      | (refine wpAny_ite_false (decide_eq_false (by rw [c0]; exact Bool.false_ne_true)) ?_; wp_walk using wpAny_loadPart' hl)
      | (refine wpAny_ite_false (decide_eq_false (by rw [c1]; exact Bool.false_ne_true)) ?_; wp_walk using wpAny_loadPart' hl)
      | (refine wpAny_ite_true (decide_eq_true c2) ?_; wp_walk using wpAny_loadPart' hl))
    exact ⟨_, rfl, h⟩

def rRepTA (K : PySem.W.Frag) : R2 := fun x y H Q => ∃ l k xs, x = .ref l ∧ y = .int k ∧ SqT K H l xs ∧ -1000000 ≤ k ∧ k ≤ 1000 ∧ xs.length ≤ 1000 ∧
  (((List.replicate k.toNat xs).flatten = xs → Q (.ref l) H) ∧ ∀ p, H p = none → Q (.ref p) (upd H p (.tup (List.replicate k.toNat xs).flatten)))
section
variable {X : Cx}
theorem op_repTA : OpR X (binaryOp .Mult) (rRepTA X.K) := by
  intro pins s σ H x y v u Q I rx ry h
  obtain ⟨l, k, xs, rfl, rfl, hT, lo, hi, hz, q0, q1⟩ := h
  by_cases c : xs ≠ [] ∧ 2 ≤ k
  · exact op_repT pins s σ H _ _ v u Q I rx ry ⟨l, k, xs, rfl, rfl, hT, c.1, c.2, hi, hz, q1⟩
  · cases rx
    obtain ⟨t, rfl⟩ := ry
    obtain ⟨its, r, ⟨⟨cls, dd, data, sl⟩, ho, hc, n, hd⟩, hs⟩ := I.tuple hT
    simp only at hc hd
    subst hc; subst hd
    have hle : its.length = xs.length := r.length.symm
    have c0 : (decide (k < -(2 ^ 63)) || decide (k ≥ 2 ^ 63)) = false := by
      rw [decide_eq_false (by omega), decide_eq_false (by omega)] <;> rfl
    have em : its.toArray.isEmpty = xs.isEmpty := by cases its <;> cases xs <;> simp_all
    by_cases c1 : xs = [] ∨ k = 1
    · have c1' : (its.toArray.isEmpty || k == 1) = true := by
        rw [em]
        rcases c1 with h | h
        · rw [h]; rfl
        · rw [h]; simp
      have same : (List.replicate k.toNat xs).flatten = xs := by
        rcases c1 with h | h
        · rw [h]; induction k.toNat with
          | zero => rfl
          | succ m ih => rw [List.replicate_succ, List.flatten_cons, ih]; rfl
        · rw [h]; simp
      refine wpAny_binaryOp_repeat_ref (T := "tuple") (U := "int") (by decide) ⟨_, ho, rfl⟩ (fun s' => typeIs_int s' k t) noFill_tuple_mul PySem.F.fills_int_mul PySem.F.slot_int_rmul repeat_tuple PySem.F.slot_int_index.lookup
        (call_meets PySem.F.slot_int_rmul (typeIs_int s k t) PySem.F.entry_int_rmul (PySem.F.args_int_rmul_2 _ _) (int_rmul_tuple k t l its.toArray n dd sl)
          ⟨ho, rfl, ⟨_, ho, rfl⟩, call_meets PySem.F.slot_tuple_mul ⟨_, ho, rfl⟩ PySem.F.entry_tuple_mul (PySem.F.args_tuple_mul_2 _ _) (tup_mul_same l its.toArray n dd sl k t c0 c1') ⟨ho, ?_⟩⟩)
      exact ⟨.ref l, H, I, rfl, q0 same⟩
    · have hk : k ≤ 0 := by
        have h1 : xs ≠ [] := fun z => c1 (.inl z)
        have h2 : k ≠ 1 := fun z => c1 (.inr z)
        have h3 : ¬ 2 ≤ k := fun z => c ⟨h1, z⟩
        omega
      have c1' : (its.toArray.isEmpty || k == 1) = false := by
        rw [em]
        have : xs.isEmpty = false := by
          cases xs with
          | nil => exact absurd (Or.inl rfl) c1
          | cons _ _ => rfl
        rw [this, Bool.false_or]
        exact beq_eq_false_iff_ne.mpr fun z => c1 (.inr z)
      have c2 : (decide (k ≤ 0) || its.toArray.isEmpty) = true := by rw [decide_eq_true hk]; rfl
      have e0 : (List.replicate k.toNat xs).flatten = [] := by
        rw [show k.toNat = 0 by omega]; rfl
      rw [e0] at q1
      refine wpAny_binaryOp_repeat_ref (T := "tuple") (U := "int") (by decide) ⟨_, ho, rfl⟩ (fun s' => typeIs_int s' k t) noFill_tuple_mul PySem.F.fills_int_mul PySem.F.slot_int_rmul repeat_tuple PySem.F.slot_int_index.lookup
        (call_meets PySem.F.slot_int_rmul (typeIs_int s k t) PySem.F.entry_int_rmul (PySem.F.args_int_rmul_2 _ _) (int_rmul_tuple k t l its.toArray n dd sl)
          ⟨ho, rfl, ⟨_, ho, rfl⟩, call_meets PySem.F.slot_tuple_mul ⟨_, ho, rfl⟩ PySem.F.entry_tuple_mul (PySem.F.args_tuple_mul_2 _ _) (tup_mul_none l its.toArray n dd sl k t c0 c1' c2) ⟨ho, ?_⟩⟩)
      refine ⟨.ref s.heap.objs.size, _, I.laid (t' := s.toks) (o := .tup []) (fun b ob q => Heap.get?_push_of_some _ q) (Nat.le_refl _) ?_, rfl, q1 _ (I.hok.fresh (Nat.le_refl _))⟩
      exact ⟨Nat.zero_le _, [], .nil, IsTup.new _ _⟩
end
/-- x * k for a text -/
def repS (k : Nat) (x : Str) : Str := ⟨(List.replicate k x.cps.toList).flatten.toArray⟩
def oMulX : Op2 := fun a b mh => match a, b with
  | .int i, .int j => if ((-(2 ^ 64) < i ∧ i < 2 ^ 64) ∨ (-(2 ^ 64) < j ∧ j < 2 ^ 64)) ∨ i.natAbs.log2 + j.natAbs.log2 < 1000000 then some (.int (i * j), mh) else none
  | .tup xs, .int k => if -1000000 ≤ k ∧ k ≤ 1000 ∧ xs.length ≤ 1000 then some (.tup (List.replicate k.toNat xs).flatten, mh) else none
  | .str x, .int k => if -1000000 ≤ k ∧ k ≤ 1000000 ∧ x.length * k.toNat ≤ 1000000 then some (.str (repS k.toNat x), mh) else none
  | .ref m, .int k => match mh[m]? with
    | some (.lst xs) => if -(2 ^ 63) ≤ k ∧ k < 2 ^ 63 ∧ xs.length * k.toNat ≤ sizeLine then some (.ref mh.length, mh ++ [.lst (List.replicate k.toNat xs).flatten]) else none
    | _ => none
  | _, _ => none
theorem foldl_repS (x : Array Nat) (k : Nat) : List.foldl (fun a b => a ++ b) #[] (List.replicate k x) = (List.replicate k x.toList).flatten.toArray := by
  have go : ∀ (k : Nat) (acc : Array Nat), List.foldl (fun a b => a ++ b) acc (List.replicate k x) = acc ++ (List.replicate k x.toList).flatten.toArray := by
    intro k
    induction k with
    | zero => intro acc; simp
    | succ k ih => intro acc; rw [List.replicate_succ, List.foldl_cons, ih, List.replicate_succ, List.flatten_cons]; apply Array.ext'; simp
  rw [go]; simp
section
variable {X : Cx}
theorem r_mulX : OpR X (binaryOp .Mult) (iR2 X.K oMulX) := by
  rintro pins s σ H x y v u Q I rx ry ⟨φ, mh, a, b, ra, rb, hh, p⟩
  cases ra with
  | int i =>
    cases rb with
    | int j =>
      simp only [oMulX] at p
      split at p
      · rename_i hl
        rcases hl with hl | hl
        · exact op_mul pins s σ H _ _ v u Q I rx ry ⟨i, j, rfl, rfl, hl, postO_val hh p (.int _)⟩
        · exact op_mulW pins s σ H _ _ v u Q I rx ry ⟨i, j, rfl, rfl, hl, postO_val hh p (.int _)⟩
      · exact p.elim
    | _ => exact p.elim
  | str z =>
    cases rb with
    | int k =>
      simp only [oMulX] at p
      split at p
      · rename_i hl
        obtain ⟨n1, n2, n3⟩ := hl
        obtain ⟨t, rfl⟩ := rx
        obtain ⟨t2, rfl⟩ := ry
        have q := postO_val hh p (.str (repS k.toNat z))
        have sl : (1000000 : Nat) ≤ sizeLine := by rw [sizeLine_eq]; decide
        have z0 : (z.length == 0) = true → z.cps = #[] := fun e => by
          have : z.cps.size = 0 := by simpa [Str.length] using e
          exact Array.eq_empty_of_size_eq_zero this
        refine PySem.P.mul_str (by rw [decide_eq_false (by omega), decide_eq_false (by omega)]; rfl) (fun h1 h2 => ?_) (fun h1 h2 => ?_) ?_
        · have k1 : 1 ≤ k := by omega
          have : (z.length : Int) ≤ 1000000 := by
            have h3 : z.length * 1 ≤ z.length * k.toNat := Nat.mul_le_mul_left _ (by omega)
            omega
          have h4 : (2 ^ 63 - 1 : Int) / k ≥ 9000000000000 := by
            have : (9000000000000 : Int) ≤ (2 ^ 63 - 1) / k := (Int.le_ediv_iff_mul_le (by omega)).mpr (by omega)
            exact this
          omega
        · unfold Builtin.Str.tooLong
          exact decide_eq_false (by omega)
        · by_cases h1 : k < 1
          · rw [if_pos h1]
            refine ⟨by decide, ?_⟩
            have e : repS k.toNat z = Str.empty := by
              unfold repS; rw [show k.toNat = 0 by omega]; rfl
            rw [e] at q
            exact ⟨.str Str.empty, H, I.tok _, ⟨_, rfl⟩, q⟩
          · rw [if_neg h1]
            by_cases h2 : (k == 1 || z.length == 0) = true
            · rw [if_pos h2]
              have e : repS k.toNat z = z := by
                rw [Bool.or_eq_true] at h2
                unfold repS
                rcases h2 with h2 | h2
                · have : k = 1 := by simpa using h2
                  rw [this]; simp
                · have := z0 h2
                  obtain ⟨c⟩ := z
                  simp only at this
                  subst this
                  congr 1
                  induction k.toNat with
                  | zero => rfl
                  | succ m ih => rw [List.replicate_succ, List.flatten_cons]; simpa using ih
              rw [e] at q
              exact ⟨.str z, H, I, ⟨_, rfl⟩, q⟩
            · rw [if_neg h2]
              have e : (⟨List.foldl (fun a b => a ++ b) #[] (List.replicate k.toNat z.cps)⟩ : Str) = repS k.toNat z := by
                unfold repS; rw [foldl_repS]
              refine ⟨?_, ?_⟩
              · show Str.length _ ≤ _
                rw [e]
                unfold repS Str.length
                rw [List.size_toArray, List.length_flatten]
                simp only [List.map_replicate, List.sum_replicate_nat, Array.length_toList]
                have : z.cps.size = z.length := rfl
                rw [this, Nat.mul_comm]
                omega
              · have q' : Q (.str (⟨List.foldl (fun a b => a ++ b) #[] (List.replicate k.toNat z.cps)⟩ : Str)) H := by rw [e]; exact q
                exact ⟨.str _, H, I.tok _, ⟨_, rfl⟩, q'⟩
      · exact p.elim
    | _ => exact p.elim
  | tup h1 r1 =>
    rename_i a1 xs vs
    cases rb with
    | int k =>
      simp only [oMulX] at p
      split at p
      · rename_i hl
        obtain ⟨n1, n2, n3⟩ := hl
        refine op_repTA pins s σ H _ _ v u Q I rx ry ⟨a1, k, vs, rfl, rfl, h1, n1, n2, by rw [← r1.length]; exact n3, fun e => ?_, fun q hq => postO_tup hh p (r1.rep _) hq⟩
        have rr := r1.rep k.toNat
        rw [e] at rr
        exact postO_val hh p (.tup h1 rr)
      · exact p.elim
    | _ => exact p.elim
  | ref h1 =>
    rename_i n a1
    cases rb with
    | int k =>
      simp only [oMulX] at p
      split at p
      · rename_i xs e1
        split at p
        · rename_i hl
          obtain ⟨n1, n2, n3⟩ := hl
          obtain ⟨vs, q1, r1⟩ := hh.lst h1 e1
          exact op_rep pins s σ H _ _ v u Q I rx ry ⟨a1, k, vs, rfl, rfl, q1, n1, n2, by rw [← r1.length]; exact n3, fun q hq => postO_new hh p (r1.rep _) hq⟩
        · exact p.elim
      · exact p.elim
    | _ => exact p.elim
  | _ => cases rb <;> exact p.elim
end
end Det
/-! Det, part Q: calls by parameter names, defs that call themselves, the law's own promise. -/
namespace Det
open PySem PySem.Spec PyProof.Rows L2
abbrev SK (X : Cx) (W : WX) (kws : List Keyword) (f : MA) : Prop := PK X kws (iA X.K X.mg W f)
theorem pk_imp {X : Cx} {kws : List Keyword} {t t' : TA} (h : PK X kws t) (w : ∀ σ H Q, t' σ H Q → t σ H Q) : PK X kws t' := ⟨fun po pins s σ H Q I q => h.run po pins s σ H Q I (w σ H Q q)⟩
def pickD (pm : List Nat) (ds : List D) : List D := pm.map fun i => ds.getD i .non
def calK (n : Nat) (pm : List Nat) (F : Fn) (f : MA) : ME := fun env mh => (f env mh).bind fun ds mh1 => if ds.length = n then F (pickD pm ds) mh1 else .no
section
variable {X : Cx} {W : WX} {e : Expr} {f : ME} {fa : MA} {kws : List Keyword} {pos kpos p : Pos} {nm : Option Str}
theorem sk_nil : SK X W [] anil := pk_imp pk_nil (by
  rintro σ H Q ⟨φ, env, mh, re, hh, p⟩
  exact p φ [] H (Px.refl φ) (Kp.refl H) hh .nil)
theorem sk_cons (ha : SE X W e f) (hr : SK X W kws fa) : SK X W (⟨nm, e, kpos⟩ :: kws) (acons f fa) := pk_imp (pk_cons ha hr) (by
  rintro σ H Q ⟨φ, env, mh, re, hh, p⟩
  refine ⟨φ, env, mh, re, hh, post_mono (Px.refl φ) (Kp.refl H) (post_bind (R1 := RelD X.K) p) ?_⟩
  rintro x H1 ⟨φ1, d, mh1, p1, k1, h1, r1, q⟩
  refine ⟨φ1, env, mh1, re.mono p1 k1, h1, post_mono (Px.refl φ1) (Kp.refl H1) (post_bind (R1 := RelDs X.K) q) ?_⟩
  rintro xs H2 ⟨φ2, ds, mh2, p2, k2, h2, r2, q2⟩
  exact q2 φ2 (x :: xs) H2 (Px.refl φ2) (Kp.refl H2) h2 (.cons (r1.mono p2 k2) r2))
theorem getD_vals {vs : List V} {us : List Value} (r : Vals vs us) (i : Nat) : RelV (vs.getD i .non) (us.getD i .none) := by
  rw [List.getD_eq_getElem?_getD, List.getD_eq_getElem?_getD]
  cases h : vs[i]? with
  | none => rw [r.none_of h]; rfl
  | some v =>
    obtain ⟨u, h1, h2⟩ := r.get h
    rw [h1]; exact h2
theorem pick_vals {vs : List V} {us : List Value} (r : Vals vs us) : ∀ pm : List Nat, Vals (pm.map fun i => vs.getD i .non) (pm.map fun i => us.getD i .none)
  | [] => .nil
  | i :: pm => .cons (getD_vals r i) (pick_vals r pm)
theorem pick_rel {K : PySem.W.Frag} {φ : List Addr} {H : Hp} {ds : List D} {vs : List V} (r : RelDs K φ H ds vs) : ∀ pm : List Nat, RelDs K φ H (pickD pm ds) (pm.map fun i => vs.getD i .non)
  | [] => .nil
  | i :: pm => by
    refine .cons ?_ (pick_rel r pm)
    show RelD K φ H (ds.getD i .non) (vs.getD i .non)
    rw [List.getD_eq_getElem?_getD, List.getD_eq_getElem?_getD]
    cases h : ds[i]? with
    | none =>
      have h1 := List.getElem?_eq_none_iff.mp h
      have h2 : vs[i]? = none := List.getElem?_eq_none_iff.mpr (by rw [← r.length]; exact h1)
      rw [h2]; exact .non
    | some d =>
      obtain ⟨v, h1, h2⟩ := r.get h
      rw [h1]; exact h2
/-- f(k = v, ..) -/
theorem se_callK0 {F : Fn} {k : Nat} {g : Addr} {fd : FuncData} {ps ks : List Str} {pm : List Nat} {x : Str} (tk : Takes X W) (G : DOk X.prog X.w X.K X.mg X.base k g fd ps F) (hr : Room k X.A) (hm : X.mg x = some (.ref g)) (hk : PySem.W.keepIn X.K (.ref g) = true)
    (hb : ∀ (s : Shared) (ws : List Value), ws.length = ks.length → BindsTo s fd ⟨[], ks.zip ws⟩ (ps.zip (pm.map fun i => ws.getD i .none))) (hp : pm.length = ps.length) (ha : SK X W kws fa) (hg : Gl X x := by rfl)
    (hall : (backToKw pos (keywordEach kws X.env)).all (·.1.isSome) = true := by rfl) (hks : (backToKw pos (keywordEach kws X.env)).filterMap (·.1) = ks := by rfl) (hdb : (x == ("__debug__" : Str)) = false := by decide)
    (hpl : ((backTo pos (starEach [] X.env)).any (·.1) || (backToKw pos (keywordEach kws X.env)).any (·.1.isNone)) = false := by rfl) : SE X W (.Call (.Name x p) [] kws pos) (calK ks.length pm F fa) := by
  refine ⟨fun pins s σ H Q I h => ?_⟩
  refine wpAny_Call_Name_kw (ld_glob I hg hm ?_ hdb)
  refine PySem.W.callWith_KW0 (h₀ := X.base) I.ok.mod.kin hk hall ?_ hpl
  obtain ⟨φ, env, mh, re, hh, pq⟩ := h
  refine thn (ha.run pos pins s σ H (fun vs H1 => vs.length = ks.length ∧ spF X.K X.mg ps.length F (pm.map fun i => vs.getD i .non) H1 Q (WE W σ)) I ⟨φ, env, mh, re, hh, post_mono (Px.refl φ) (Kp.refl H) (post_bind (R1 := RelDs X.K) pq) ?_⟩) fun ws s2 ⟨zs, H2, I2, rz, hl, q2⟩ => ⟨I2.kIn, ?_⟩
  · rintro vs H1 ⟨φ1, ds, mh1, p1, k1, h1, r1, q⟩
    by_cases hl : ds.length = ks.length
    · rw [if_pos hl] at q
      refine ⟨by rw [← r1.length]; exact hl, φ1, mh1, pickD pm ds, pick_rel r1 pm, h1, by unfold pickD; rw [List.length_map]; exact hp, ?_⟩
      cases hF : F (pickD pm ds) mh1 with
      | ok d mh2 => rw [hF] at q; exact q
      | ex x mh2 => rw [hF] at q; exact q
      | no => rw [hF] at q; exact q
    · rw [if_neg hl] at q; exact q.elim
  · rw [hks]
    have hw : ws.length = ks.length := by rw [← rz.length]; exact hl
    refine wpAny_call (codeAny_mono (G.run X.A X.stack s2 H2 ⟨[], ks.zip ws⟩ _ _ Q (WE W σ) hr I2.env0 (hb s2 ws hw) (pick_vals rz pm) q2) fun r s' hq => ?_)
    cases r with
    | error e => exact passAt tk σ pins H2 s2 e s' I2 hq
    | ok fl =>
      cases fl with
      | ret u => exact I2.after hq
      | next => exact False.elim hq
      | brk => exact False.elim hq
      | cont => exact False.elim hq
end
section
variable {P : Program} {w : World} {K : PySem.W.Frag} {mg : MGl} {base : Heap} {k : Nat} {fa : Addr} {fd : FuncData} {ps : List Str} {F : Fn}
/-- nothing is promised -/
theorem ok_no : DOk P w K mg base k fa fd ps fun _ _ => .no :=
  ⟨fun vs H Q E h => by obtain ⟨_, _, _, _, _, _, q⟩ := h; exact q.elim, fun A outer s H args us vs Q E _ _ _ _ h => by obtain ⟨_, _, _, _, _, _, q⟩ := h; exact q.elim⟩
/-- a def that calls itself, n calls deep -/
def recF (B : Fn → Fn) : Nat → Fn
  | 0 => fun _ _ => .no
  | n + 1 => B (recF B n)
theorem okRec {B : Fn → Fn} (h : ∀ (k : Nat) (F : Fn), DOk P w K mg base k fa fd ps F → DOk P w K mg base (k + 1) fa fd ps (B F)) (k0 : Nat) : ∀ n : Nat, DOk P w K mg base (k0 + n) fa fd ps (recF B n)
  | 0 => ok_no
  | n + 1 => h (k0 + n) _ (okRec h k0 n)
/-- the law's promise -/
def spLawD (K : PySem.W.Frag) : Sp := fun vs H Q _ => ∃ (a : Addr) (ns : List Int), vs = [.ref a] ∧ Only H ∧ SqL K H a (ns.map V.int) ∧ ns.length ≤ 63 ∧ ∀ H', Q (.bl true) H'
theorem relInts {K : PySem.W.Frag} {φ : List Addr} {H : Hp} : ∀ ns : List Int, RelDs K φ H (ns.map D.int) (ns.map V.int)
  | [] => .nil
  | i :: ns => .cons (.int i) (relInts ns)
theorem law_of {x : Str} (G : DOk P w K mg base k fa fd [x] F) (hF : ∀ ns : List Int, ns.length ≤ 63 → ∃ mh, F [.rol (ns.map .int)] [] = .ok (.bl true) mh) : FnOk P w K mg base (L2.CX P w) k fa fd [x] (spLawD K) := by
  refine FnOk.imp G ?_
  rintro vs H Q E ⟨a, ns, rfl, ho, hs, hl, q⟩
  have hro : RoL K H a (ns.map V.int) := by
    rcases hs with (h | ⟨o, h⟩) | h
    · rcases ho a with z | ⟨o, xs, z⟩
      · rw [z] at h; cases h
      · rw [z] at h; cases h
    · exact .inl ⟨o, h⟩
    · exact .inr h
  obtain ⟨mh', e⟩ := hF ns hl
  refine ⟨[], [], [.rol (ns.map .int)], .cons (.rol hro (relInts ns)) .nil, ⟨rfl, List.nodup_nil, fun n a o h => by simp at h⟩, rfl, ?_⟩
  rw [e]
  intro φ' b H' _ _ _ r
  cases r
  exact q H'
theorem law_end (w : World) (H : Hp) (a : Addr) (ns : List Int) (hl : ns.length ≤ 63) (ho : Only H) (hS : SqL K H a (ns.map V.int)) : spLawD K [.ref a] H (fun v _ => v = .bl true) fun _ _ _ => False := ⟨a, ns, rfl, ho, hS, hl, fun _ => rfl⟩
end
end Det
/-! Det, part R: what the generated walks use. -/
namespace Det
open PySem PySem.Spec PyProof.Rows L2
theorem okRec2 {P : Program} {w : World} {K : PySem.W.Frag} {mg : MGl} {base : Heap} {fa : Addr} {fd : FuncData} {ps : List Str} {B : Fn → Fn} {k0 : Nat}
    (h : ∀ (k : Nat) (F : Fn), DOk P w K mg base k fa fd ps F → k0 ≤ k → DOk P w K mg base (k + 1) fa fd ps (B F)) : ∀ n : Nat, DOk P w K mg base (k0 + n) fa fd ps (recF B n)
  | 0 => ok_no
  | n + 1 => h (k0 + n) _ (okRec2 h n) (Nat.le_add_right _ _)
/-- a def that the top has made -/
structure DefAt (K : PySem.W.Frag) (mg : MGl) (x q : Str) (st : Stmt) (ps : List Str) where
  a : Addr
  fd : FuncData
  hm : mg x = some (.ref a)
  hk : PySem.W.keepIn K (.ref a) = true
  fn : Fun K x q st a fd
  bi : Binds K fd ps []
theorem takesN {X : Cx} : Takes X W0 := fun _ _ x => by
  obtain ⟨_, _, _, _, _, _, _, _, _, _, _, _, _, _, _, _, no⟩ := x
  exact no.elim
def blkB (N : List Str) (sc scope : Scope) (own : List (Str × Nat)) : Bool :=
  scope.kind == .function && scope.names.all (fun y => scope.names.lookup y.1 == some y.2) && own.all (fun p => N[p.2]? == some p.1) &&
  scope.names.all (fun y => y.2 != .free || sc.names.lookup y.1 == some .cell || sc.names.lookup y.1 == some .free) &&
  scope.names.all (fun y => !(y.2 == .local || y.2 == .cell) || (own.map (·.1)).contains y.1 || !N.contains y.1)
theorem blkOk_of {N : List Str} {sc scope : Scope} {own : List (Str × Nat)} (h : blkB N sc scope own = true) : BlkOk N sc scope own := by
  unfold blkB at h
  simp only [Bool.and_eq_true, List.all_eq_true, Bool.or_eq_true, beq_iff_eq, bne_iff_ne, ne_eq, Bool.not_eq_true', List.contains_iff_mem] at h
  obtain ⟨⟨⟨⟨h1, h2⟩, h3⟩, h4⟩, h5⟩ := h
  refine ⟨h1, h2, h3, fun y hy e => ?_, fun y hy e => ?_⟩
  · rcases h4 y hy with (z | z) | z
    · exact absurd e z
    · exact .inl z
    · exact .inr z
  · rcases h5 y hy with (z | z) | z
    · rcases e with e | e
      · simp [e] at z
      · simp [e] at z
    · exact .inl z
    · exact .inr (by simpa using z)
end Det
/-! Det, part W: dicts by ints and texts: display, d[k], in, d[k] = v, get, setdefault. -/
namespace Det
open PySem PySem.Spec PyProof.Rows L2

/-! ### tables -/
def valD (kds : List (Key × D)) (k : Key) : Option D := (kds.find? fun kv => decide (kv.1 = k)).map (·.2)
def putD (kds : List (Key × D)) (k : Key) (d : D) : List (Key × D) :=
  if (kds.any fun kv => decide (kv.1 = k)) = true then kds.map (fun kv => if kv.1 = k then (kv.1, d) else kv) else kds ++ [(k, d)]
section
variable {K : PySem.W.Frag} {φ : List Addr} {H : Hp}
theorem RelK.nil' {kvs : List (Key × V)} (r : RelK K φ H ([] : List (Key × D)) kvs) : kvs = [] := by
  have := r.1
  cases kvs with
  | nil => rfl
  | cons _ _ => simp at this
theorem RelK.cons' {p : Key × D} {kds : List (Key × D)} {kvs : List (Key × V)} (r : RelK K φ H (p :: kds) kvs) : ∃ v kvs', kvs = (p.1, v) :: kvs' ∧ RelD K φ H p.2 v ∧ RelK K φ H kds kvs' := by
  obtain ⟨h1, h2⟩ := r
  cases kvs with
  | nil => simp at h1
  | cons q kvs =>
    simp only [List.map_cons, List.cons.injEq] at h1 h2
    cases h2 with
    | cons a b => exact ⟨q.2, kvs, by rw [h1.1], a, h1.2, b⟩
theorem RelK.mk {p : Key × D} {v : V} {kds : List (Key × D)} {kvs : List (Key × V)} (a : RelD K φ H p.2 v) (r : RelK K φ H kds kvs) : RelK K φ H (p :: kds) ((p.1, v) :: kvs) := ⟨by simp [r.1], .cons a r.2⟩
theorem RelK.len {kds : List (Key × D)} {kvs : List (Key × V)} (r : RelK K φ H kds kvs) : kds.length = kvs.length := by
  have := congrArg List.length r.1
  simpa using this
theorem RelK.val (k : Key) : ∀ {kds : List (Key × D)} {kvs : List (Key × V)}, RelK K φ H kds kvs → (valD kds k = none ∧ valV kvs k = none) ∨ ∃ d v, valD kds k = some d ∧ valV kvs k = some v ∧ RelD K φ H d v
  | [], _, r => by rw [r.nil']; exact .inl ⟨rfl, rfl⟩
  | p :: kds, _, r => by
    obtain ⟨v, kvs, rfl, a, r⟩ := r.cons'
    by_cases e : p.1 = k
    · refine .inr ⟨p.2, v, by simp [valD, List.find?_cons, e], valV_pos e, a⟩
    · have e2 : valD (p :: kds) k = valD kds k := by simp [valD, List.find?_cons, e]
      rw [e2, valV_neg (p := (p.1, v)) e]
      exact RelK.val k r
theorem RelK.snoc {k : Key} {d : D} {v : V} (a : RelD K φ H d v) : ∀ {kds : List (Key × D)} {kvs : List (Key × V)}, RelK K φ H kds kvs → RelK K φ H (kds ++ [(k, d)]) (kvs ++ [(k, v)])
  | [], _, r => by rw [r.nil']; exact RelK.mk (p := (k, d)) a ⟨rfl, .nil⟩
  | p :: kds, _, r => by
    obtain ⟨u, kvs, rfl, b, r⟩ := r.cons'
    exact RelK.mk b (RelK.snoc a r)
theorem RelK.repl {k : Key} {d : D} {v : V} (a : RelD K φ H d v) : ∀ {kds : List (Key × D)} {kvs : List (Key × V)}, RelK K φ H kds kvs → RelK K φ H (kds.map fun kv => if kv.1 = k then (kv.1, d) else kv) (kvs.map fun kv => if kv.1 = k then (kv.1, v) else kv)
  | [], _, r => by rw [r.nil']; exact ⟨rfl, .nil⟩
  | p :: kds, _, r => by
    obtain ⟨u, kvs, rfl, b, r⟩ := r.cons'
    rw [List.map_cons, List.map_cons]
    by_cases e : p.1 = k
    · rw [if_pos e, if_pos e]; exact RelK.mk (p := (p.1, d)) a (RelK.repl a r)
    · rw [if_neg e, if_neg e]; exact RelK.mk b (RelK.repl a r)
theorem RelK.any (k : Key) : ∀ {kds : List (Key × D)} {kvs : List (Key × V)}, RelK K φ H kds kvs → (kds.any fun kv => decide (kv.1 = k)) = kvs.any fun kv => decide (kv.1 = k)
  | [], _, r => by rw [r.nil']; rfl
  | p :: kds, _, r => by
    obtain ⟨u, kvs, rfl, b, r⟩ := r.cons'
    rw [List.any_cons, List.any_cons, RelK.any k r]
theorem RelK.put {k : Key} {d : D} {v : V} {kds : List (Key × D)} {kvs : List (Key × V)} (r : RelK K φ H kds kvs) (a : RelD K φ H d v) : RelK K φ H (putD kds k d) (putK kvs k v) := by
  unfold putD putK
  rw [r.any k]
  split
  · exact r.repl a
  · exact r.snoc a
end
/-- the table of a dict that is read -/
def dctD (mh : MH) : D → Option (List (Key × D))
  | .ref n => match mh[n]? with
    | some (.dk kds) => some kds
    | some (.lk kds) => some kds
    | _ => none
  | _ => none
theorem key_rel {K : PySem.W.Frag} {φ : List Addr} {H : Hp} {d : D} {v : V} {k : Key} (r : RelD K φ H d v) (h : dKey d = some k) : v = kV k := by
  cases r with
  | int i => cases h; rfl
  | str x => cases h; rfl
  | _ => cases h
section
variable {X : Cx} {W : WX} {φ : List Addr} {H : Hp} {mh : MH}
theorem dct_of {c : D} {y : V} {kds : List (Key × D)} (hh : HR X.K φ mh H) (r : RelD X.K φ H c y) (h : dctD mh c = some kds) : ∃ a kvs, y = .ref a ∧ Rd H a (.dK kvs) ∧ RelK X.K φ H kds kvs := by
  cases r with
  | ref hn =>
    simp only [dctD] at h
    split at h
    · rename_i hx; cases h
      obtain ⟨kvs, e, rk⟩ := hh.ob _ _ _ hn hx
      exact ⟨_, kvs, rfl, .inl e, rk⟩
    · rename_i hx; cases h
      obtain ⟨kvs, od, e, rk⟩ := hh.ob _ _ _ hn hx
      exact ⟨_, kvs, rfl, .inr ⟨od, e⟩, rk⟩
    · cases h
  | _ => cases h
/-! ### d[k] -/
def oIxX : Op2 := fun a b mh => match dctD mh a with
  | some kds => match dKey b with
    | some k => (valD kds k).map fun d => (d, mh)
    | none => none
  | none => oIx a b mh
theorem r_ixX (hu : X.A.units + 64 < cLine) : IxR X (iR2 X.K oIxX) := by
  rintro value slice pins s σ H x y v u Q I rx ry ⟨φ, mh, a, b, ra, rb, hh, p⟩ hs
  unfold oIxX at p
  cases hd : dctD mh a with
  | none => rw [hd] at p; exact r_ix value slice pins s σ H x y v u Q I rx ry ⟨φ, mh, a, b, ra, rb, hh, p⟩ hs
  | some kds =>
    rw [hd] at p
    simp only at p
    cases hk : dKey b with
    | none => rw [hk] at p; exact p.elim
    | some k =>
      rw [hk] at p
      simp only at p
      obtain ⟨ad, kvs, rfl, rd, rk⟩ := dct_of hh ra hd
      have ey := key_rel rb hk
      subst ey
      rcases rk.val k with ⟨e1, e2⟩ | ⟨d, w, e1, e2, rw'⟩
      · rw [e1] at p; exact p.elim
      · rw [e1] at p
        have g : DGet H ad (kV k) (some w) := .inl ⟨kvs, k, rd, rfl, e2.symm⟩
        cases rx
        exact tail_any (dict_typeIs I g) PySem.F.slot_dict_getitem.lookup (d_getItem (by omega) I g ry fun w' s' I' rw2 => ⟨w, H, I', rw2, postO_val hh p rw'⟩) hs
theorem se_ixX {a b : Expr} {f g : ME} {pos : Pos} (hu : X.A.units + 64 < cLine) (ha : SE X W a f) (hb : SE X W b g) (hs : PlainIx b := by exact fun _ _ => rfl) : SE X W (.Subscript a b pos) (bi oIxX f g) := (pe_ix (r_ixX hu) ha hb hs).imp (imp2 fun _ _ _ _ h => h)
/-! ### in -/
def oInX : Op2 := fun a b mh => match dctD mh b with
  | some kds => match dKey a with
    | some k => some (.bl (valD kds k).isSome, mh)
    | none => none
  | none => oIn a b mh
def oNotInX : Op2 := fun a b mh => match dctD mh b with
  | some kds => match dKey a with
    | some k => some (.bl (!(valD kds k).isSome), mh)
    | none => none
  | none => oNotIn a b mh
theorem RelK.isSome {K : PySem.W.Frag} {kds : List (Key × D)} {kvs : List (Key × V)} (r : RelK K φ H kds kvs) (k : Key) : (valV kvs k).isSome = (valD kds k).isSome := by
  rcases r.val k with ⟨e1, e2⟩ | ⟨d, w, e1, e2, _⟩ <;> rw [e1, e2] <;> rfl
theorem r_inX (hu : X.A.units + 65 < cLine) : OpR X (compareOp .In) (iR2 X.K oInX) := by
  rintro pins s σ H x y v u Q I rx ry ⟨φ, mh, a, b, ra, rb, hh, p⟩
  unfold oInX at p
  cases hd : dctD mh b with
  | none => rw [hd] at p; exact r_in hu pins s σ H x y v u Q I rx ry ⟨φ, mh, a, b, ra, rb, hh, p⟩
  | some kds =>
    rw [hd] at p
    simp only at p
    cases hk : dKey a with
    | none => rw [hk] at p; exact p.elim
    | some k =>
      rw [hk] at p
      obtain ⟨ad, kvs, rfl, rd, rk⟩ := dct_of hh rb hd
      have ey := key_rel ra hk
      subst ey
      cases ry
      have g : DGet H ad (kV k) (valV kvs k) := .inl ⟨kvs, k, rd, rfl, rfl⟩
      exact d_in (by omega) I g rx fun s' I' => ⟨.bl (valV kvs k).isSome, H, I', rfl, by rw [rk.isSome k]; exact postO_val hh p (.bl _)⟩
theorem r_notInX (hu : X.A.units + 65 < cLine) : OpR X (compareOp .NotIn) (iR2 X.K oNotInX) := by
  rintro pins s σ H x y v u Q I rx ry ⟨φ, mh, a, b, ra, rb, hh, p⟩
  unfold oNotInX at p
  cases hd : dctD mh b with
  | none => rw [hd] at p; exact r_notIn hu pins s σ H x y v u Q I rx ry ⟨φ, mh, a, b, ra, rb, hh, p⟩
  | some kds =>
    rw [hd] at p
    simp only at p
    cases hk : dKey a with
    | none => rw [hk] at p; exact p.elim
    | some k =>
      rw [hk] at p
      obtain ⟨ad, kvs, rfl, rd, rk⟩ := dct_of hh rb hd
      have ey := key_rel ra hk
      subst ey
      cases ry
      have g : DGet H ad (kV k) (valV kvs k) := .inl ⟨kvs, k, rd, rfl, rfl⟩
      exact d_notIn (by omega) I g rx fun s' I' => ⟨.bl (!(valV kvs k).isSome), H, I', rfl, by rw [rk.isSome k]; exact postO_val hh p (.bl _)⟩
/-! ### {} -/
def dct0 : ME := fun _ mh => .ok (.ref mh.length) (mh ++ [.dk []])
theorem se_dct0 {pos : Pos} : SE X W (.Dict [] [] pos) dct0 := pe_dnewK.imp (by
  rintro σ H Q ⟨φ, env, mh, re, hh, p⟩ a ha
  exact p (φ ++ [a]) (.ref a) _ px1 (Kp.new ha) (hh.push ha (hh.fresh ha) ⟨[], upd_same, rfl, .nil⟩) (.ref hh.last))
/-! ### o[i] = e, o a list or a dict -/
def stX (mh : MH) (o i v : D) : Option MH := match o with
  | .ref n => match mh[n]? with
    | some (.lst xs) => (match i with
      | .int k => (ixN xs.length k).map fun j => mh.set n (.lst (xs.set j v))
      | _ => none)
    | some (.dk kds) => (match dKey i with
      | some k => if kds.length < sizeLine then some (mh.set n (.dk (putD kds k v))) else none
      | none => none)
    | _ => none
  | _ => none
def setX (fo fi f : ME) : MS := fun env mh => lift (f env mh) env fun v mh1 => lift (fo env mh1) env fun o mh2 => lift (fi env mh2) env fun i mh3 => match stX mh3 o i v with
  | some mh4 => .nx env mh4
  | none => .no
def tSetX (K : PySem.W.Frag) : TSet := fun o i v H Q => ∃ φ mh od id vd mh', RelD K φ H od o ∧ RelD K φ H id i ∧ RelD K φ H vd v ∧ HR K φ mh H ∧ stX mh od id vd = some mh' ∧ ∀ H', Kp H H' → HR K φ mh' H' → Q H'
theorem set_X (hu : X.A.units + 64 < cLine) : PSet X (tSetX X.K) := by
  rintro pins s σ H o i v ov iv u Q I ro ri rv ⟨φ, mh, od, id, vd, mh', r1, r2, r3, hh, e, q⟩
  unfold stX at e
  cases r1 with
  | ref hn =>
    rename_i n a
    simp only at e
    split at e
    · rename_i xs hx
      split at e
      · rename_i k
        cases hj : ixN xs.length k with
        | none => rw [hj] at e; cases e
        | some j =>
          rw [hj] at e
          cases e
          cases r2
          obtain ⟨vs, e1, rs⟩ := hh.lst hn hx
          exact set_list pins s σ H _ _ v ov iv u Q I ro ri rv ⟨a, vs, k, j, rfl, rfl, e1, by rw [← rs.length]; exact hj, q _ (Kp.mut e1 fun z => z) (hh.setL hn e1 (rs.set r3 j))⟩
      · cases e
    · rename_i kds hx
      split at e
      · rename_i k hk
        split at e
        · rename_i hl
          cases e
          have ey := key_rel r2 hk
          subst ey
          cases ro
          obtain ⟨kvs, e1, rk⟩ := hh.ob _ _ _ hn hx
          have hH : Kp H (upd H a (.dK (putK kvs k v))) := Kp.mut e1 fun z => z
          exact d_setItem (by omega) I (.inl ⟨kvs, k, e1, rfl, by rw [← rk.len]; exact hl, rfl⟩) ri rv fun s' I' => ⟨_, I', q _ hH (hh.put hn e1 (fun z => z) ⟨_, upd_same, (rk.put r3).mono (Px.refl φ) hH⟩)⟩
        · cases e
      · cases e
    · cases e
  | _ => cases e
theorem ss_setX {o i e : Expr} {fo fi f : ME} {pos pos' : Pos} (hu : X.A.units + 64 < cLine) (he : SE X W e f) (ho : SE X W o fo) (hi : SE X W i fi) (hs : swapsWithSole [.Subscript o i pos'] e pos.line X.env = pure false := by rfl) (hw : swappedStores [.Subscript o i pos'] e X.env = pure none := by rfl)
    (h1 : (assignEach [.Subscript o i pos'] X.env).map (·.2) = [assign (.Subscript o i pos') X.env] := by rfl)
    (ha : ∀ v, assign (.Subscript o i pos') X.env v = (do
      let dv ← holding [v] (eval o X.env)
      let jv ← holding [v, dv] (eval i X.env)
      standAt pos'
      holding [v, dv, jv] (setItem dv jv v)
      release [v, dv, jv] []) := by intro _; rfl) : SS X W (.Assign [.Subscript o i pos'] e pos) (setX fo fi f) := (ps_asg he (pg_sub ho hi (set_X hu) ha) hs hw h1).imp (by
  rintro D σ H ⟨φ, env, mh, re, hh, p⟩
  refine ⟨φ, env, mh, re, hh, post_mono (Px.refl φ) (Kp.refl H) (post_lift (R := RelD X.K) re p) ?_⟩
  rintro x H1 ⟨φ1, v, mh1, p1, k1, h1, r1, q⟩
  have re1 := re.mono p1 k1
  refine ⟨φ1, env, mh1, re1, h1, post_mono (Px.refl φ1) (Kp.refl H1) (post_lift (R := RelD X.K) re1 q) ?_⟩
  rintro y H2 ⟨φ2, od, mh2, p2, k2, h2, r2, q2⟩
  have re2 := re1.mono p2 k2
  refine ⟨φ2, env, mh2, re2, h2, post_mono (Px.refl φ2) (Kp.refl H2) (post_lift (R := RelD X.K) re2 q2) ?_⟩
  rintro z H3 ⟨φ3, id, mh3, p3, k3, h3, r3, q3⟩
  have re3 := re2.mono p3 k3
  cases hst : stX mh3 od id v with
  | none => rw [hst] at q3; exact q3.elim
  | some mh4 =>
    rw [hst] at q3
    exact ⟨φ3, mh3, od, id, v, mh4, r2.mono p3 k3, r3, (r1.mono p2 k2).mono p3 k3, h3, hst, fun H' kk hh' => q3 φ3 σ H' (Px.refl φ3) kk hh' (re3.mono (Px.refl φ3) kk)⟩)
/-! ### d.get(k), d.get(k, x), d.setdefault(k, x) -/
def isDk (mh : MH) (o : D) : Bool := (dctD mh o).isSome
def dget1 (fo f : ME) : ME := fun env mh => (fo env mh).bind fun o mh1 => if isDk mh1 o = true then (f env mh1).bind fun kd mh2 => (match dctD mh2 o, dKey kd with
  | some kds, some k => .ok ((valD kds k).getD .non) mh2
  | _, _ => .no) else .no
def dget2 (fo f g : ME) : ME := fun env mh => (fo env mh).bind fun o mh1 => if isDk mh1 o = true then (f env mh1).bind fun kd mh2 => (g env mh2).bind fun x mh3 => (match dctD mh3 o, dKey kd with
  | some kds, some k => .ok ((valD kds k).getD x) mh3
  | _, _ => .no) else .no
def dsetd (fo f g : ME) : ME := fun env mh => (fo env mh).bind fun o mh1 => if isDk mh1 o = true then (f env mh1).bind fun kd mh2 => (g env mh2).bind fun x mh3 => (match o with
  | .ref n => (match mh3[n]?, dKey kd with
    | some (.dk kds), some k => if kds.length < sizeLine then (match valD kds k with
      | some d => .ok d mh3
      | none => .ok x (mh3.set n (.dk (putD kds k x)))) else .no
    | _, _ => .no)
  | _ => .no) else .no
theorem isD_of {c : D} {y : V} (hh : HR X.K φ mh H) (r : RelD X.K φ H c y) (h : isDk mh c = true) : ∃ a, y = .ref a ∧ IsD H a := by
  unfold isDk at h
  obtain ⟨kds, e⟩ := Option.isSome_iff_exists.mp h
  obtain ⟨a, kvs, e2, rd, _⟩ := dct_of hh r e
  exact ⟨a, e2, .inl ⟨kvs, rd⟩⟩
theorem se_dget1 {o e : Expr} {fo f : ME} {apos cpos : Pos} (hu : X.A.units + 64 < cLine) (ho : SE X W o fo) (he : SE X W e f) (m : M1 X o "get" apos e cpos := by exact ⟨rfl, rfl, rfl, rfl⟩) : SE X W (.Call (.Attribute o "get" apos) [e] [] cpos) (dget1 fo f) := (pe_dget1 (by omega) ho he m).imp (by
  rintro σ H Q ⟨φ, env, mh, re, hh, p⟩
  refine ⟨φ, env, mh, re, hh, post_mono (Px.refl φ) (Kp.refl H) (post_bind (R1 := RelD X.K) p) ?_⟩
  rintro x H1 ⟨φ1, od, mh1, p1, k1, h1, r1, q⟩
  by_cases hd : isDk mh1 od = true
  · rw [if_pos hd] at q
    obtain ⟨a, rfl, isd⟩ := isD_of h1 r1 hd
    refine ⟨a, rfl, isd, φ1, env, mh1, re.mono p1 k1, h1, post_mono (Px.refl φ1) (Kp.refl H1) (post_bind (R1 := RelD X.K) q) ?_⟩
    rintro y H2 ⟨φ2, kd, mh2, p2, k2, h2, r2, q2⟩
    cases hc : dctD mh2 od with
    | none => rw [hc] at q2; exact q2.elim
    | some kds =>
      cases hk : dKey kd with
      | none => rw [hc, hk] at q2; exact q2.elim
      | some k =>
        rw [hc, hk] at q2
        obtain ⟨a', kvs, e, rd, rk⟩ := dct_of h2 (r1.mono p2 k2) hc
        cases e
        have ey := key_rel r2 hk
        subst ey
        refine ⟨valV kvs k, .inl ⟨kvs, k, rd, rfl, rfl⟩, q2 φ2 _ H2 (Px.refl φ2) (Kp.refl H2) h2 ?_⟩
        rcases rk.val k with ⟨e1, e2⟩ | ⟨d, w, e1, e2, rw'⟩
        · rw [e1, e2]; exact .non
        · rw [e1, e2]; exact rw'
  · rw [if_neg hd] at q; exact q.elim)
theorem se_dget2 {o e e2 : Expr} {fo f g : ME} {apos cpos : Pos} (hu : X.A.units + 64 < cLine) (ho : SE X W o fo) (he : SE X W e f) (he2 : SE X W e2 g) (m : M2 X o "get" apos e e2 cpos := by exact ⟨rfl, rfl, rfl, rfl⟩) : SE X W (.Call (.Attribute o "get" apos) [e, e2] [] cpos) (dget2 fo f g) := (pe_dget2 (by omega) ho he he2 m).imp (by
  rintro σ H Q ⟨φ, env, mh, re, hh, p⟩
  refine ⟨φ, env, mh, re, hh, post_mono (Px.refl φ) (Kp.refl H) (post_bind (R1 := RelD X.K) p) ?_⟩
  rintro x H1 ⟨φ1, od, mh1, p1, k1, h1, r1, q⟩
  by_cases hd : isDk mh1 od = true
  · rw [if_pos hd] at q
    obtain ⟨a, rfl, isd⟩ := isD_of h1 r1 hd
    refine ⟨a, rfl, isd, φ1, env, mh1, re.mono p1 k1, h1, post_mono (Px.refl φ1) (Kp.refl H1) (post_bind (R1 := RelD X.K) q) ?_⟩
    rintro y H2 ⟨φ2, kd, mh2, p2, k2, h2, r2, q2⟩
    refine ⟨φ2, env, mh2, (re.mono p1 k1).mono p2 k2, h2, post_mono (Px.refl φ2) (Kp.refl H2) (post_bind (R1 := RelD X.K) q2) ?_⟩
    rintro z H3 ⟨φ3, zd, mh3, p3, k3, h3, r3, q3⟩
    cases hc : dctD mh3 od with
    | none => rw [hc] at q3; exact q3.elim
    | some kds =>
      cases hk : dKey kd with
      | none => rw [hc, hk] at q3; exact q3.elim
      | some k =>
        rw [hc, hk] at q3
        obtain ⟨a', kvs, e, rd, rk⟩ := dct_of h3 ((r1.mono p2 k2).mono p3 k3) hc
        cases e
        have ey := key_rel r2 hk
        subst ey
        refine ⟨valV kvs k, .inl ⟨kvs, k, rd, rfl, rfl⟩, q3 φ3 _ H3 (Px.refl φ3) (Kp.refl H3) h3 ?_⟩
        rcases rk.val k with ⟨e1, e2⟩ | ⟨d, w, e1, e2, rw'⟩
        · rw [e1, e2]; exact r3
        · rw [e1, e2]; exact rw'
  · rw [if_neg hd] at q; exact q.elim)
theorem se_dsetd {o e e2 : Expr} {fo f g : ME} {apos cpos : Pos} (ho : SE X W o fo) (he : SE X W e f) (he2 : SE X W e2 g) (m : M2 X o "setdefault" apos e e2 cpos := by exact ⟨rfl, rfl, rfl, rfl⟩) : SE X W (.Call (.Attribute o "setdefault" apos) [e, e2] [] cpos) (dsetd fo f g) := (pe_dsetd ho he he2 m).imp (by
  rintro σ H Q ⟨φ, env, mh, re, hh, p⟩
  refine ⟨φ, env, mh, re, hh, post_mono (Px.refl φ) (Kp.refl H) (post_bind (R1 := RelD X.K) p) ?_⟩
  rintro x H1 ⟨φ1, od, mh1, p1, k1, h1, r1, q⟩
  by_cases hd : isDk mh1 od = true
  · rw [if_pos hd] at q
    obtain ⟨a, rfl, isd⟩ := isD_of h1 r1 hd
    refine ⟨a, rfl, isd, φ1, env, mh1, re.mono p1 k1, h1, post_mono (Px.refl φ1) (Kp.refl H1) (post_bind (R1 := RelD X.K) q) ?_⟩
    rintro y H2 ⟨φ2, kd, mh2, p2, k2, h2, r2, q2⟩
    refine ⟨φ2, env, mh2, (re.mono p1 k1).mono p2 k2, h2, post_mono (Px.refl φ2) (Kp.refl H2) (post_bind (R1 := RelD X.K) q2) ?_⟩
    rintro z H3 ⟨φ3, zd, mh3, p3, k3, h3, r3, q3⟩
    cases r1 with
    | ref hn =>
      rename_i n
      simp only at q3
      split at q3
      · rename_i kds k hx hk
        split at q3
        · rename_i hl
          have hn3 := p3.get (p2.get hn)
          obtain ⟨kvs, e1, rk⟩ := h3.ob _ _ _ hn3 hx
          have ey := key_rel r2 hk
          subst ey
          refine ⟨kvs, k, e1, rfl, by rw [← rk.len]; exact hl, fun v hv => ?_, fun hv => ?_⟩
          · rcases rk.val k with ⟨f1, f2⟩ | ⟨d, w, f1, f2, rw'⟩
            · rw [f2] at hv; cases hv
            · rw [f1] at q3
              rw [f2] at hv
              cases hv
              exact q3 φ3 _ H3 (Px.refl φ3) (Kp.refl H3) h3 rw'
          · rcases rk.val k with ⟨f1, f2⟩ | ⟨d, w, f1, f2, rw'⟩
            · rw [f1] at q3
              have hH : Kp H3 (upd H3 a (.dK (putK kvs k z))) := Kp.mut e1 fun z => z
              exact q3 φ3 z _ (Px.refl φ3) hH (h3.put hn3 e1 (fun z => z) ⟨_, upd_same, (rk.put r3).mono (Px.refl φ3) hH⟩) (r3.mono (Px.refl φ3) hH)
            · rw [f2] at hv; cases hv
        · exact q3.elim
      · exact q3.elim
    | _ => exact q3.elim
  · rw [if_neg hd] at q; exact q.elim)
end
end Det
/-! Det, part X: dict comprehensions, a comprehension over a dict. -/
namespace Det
open PySem PySem.Spec PyProof.Rows L2
def loopX (n : Nat) (chk : MH → Bool) (p : Pat) (test : MT) (ek ev : ME) (env : Nv) : List D → MH → Res D
  | [], mh => if chk mh = true then .ok (.ref n) mh else .no
  | d :: ds, mh => if chk mh = true then (match setP p d env with
    | some e => ((test e mh).nox).bind fun b mh2 => if b = true then ((ek e mh2).nox).bind fun y mh3 => ((ev e mh3).nox).bind fun z mh4 => (match mh4[n]?, dKey y with
        | some (.dk kds), some k => if kds.length < sizeLine then loopX n chk p test ek ev env ds (mh4.set n (.dk (putD kds k z))) else .no
        | _, _ => .no) else loopX n chk p test ek ev env ds mh2
    | none => .no) else .no
def dcp (fi : MI) (p : Pat) (test : MT) (ek ev : ME) (vs : List Nat) : ME := fun env mh => (fi env mh).bind fun it mh1 =>
  loopX mh1.length it.chk p test ek ev (wipeD env vs) it.items (mh1 ++ [.dk []])
section
variable {X : Cx} {W : WX} {ft : MT} {pos : Pos}
theorem wipe_twice (σ : L2.St) (vs : List Nat) : ∀ us : List Nat, (∀ u ∈ us, u ∈ vs) → wipe (wipe σ vs) us = wipe σ vs := by
  intro us
  induction us with
  | nil => intro _; rfl
  | cons u us ih =>
    intro hu
    show (wipe (wipe σ vs) us).set u none = wipe σ vs
    rw [ih fun z hz => hu z (List.mem_cons_of_mem _ hz)]
    apply List.ext_getElem?
    intro j
    by_cases hj : j = u
    · subst hj
      by_cases hl : j < (wipe σ vs).length
      · rw [List.getElem?_set_self hl]
        cases hx : (wipe σ vs)[j]? with
        | none => rw [List.getElem?_eq_none_iff] at hx; omega
        | some o =>
          cases o with
          | none => rfl
          | some z => exact absurd (hu j List.mem_cons_self) (wipe_some hx).2
      · rw [List.getElem?_eq_none (by simpa using hl), List.getElem?_eq_none (by simpa using hl)]
    · rw [List.getElem?_set_ne (Ne.symm hj)]
theorem imp_dcp {fi : MI} {p : Pat} {ek ev : ME} {vs : List Nat} (hv : ∀ j ∈ p.ix, j ∈ vs) : ∀ σ H Q, iE X.K X.mg W (dcp fi p ft ek ev vs) σ H Q →
    tDc (iI X.K X.mg W fi) (iG X.K p) (iT X.K X.mg W0 ft) (iE X.K X.mg W0 ek) (iE X.K X.mg W0 ev) vs σ H Q := by
  rintro σ H Q ⟨φ, env, mh, re, hh, pq⟩
  refine ⟨φ, env, mh, re, hh, post_mono (Px.refl φ) (Kp.refl H) (post_bind (R1 := ItOk X.K) pq) ?_⟩
  rintro J H1 ⟨φ1, it, mh1, p1, k1, h1, J1, q⟩ Dl hD
  have hnew : HR X.K (φ1 ++ [Dl]) (mh1 ++ [.dk []]) (upd H1 Dl (.dK [])) := h1.push hD (h1.fresh hD) ⟨[], upd_same, rfl, .nil⟩
  refine ⟨fun i m H => m = it.items.length - i ∧ i ≤ it.items.length ∧ ∃ φ mh, Px (φ1 ++ [Dl]) φ ∧ Kp H1 H ∧ HR X.K φ mh H ∧ post X.K X.mg W (RelD X.K) σ φ H (loopX mh1.length it.chk p ft ek ev (wipeD env vs) (it.items.drop i) mh) Q,
    ⟨_, rfl, Nat.zero_le _, φ1 ++ [Dl], _, Px.refl _, Kp.new hD, hnew, post_mono px1 (Kp.new hD) q fun _ _ q => q⟩, ?_⟩
  rintro i m H ⟨rfl, hi, φ, mh, p2, k2, hh, q⟩
  have hat : φ[mh1.length]? = some Dl := p2.get h1.last
  by_cases hlt : i < it.items.length
  · have ed : it.items.drop i = it.items[i] :: it.items.drop (i + 1) := List.drop_eq_getElem_cons hlt
    rw [ed] at q
    unfold loopX at q
    by_cases hck : it.chk mh = true
    · rw [if_pos hck] at q
      obtain ⟨hgo, _⟩ := J1 i φ mh H (px1.trans p2) k2 hh hck
      obtain ⟨g1, g2⟩ := hgo it.items[i] (by simp [hlt])
      refine .inr ⟨g1, fun H' => ∃ φ mh, Px (φ1 ++ [Dl]) φ ∧ Kp H1 H' ∧ HR X.K φ mh H' ∧ post X.K X.mg W (RelD X.K) σ φ H' (loopX mh1.length it.chk p ft ek ev (wipeD env vs) (it.items.drop (i + 1)) mh) Q,
        fun H' h => ⟨it.items.length - (i + 1), by omega, rfl, hlt, h⟩, fun x H' y => ?_⟩
      obtain ⟨k3, h3, r3⟩ := g2 x H' y
      have re2 : RelE X.K φ H' (wipeD env vs) (wipe σ vs) := ((re.mono (p1.trans (px1.trans p2)) ((k1.trans k2).trans k3))).wipe vs
      cases hse : setP p it.items[i] (wipeD env vs) with
      | none => rw [hse] at q; exact q.elim
      | some e =>
        rw [hse] at q
        refine ⟨φ, wipeD env vs, mh, it.items[i], e, re2, h3, r3, hse, fun σ' he hw => ⟨by rw [hw vs hv]; exact wipe_twice σ vs vs fun _ h => h, φ, e, mh, he, h3, ?_⟩⟩
        refine post_mono (Px.refl φ) (Kp.refl H') (post_nox (R1 := RB) (post_mono (Px.refl φ) k3 q fun _ _ q => q)) ?_
        rintro b H4 ⟨φ4, b', mh4, p4, k4, h4, rb, q4⟩
        have e1 : b' = b := rb
        subst e1
        cases b' with
        | false => exact ⟨φ4, mh4, p2.trans p4, (k2.trans k3).trans k4, h4, q4⟩
        | true =>
          refine ⟨φ4, e, mh4, he.mono p4 k4, h4, post_mono (Px.refl φ4) (Kp.refl H4) (post_nox (R1 := RelD X.K) q4) ?_⟩
          rintro y H5 ⟨φ5, d5, mh5, p5, k5, h5, r5, q5⟩
          refine ⟨φ5, e, mh5, (he.mono p4 k4).mono p5 k5, h5, post_mono (Px.refl φ5) (Kp.refl H5) (post_nox (R1 := RelD X.K) q5) ?_⟩
          rintro z H6 ⟨φ6, d6, mh6, p6, k6, h6, r6, q6⟩
          have hat6 : φ6[mh1.length]? = some Dl := p6.get (p5.get (p4.get hat))
          split at q6
          · rename_i kds k hl hk
            split at q6
            · rename_i hz
              obtain ⟨kvs, hv6, rk⟩ := h6.ob _ _ _ hat6 hl
              have ey := key_rel r5 hk
              subst ey
              have hH : Kp H6 (upd H6 Dl (.dK (putK kvs k z))) := Kp.mut hv6 fun z => z
              refine ⟨kvs, k, rfl, hv6, by rw [← rk.len]; exact hz, φ6, _, ((p2.trans p4).trans p5).trans p6, ((((k2.trans k3).trans k4).trans k5).trans k6).trans hH, h6.put (o' := .dk (putD kds k d6)) hat6 hv6 (fun z => z) ⟨_, upd_same, (rk.put r6).mono (Px.refl φ6) hH⟩, post_mono (Px.refl φ6) hH q6 fun _ _ q => q⟩
            · exact q6.elim
          · exact q6.elim
    · rw [if_neg hck] at q; exact q.elim
  · have e : i = it.items.length := by omega
    subst e
    rw [List.drop_length] at q
    unfold loopX at q
    by_cases hck : it.chk mh = true
    · rw [if_pos hck] at q
      exact .inl ⟨(J1 _ φ mh H (px1.trans p2) k2 hh hck).2 (Nat.le_refl _), q φ _ H (Px.refl φ) (Kp.refl H) hh (.ref hat)⟩
    · rw [if_neg hck] at q; exact q.elim
theorem se_dcp {kx vx tg iter : Expr} {ifs : List Expr} {scope : Scope} {own : List (Str × Nat)} {fi : MI} {p : Pat} {ek ev : ME} (hc : X.calm = true) (hN : X.N.Nodup) (hi : SI X W tg iter fi) (ok : BlkOk X.N X.env.scope scope own)
    (hv : ∀ j ∈ p.ix, j ∈ own.map (·.2)) (hg : ∀ (s : Shared) (H : Hp) (C : Addr) (cl : List (Str × Addr)) (fp : List Addr), SG (X.blk s H scope (compEnvC scope cl C X.env) fp) tg p)
    (ht : ∀ (s : Shared) (H : Hp) (C : Addr) (cl : List (Str × Addr)) (fp : List Addr), STs (X.blk s H scope (compEnvC scope cl C X.env) fp) W0 ifs ft)
    (hk : ∀ (s : Shared) (H : Hp) (C : Addr) (cl : List (Str × Addr)) (fp : List Addr), SE (X.blk s H scope (compEnvC scope cl C X.env) fp) W0 kx ek)
    (he : ∀ (s : Shared) (H : Hp) (C : Addr) (cl : List (Str × Addr)) (fp : List Addr), SE (X.blk s H scope (compEnvC scope cl C X.env) fp) W0 vx ev) (hs : ∀ x, foldedSetIterable iter X.env x = pure x := by intro _; rfl) :
    SE X W (.DictComp kx vx [⟨tg, iter, ifs, 0⟩] scope pos) (dcp fi p ft ek ev (own.map (·.2))) := (pe_dc hc hN hi ok hg ht hk he hs).imp (imp_dcp hv)
/-! ### what runs while a dict is walked: the dict is read, not written -/
/-- where the i-th name is a dict, it is locked while f runs -/
def lkE (i : Nat) (f : ME) : ME := fun env mh => match env[i]? with
  | some (some (.ref n)) => (match mh[n]? with
    | some (.dk kds) => (f env (mh.set n (.lk kds))).bind fun d mh' => (match mh'[n]? with
      | some (.lk kds') => .ok d (mh'.set n (.dk kds'))
      | _ => .no)
    | _ => f env mh)
  | _ => f env mh
theorem HR.lock {φ : List Addr} {H : Hp} {mh : MH} {n : Nat} {a : Addr} {kds : List (Key × D)} {kvs : List (Key × V)} (hh : HR X.K φ mh H) (hn : φ[n]? = some a) (e : H a = some (.dK kvs)) (rk : RelK X.K φ H kds kvs) (od : Obj) :
    Kp H (upd H a (.frz od (.dK kvs))) ∧ HR X.K φ (mh.set n (.lk kds)) (upd H a (.frz od (.dK kvs))) := by
  have k : Kp H (upd H a (.frz od (.dK kvs))) := Kp.mut e fun z => z
  exact ⟨k, hh.put hn e (fun z => z) ⟨kvs, od, upd_same, rk.mono (Px.refl φ) k⟩⟩
/-- behind the lock: what stood ahead of it stands -/
theorem Kp.unlock {H H1 : Hp} {a : Addr} {kvs : List (Key × V)} {od : Obj} (e : H a = some (.dK kvs)) (k : Kp (upd H a (.frz od (.dK kvs))) H1) : Kp H (upd H1 a (.dK kvs)) := fun b o hb sb => by
  have hne : b ≠ a := fun z => by subst z; rw [e] at hb; cases hb; exact sb
  rw [upd_ne hne]
  exact k b o (by rw [upd_ne hne]; exact hb) sb
theorem RelD.relock {φ : List Addr} {H1 : Hp} {a : Addr} {kvs : List (Key × V)} {od : Obj} (e : H1 a = some (.frz od (.dK kvs))) : (∀ {d : D} {v : V}, RelD X.K φ H1 d v → RelD X.K φ (upd H1 a (.dK kvs)) d v) := by
  have sq : ∀ {p : Addr} {vs : List V}, SqT X.K H1 p vs → SqT X.K (upd H1 a (.dK kvs)) p vs := fun {p vs} h => by
    rcases h with (h | ⟨o, h⟩) | h
    · exact .inl (.inl (by rw [upd_ne (fun z => by subst z; rw [e] at h; cases h)]; exact h))
    · exact .inl (.inr ⟨o, by rw [upd_ne (fun z => by subst z; rw [e] at h; cases h)]; exact h⟩)
    · exact .inr h
  have rl : ∀ {p : Addr} {vs : List V}, RoL X.K H1 p vs → RoL X.K (upd H1 a (.dK kvs)) p vs := fun {p vs} h => by
    rcases h with ⟨o, h⟩ | h
    · exact .inl ⟨o, by rw [upd_ne (fun z => by subst z; rw [e] at h; cases h)]; exact h⟩
    · exact .inr h
  have go : ∀ (n : Nat), (∀ {d : D} {v : V}, sizeOf d ≤ n → RelD X.K φ H1 d v → RelD X.K φ (upd H1 a (.dK kvs)) d v) := by
    intro n
    induction n with
    | zero => intro d v h; cases d <;> simp at h
    | succ n ih =>
      have all : ∀ (ds : List D) (vs : List V), sizeOf ds ≤ n → RelDs X.K φ H1 ds vs → RelDs X.K φ (upd H1 a (.dK kvs)) ds vs := by
        intro ds
        induction ds with
        | nil => intro vs _ r; cases r; exact .nil
        | cons d ds ih2 =>
          intro vs h r
          cases r with
          | cons h1 t =>
            simp at h
            exact .cons (ih (by omega) h1) (ih2 _ (by omega) t)
      intro d v h r
      cases r with
      | non => exact .non
      | bl b => exact .bl b
      | int i => exact .int i
      | str x => exact .str x
      | ty n => exact .ty n
      | ref h2 => exact .ref h2
      | tup hs t => simp at h; exact .tup (sq hs) (all _ _ (by omega) t)
      | rol hs t => simp at h; exact .rol (rl hs) (all _ _ (by omega) t)
      | exc h1 x hd l t =>
        simp at h
        exact .exc (by rw [upd_ne (fun z => by subst z; rw [e] at h1; cases h1)]; exact h1) x (by rw [upd_ne (fun z => by subst z; rw [e] at hd; cases hd)]; exact hd) l (all _ _ (by omega) t)
  intro d v r
  exact go _ (Nat.le_refl _) r
theorem RelDs.relock {φ : List Addr} {H1 : Hp} {a : Addr} {kvs : List (Key × V)} {od : Obj} (e : H1 a = some (.frz od (.dK kvs))) : ∀ {ds : List D} {vs : List V}, RelDs X.K φ H1 ds vs → RelDs X.K φ (upd H1 a (.dK kvs)) ds vs
  | _, _, .nil => .nil
  | _, _, .cons h t => .cons (RelD.relock e h) (RelDs.relock e t)
theorem HR.unlock {φ : List Addr} {H1 : Hp} {mh : MH} {n : Nat} {a : Addr} {kds : List (Key × D)} {kvs : List (Key × V)} {od : Obj} (hh : HR X.K φ mh H1) (hn : φ[n]? = some a) (e : H1 a = some (.frz od (.dK kvs))) (rk : RelK X.K φ H1 kds kvs) :
    HR X.K φ (mh.set n (.dk kds)) (upd H1 a (.dK kvs)) := by
  refine ⟨by simp [hh.len], hh.nd, fun m b ob h1 h2 => ?_⟩
  by_cases hm : m = n
  · subst hm
    rw [hn] at h1; cases h1
    rw [List.getElem?_set_self (hh.lt hn)] at h2
    cases h2
    exact ⟨kvs, upd_same, rk.1, RelDs.relock e rk.2⟩
  · rw [List.getElem?_set_ne (Ne.symm hm)] at h2
    have hne : b ≠ a := fun z => hm (hh.inj h1 (z ▸ hn))
    have r := hh.ob m b ob h1 h2
    cases ob with
    | lst ds => obtain ⟨vs, h, r⟩ := r; exact ⟨vs, by rw [upd_ne hne]; exact h, RelDs.relock e r⟩
    | dk ds => obtain ⟨vs, h, r⟩ := r; exact ⟨vs, by rw [upd_ne hne]; exact h, r.1, RelDs.relock e r.2⟩
    | dt ds => obtain ⟨vs, h, r⟩ := r; exact ⟨vs, by rw [upd_ne hne]; exact h, r.1, RelDs.relock e r.2⟩
    | lk ds => obtain ⟨vs, o2, h, r⟩ := r; exact ⟨vs, o2, by rw [upd_ne hne]; exact h, r.1, RelDs.relock e r.2⟩
theorem pe_lk {e : Expr} {t : TE} (h : PE X e t) : PE X e fun σ H Q => t σ H Q ∨ tLockE t σ H Q := ⟨fun pins s σ H Q I q => by
  rcases q with q | q
  · exact h.run pins s σ H Q I q
  · exact (pe_lock h).run pins s σ H Q I q⟩
theorem se_lk (i : Nat) {e : Expr} {f : ME} (h : SE X W e f) : SE X W e (lkE i f) := (pe_lk h).imp (by
  rintro σ H Q ⟨φ, env, mh, re, hh, p⟩
  unfold lkE at p
  split at p
  · rename_i n he
    split at p
    · rename_i kds hx
      obtain ⟨v, hv, rv⟩ := re.at' i _ he
      cases rv with
      | ref hn =>
        rename_i a
        obtain ⟨kvs, e1, rk⟩ := hh.ob _ _ _ hn hx
        refine .inr ⟨a, .dK kvs, e1, trivial, fun od => ?_⟩
        obtain ⟨k, hl⟩ := hh.lock hn e1 rk od
        refine ⟨φ, env, mh.set n (.lk kds), re.mono (Px.refl φ) k, hl, ?_⟩
        cases hf : f env (mh.set n (.lk kds)) with
        | no => rw [hf] at p; exact p.elim
        | ex x mh' => rw [hf] at p; exact fun φ2 c d H2 p2 k2 h2 hx => p φ2 c d H2 p2 (k.trans k2) h2 hx
        | ok d mh' =>
          rw [hf] at p
          intro φ1 x H1 p1 k1 h1 r1
          have e3 := k1 a _ upd_same trivial
          refine ⟨e3, ?_⟩
          have p' : post X.K X.mg W (RelD X.K) σ φ H (match mh'[n]? with
            | some (.lk kds') => .ok d (mh'.set n (.dk kds'))
            | _ => .no) Q := p
          split at p'
          · rename_i kds' hx'
            obtain ⟨kvs', od', e2, rk'⟩ := h1.ob _ _ _ (p1.get hn) hx'
            rw [e3] at e2
            cases e2
            exact p' φ1 x _ p1 (Kp.unlock e1 k1) (h1.unlock (p1.get hn) e3 rk') (RelD.relock e3 r1)
          · exact p'.elim
    · exact .inl ⟨φ, env, mh, re, hh, p⟩
  · exact .inl ⟨φ, env, mh, re, hh, p⟩)
/-- a for over a dict that the i-th name holds -/
def lkS (i : Nat) (s : MS) : MS := fun env mh => match env[i]? with
  | some (some (.ref n)) => (match mh[n]? with
    | some (.dk kds) => (match s env (mh.set n (.lk kds)) with
      | .nx e h => (match h[n]? with | some (.lk kds') => .nx e (h.set n (.dk kds')) | _ => .no)
      | .bk e h => (match h[n]? with | some (.lk kds') => .bk e (h.set n (.dk kds')) | _ => .no)
      | .ct e h => (match h[n]? with | some (.lk kds') => .ct e (h.set n (.dk kds')) | _ => .no)
      | .rt d h => (match h[n]? with | some (.lk kds') => .rt d (h.set n (.dk kds')) | _ => .no)
      | .ex x e h => .ex x e h
      | .no => .no)
    | _ => s env mh)
  | _ => s env mh
theorem ps_lk {st : Stmt} {t : TS} (h : PS X st t) : PS X st fun D σ H => t D σ H ∨ tLock t D σ H := ⟨fun pins s σ H D I q => by
  rcases q with q | q
  · exact h.run pins s σ H D I q
  · exact (ps_lock h).run pins s σ H D I q⟩
theorem RelE.relock {φ : List Addr} {H1 : Hp} {a : Addr} {kvs : List (Key × V)} {od : Obj} {env : Nv} {σ : L2.St} (e : H1 a = some (.frz od (.dK kvs))) (r : RelE X.K φ H1 env σ) : RelE X.K φ (upd H1 a (.dK kvs)) env σ := ⟨r.len, fun i d h => by
  obtain ⟨v, h1, h2⟩ := r.at' i d h
  exact ⟨v, h1, RelD.relock e h2⟩⟩
theorem ss_lk (i : Nat) {st : Stmt} {s : MS} (h : SS X W st s) : SS X W st (lkS i s) := (ps_lk h).imp (by
  rintro D σ H ⟨φ, env, mh, re, hh, p⟩
  unfold lkS at p
  split at p
  · rename_i n he
    split at p
    · rename_i kds hx
      obtain ⟨v, hv, rv⟩ := re.at' i _ he
      cases rv with
      | ref hn =>
        rename_i a
        obtain ⟨kvs, e1, rk⟩ := hh.ob _ _ _ hn hx
        refine .inr ⟨a, .dK kvs, e1, trivial, fun od => ?_⟩
        obtain ⟨k, hl⟩ := hh.lock hn e1 rk od
        refine ⟨φ, env, mh.set n (.lk kds), re.mono (Px.refl φ) k, hl, ?_⟩
        cases hf : s env (mh.set n (.lk kds)) with
        | no => rw [hf] at p; exact p.elim
        | ex x e mh' => rw [hf] at p; exact fun φ2 c d σ2 H2 p2 k2 h2 re2 hx => p φ2 c d σ2 H2 p2 (k.trans k2) h2 re2 hx
        | rt d mh' =>
          rw [hf] at p
          intro φ1 x H1 p1 k1 h1 r1
          have e3 := k1 a _ upd_same trivial
          refine ⟨e3, ?_⟩
          simp only at p
          split at p
          · rename_i kds' hx'
            obtain ⟨kvs', od', e2, rk'⟩ := h1.ob _ _ _ (p1.get hn) hx'
            rw [e3] at e2
            cases e2
            exact p φ1 x _ p1 (Kp.unlock e1 k1) (h1.unlock (p1.get hn) e3 rk') (RelD.relock e3 r1)
          · exact p.elim
        | nx e mh' =>
          rw [hf] at p
          intro φ1 σ1 H1 p1 k1 h1 r1
          have e3 := k1 a _ upd_same trivial
          refine ⟨e3, ?_⟩
          simp only at p
          split at p
          · rename_i kds' hx'
            obtain ⟨kvs', od', e2, rk'⟩ := h1.ob _ _ _ (p1.get hn) hx'
            rw [e3] at e2
            cases e2
            exact p φ1 σ1 _ p1 (Kp.unlock e1 k1) (h1.unlock (p1.get hn) e3 rk') (RelE.relock e3 r1)
          · exact p.elim
        | bk e mh' =>
          rw [hf] at p
          intro φ1 σ1 H1 p1 k1 h1 r1
          have e3 := k1 a _ upd_same trivial
          refine ⟨e3, ?_⟩
          simp only at p
          split at p
          · rename_i kds' hx'
            obtain ⟨kvs', od', e2, rk'⟩ := h1.ob _ _ _ (p1.get hn) hx'
            rw [e3] at e2
            cases e2
            exact p φ1 σ1 _ p1 (Kp.unlock e1 k1) (h1.unlock (p1.get hn) e3 rk') (RelE.relock e3 r1)
          · exact p.elim
        | ct e mh' =>
          rw [hf] at p
          intro φ1 σ1 H1 p1 k1 h1 r1
          have e3 := k1 a _ upd_same trivial
          refine ⟨e3, ?_⟩
          simp only at p
          split at p
          · rename_i kds' hx'
            obtain ⟨kvs', od', e2, rk'⟩ := h1.ob _ _ _ (p1.get hn) hx'
            rw [e3] at e2
            cases e2
            exact p φ1 σ1 _ p1 (Kp.unlock e1 k1) (h1.unlock (p1.get hn) e3 rk') (RelE.relock e3 r1)
          · exact p.elim
    · exact .inl ⟨φ, env, mh, re, hh, p⟩
  · exact .inl ⟨φ, env, mh, re, hh, p⟩)
end
end Det
/-! Det, part Y: a locked dict walked by keys; pairs stored at once. -/
namespace Det
open PySem PySem.Spec PyProof.Rows L2
def keyD' : Key → D
  | .inl i => .int i
  | .inr x => .str x
def lkIs (n : Nat) (ks : List Key) (mh : MH) : Bool := match mh[n]? with
  | some (.lk kds) => decide (kds.map (·.1) = ks)
  | _ => false
/-- what is walked: a list, a tuple, a text, a locked dict -/
def itX (d : D) (mh : MH) : Option ItD := match d with
  | .ref n => match mh[n]? with
    | some (.lst xs) => some ⟨xs, lstIs n xs⟩
    | some (.lk kds) => some ⟨(kds.map (·.1)).map keyD', lkIs n (kds.map (·.1))⟩
    | _ => none
  | d => itD d mh
def iterX (f : ME) : MI := fun env mh => (f env mh).bind fun d mh1 => match itX d mh1 with | some it => .ok it mh1 | none => .no
section
variable {X : Cx} {W : WX} {tg : Expr}
theorem rel_key {φ : List Addr} {H : Hp} (k : Key) : RelD X.K φ H (keyD' k) (kV k) := by
  cases k with
  | inl i => exact .int i
  | inr x => exact .str x
theorem pi_two {l : Expr} {t1 t2 : TI} (h1 : PI X tg l t1) (h2 : PI X tg l t2) : PI X tg l fun σ H R => t1 σ H R ∨ t2 σ H R := ⟨fun pins s σ H R I q => by
  rcases q with q | q
  · exact h1.run pins s σ H R I q
  · exact h2.run pins s σ H R I q⟩
theorem itX_of {d : D} {mh : MH} (h : ∀ n kds, d = .ref n → mh[n]? ≠ some (.lk kds)) : itX d mh = itD d mh := by
  cases d with
  | ref n =>
    simp only [itX, itD]
    cases hn : mh[n]? with
    | none => rfl
    | some o =>
      cases o with
      | lk kds => exact absurd hn (h n kds rfl)
      | _ => rfl
  | _ => rfl
theorem si_iterX {e : Expr} {f : ME} (he : SE X W e f) : SI X W tg e (iterX f) := (pi_two (si_any he) (pi_keys he)).imp (by
  rintro σ H R ⟨φ, env, mh, re, hh, p⟩
  cases hf : f env mh with
  | no => unfold iterX at p; rw [hf] at p; exact p.elim
  | ex x m => exact .inl ⟨φ, env, mh, re, hh, by unfold iterX at p; unfold iter; rw [hf] at p ⊢; exact p⟩
  | ok d mh1 =>
    by_cases hk : ∃ n kds, d = .ref n ∧ mh1[n]? = some (.lk kds)
    · obtain ⟨n, kds, rfl, hx⟩ := hk
      unfold iterX at p
      rw [hf] at p
      have p' : post X.K X.mg W (ItOk X.K) σ φ H (.ok ⟨(kds.map (·.1)).map keyD', lkIs n (kds.map (·.1))⟩ mh1) R := by
        have e1 : itX (.ref n) mh1 = some ⟨(kds.map (·.1)).map keyD', lkIs n (kds.map (·.1))⟩ := by simp [itX, hx]
        have p2 : post X.K X.mg W (ItOk X.K) σ φ H (match itX (.ref n) mh1 with | some it => .ok it mh1 | none => .no) R := p
        rw [e1] at p2
        exact p2
      refine .inr ⟨φ, env, mh, re, hh, ?_⟩
      rw [hf]
      intro φ1 v H1 p1 k1 h1 r1
      cases r1 with
      | ref hn =>
        rename_i a
        obtain ⟨kvs, od, e1, rk⟩ := h1.ob _ _ _ hn hx
        refine ⟨a, od, rfl, .inl ⟨kvs, e1, p' φ1 _ H1 p1 k1 h1 ?_⟩⟩
        intro i φ' mh' H' px kp hh' _
        have e2 : H' a = some (.frz od (.dK kvs)) := kp a _ e1 trivial
        have hlen : kds.length = kvs.length := rk.len
        refine ⟨fun d hd => ?_, fun hl => ⟨e2, by simpa [hlen] using hl⟩⟩
        have hi : i < kds.length := by
          have := (List.getElem?_eq_some_iff.mp hd).1
          simpa using this
        refine ⟨⟨e2, by omega⟩, ?_⟩
        rintro x H2 ⟨rfl, k, v, hkv, rfl⟩
        have ek : (kds.map (·.1))[i]? = some k := by rw [rk.1, List.getElem?_map, hkv]; rfl
        rw [List.getElem?_map, ek] at hd
        cases hd
        exact ⟨Kp.refl _, hh', rel_key k⟩
    · refine .inl ⟨φ, env, mh, re, hh, ?_⟩
      have e1 : itX d mh1 = itD d mh1 := itX_of fun n kds e h => hk ⟨n, kds, e, h⟩
      unfold iterX at p
      unfold iter
      rw [hf] at p ⊢
      have p2 : post X.K X.mg W (ItOk X.K) σ φ H (match itX d mh1 with | some it => .ok it mh1 | none => .no) R := p
      rw [e1] at p2
      exact p2)
end
end Det
/-! Det, part Z: names stored at once, [::-1]. -/
namespace Det
open PySem PySem.Spec PyProof.Rows L2
/-- a, b = x, y -/
def par2 (i j : Nat) (f : MA) : MS := fun env mh => lift (f env mh) env fun ds mh1 => match ds with
  | [d, e] => .nx ((env.set i (some d)).set j (some e)) mh1
  | _ => .no
section
variable {X : Cx} {W : WX}
theorem ss_par2 {i j : Nat} {x y : Str} {a b : Expr} {fa : MA} {px py pt pos : Pos} {kt k2 : Nat} {pt2 : Pos} (hc : X.calm = true) (hN : X.N.Nodup) (ha : SA X W [a, b] fa) (hij : i ≠ j) (hi : X.N[i]? = some x := by rfl) (hj : X.N[j]? = some y := by rfl)
    (hx : X.env.scope.names.lookup x = some .local := by rfl) (hy : X.env.scope.names.lookup y = some .local := by rfl)
    (hw : swappedStores [.Tuple [.Name x px, .Name y py] kt pt] (.Tuple [a, b] k2 pt2) X.env = pure (some [x, y]) := by rfl)
    (hs : swapsWithSole [.Tuple [.Name x px, .Name y py] kt pt] (.Tuple [a, b] k2 pt2) pos.line X.env = pure false := by rfl) :
    SS X W (.Assign [.Tuple [.Name x px, .Name y py] kt pt] (.Tuple [a, b] k2 pt2) pos) (par2 i j fa) := (ps_par hc hN hi hj hij hx hy ha hw hs).imp (by
  rintro D σ H ⟨φ, env, mh, re, hh, p⟩
  refine ⟨φ, env, mh, re, hh, post_mono (Px.refl φ) (Kp.refl H) (post_lift (R := RelDs X.K) re p) ?_⟩
  rintro vs H1 ⟨φ1, ds, mh1, p1, k1, h1, r1, q⟩
  split at q
  · rename_i d e
    cases r1 with
    | cons rd t =>
      cases t with
      | cons rd2 t2 =>
        cases t2
        exact ⟨_, _, rfl, q φ1 _ H1 (Px.refl φ1) (Kp.refl H1) h1 (((re.mono p1 k1).set rd i).set rd2 j)⟩
  · exact q.elim)
end
/-! ### xs[::-1], xs a list or a tuple -/
section
variable {prog : Program} {w : World} {A : Around} {E : Value → Shared → Prop} {s : Shared}
theorem adjust_rev (n : Nat) : Builtin.Slice.sliceAdjust none none (-1) (n : Int) = ((n : Int) - 1, -1) := by
  unfold Builtin.Slice.sliceAdjust
  simp
theorem places_rev (n : Nat) : Builtin.Slice.slicePlaces ((n : Int) - 1) (-1) (-1) = n := by
  unfold Builtin.Slice.slicePlaces
  have h1 : ¬ ((-1 : Int) > 0) := by omega
  simp only [h1, if_false]
  split
  · rename_i h
    rw [show (- -1 : Int) = 1 by decide, Int.ediv_one]
    omega
  · omega
theorem applied_rev {sl : Addr} {u : Tok} {n : Nat} {Q : Int × Int × Nat → Shared → Prop} (hs : s.heap.IsSliceOf sl .none .none (.int (-1) u)) (h : Q ((n : Int) - 1, -1, n) s) : wpAny (model prog w) A (Builtin.Slice.sliceApplied (.ref sl) (pure (n : Int))) Q E s := by
  obtain ⟨os, hos, hcs, hds⟩ := id hs
  unfold Builtin.Slice.sliceApplied Builtin.Slice.sliceFields
  refine wpAny_bind (wpAny_bind (wpAny_field hos hds (x := .none) rfl (wpAny_bind (wpAny_field hos hds (x := .none) rfl (wpAny_bind (wpAny_field hos hds (x := .int (-1) u) rfl (wpAny_pure ?_)))))))
  refine wpAny_bind (slicePart_int ?_)
  show wpAny _ _ (if ((-1 : Int) == 0) = true then _ else _) _ _ s
  rw [if_neg (by decide)]
  refine wpAny_bind (slicePart_none (wpAny_bind (slicePart_none (wpAny_bind (wpAny_pure ?_)))))
  show wpAny _ _ (match Builtin.Slice.sliceAdjust none none (-1) (n : Int) with | (lo, hi) => pure (lo, (-1 : Int), Builtin.Slice.slicePlaces lo hi (-1))) _ _ s
  rw [adjust_rev]
  show wpAny _ _ (pure ((n : Int) - 1, (-1 : Int), Builtin.Slice.slicePlaces ((n : Int) - 1) (-1) (-1))) _ _ s
  rw [places_rev]
  exact wpAny_pure h
theorem pick_all {α : Type} : ∀ (l : List α), (List.range l.length).filterMap (fun k => l[k]?) = l
  | [] => rfl
  | a :: l => by
    rw [List.length_cons, List.range_succ_eq_map, List.filterMap_cons_some (b := a) (by rfl), List.filterMap_map]
    have : ((fun k => (a :: l)[k]?) ∘ Nat.succ) = fun k => l[k]? := by funext k; simp
    rw [this, pick_all l]
theorem fm_congr {α β : Type} {f g : α → Option β} : ∀ (l : List α), (∀ a ∈ l, f a = g a) → l.filterMap f = l.filterMap g
  | [], _ => rfl
  | a :: l, h => by
    rw [List.filterMap_cons, List.filterMap_cons, h a List.mem_cons_self, fm_congr l fun b hb => h b (List.mem_cons_of_mem _ hb)]
theorem pick_rev (xs : Array Value) : ((List.range xs.size).filterMap fun (m : Nat) => xs[(((xs.size : Int) - 1) + (m : Int) * (-1)).toNat]?).toArray = xs.toList.reverse.toArray := by
  congr 1
  have h := pick_all xs.toList.reverse
  rw [List.length_reverse, Array.length_toList] at h
  refine Eq.trans (fm_congr _ fun k hk => ?_) h
  have hk := List.mem_range.mp hk
  have e : (((xs.size : Int) - 1) + (k : Int) * (-1)).toNat = xs.size - 1 - k := by omega
  rw [e, List.getElem?_reverse (by simpa using hk), Array.length_toList]
  simp
theorem item_rev {t sl : Addr} {its : Array Value} {u : Tok} {Q : Value → Shared → Prop} (ht : IsTup s.heap t its) (hs : s.heap.IsSliceOf sl .none .none (.int (-1) u))
    (h : Q (.ref s.heap.objs.size) { s with heap := s.heap.push { cls := .type "tuple", data := .seq its.toList.reverse.toArray } }) (hsz : its.size ≤ sizeLine) : wpAny (model prog w) A (getItem (.ref t) (.ref sl)) Q E s := by
  have fit : sizeOk (.seq its.toList.reverse.toArray) := by
    show its.toList.reverse.toArray.size ≤ sizeLine
    simpa using hsz
  obtain ⟨os, hos, hcs, hds⟩ := id hs
  have hTs : s.TypeIs (.ref sl) "slice" := ⟨os, hos, hcs⟩
  unfold getItem
  try with_reducible refine wpAny_holding ?_
  first | refine wpAny_bind (wpAny_pure ?_) | skip
  refine wpAny_bind (wpAny_sequenceKey ht.typeIs (by decide) ?_)
  refine wpAny_bind (wpAny_callSpecial?_slot (name := Str.ofString "__getitem__") ht.typeIs PyProof.Rows.slot_tuple_getitem
    (wpAny_call_entry PyProof.Rows.slot_tuple_getitem ht.typeIs entry_tuple_getitem ?_ (args_tuple_getitem _ _)))
  show wpAny _ _ (Builtin.Tuple.tupleItemsOf (.ref t) >>= _) _ _ s
  refine wpAny_bind (tupleItemsOf_ ht ?_)
  refine wpAny_bind (wpAny_typeOf hTs ?_)
  rw [if_pos (by decide)]
  refine wpAny_bind (applied_rev hs ?_)
  show wpAny _ _ (if (((its.size : Int) - 1 == 0) && ((-1 : Int) == 1) && (its.size == its.size)) = true then _ else _) _ _ s
  rw [if_neg (by simp), pick_rev]
  first
    | exact wpAny_bind (m := Builtin.Tuple.tupleExact _) (wpAny_newObj_type (wpAny_pure ⟨_, rfl, wpAny_pure h⟩) fit)
    | exact wpAny_bind (m := Builtin.Tuple.tupleExact _) (wpAny_newObj_type (wpAny_bind (wpAny_pure (wpAny_pure ⟨_, rfl, wpAny_pure h⟩))) fit)
    | exact wpAny_bind (wpAny_bind (m := Builtin.Tuple.tupleExact _) (wpAny_newObj_type (wpAny_pure (wpAny_pure ⟨_, rfl, wpAny_pure h⟩)) fit))
    | exact wpAny_bind (wpAny_bind (m := Builtin.Tuple.tupleExact _) (wpAny_newObj_type (wpAny_pure ⟨_, rfl, wpAny_pure h⟩) fit))
end
def oRev : Op1 := fun a mh => match a with
  | .tup xs => some (.tup xs.reverse, mh)
  | .rol xs => some (.ref mh.length, mh ++ [.lst xs.reverse])
  | .ref n => match mh[n]? with
    | some (.lst xs) => some (.ref mh.length, mh ++ [.lst xs.reverse])
    | _ => none
  | _ => none
def tRevX (K : PySem.W.Frag) (te : TE) : TE := fun σ H Q => te σ H fun x H1 => ∃ a xs, x = .ref a ∧ ((SqL K H1 a xs ∧ ∀ p, H1 p = none → Q (.ref p) (upd H1 p (.lst xs.reverse))) ∨ (SqT K H1 a xs ∧ ∀ p, H1 p = none → Q (.ref p) (upd H1 p (.tup xs.reverse))))
section
variable {X : Cx} {W : WX}
theorem pe_revX {e : Expr} {te : TE} {k : Nat} {p1 p2 p3 pos : Pos} (he : PE X e te) : PE X (.Subscript e (.Slice none none (some (.UnaryOp .USub (.Constant (.int 1) k p1) p2)) p3) pos) (tRevX X.K te) := by
  refine ⟨fun pins s σ H Q I h => ?_⟩
  refine Subscript_ (thn (he.run pins s σ H _ I h) fun v s1 ⟨x, H1, I1, r1, q1⟩ => ?_)
  obtain ⟨a, xs, ex, q⟩ := q1
  subst ex
  cases r1
  have stp : PO X (some (.UnaryOp .USub (.Constant (.int 1) k p1) p2)) (tPart (tUn (rU fun i => .int (-i)) (tC (.int 1)))) := po_some (pe_un un_neg pe_int)
  refine wpAny_Slice (thn (po_none.run pins s1 σ H1 (fun o H2 => o = none ∧ H2 = H1) I1 ⟨rfl, rfl⟩) fun vl s2 ⟨l, H2, I2, pl, el, e2⟩ => ?_)
  subst el; subst e2
  refine thn (po_none.run pins s2 σ H2 (fun o H3 => o = none ∧ H3 = H2) I2 ⟨rfl, rfl⟩) fun vu s3 ⟨u, H3, I3, pu, eu, e3⟩ => ?_
  subst eu; subst e3
  refine thn (stp.run pins s3 σ H3 (fun o H4 => o = some (-1) ∧ H4 = H3) I3 ⟨1, rfl, -1, rfl, rfl, rfl⟩) fun vs s4 ⟨o, H4, I4, ps, eo, e4⟩ => ?_
  subst eo; subst e4
  have I5 : Inv X pins σ H4 { s4 with heap := s4.heap.push { cls := .type "slice", data := .fields #[vl, vu, vs] } } := I4.kept (t' := s4.toks) fun b ob q => Heap.get?_push_of_some _ q
  rcases q with ⟨hx, q⟩ | ⟨hx, q⟩
  · obtain ⟨its, r, ht, hz⟩ := I5.list hx
    have hlen := r.length
    refine tail_any (ops := [.ref a, .ref s4.heap.objs.size]) ht.isList.typeIs (PySem.slot_list_getitem.lookup) ?_ (by with_unfolding_all rfl)
    refine wpAny_getItem_list_slice ht.isList (Heap.IsSliceOf.new _ vl vu vs) pl pu ps (by decide) ?_ (by rw [List.size_toArray]; omega)
    rw [PySem.W.krv_pick]
    refine ⟨.ref _, _, I5.laid (t' := s4.toks) (o := .lst xs.reverse) (fun b ob q => Heap.get?_push_of_some _ q) (Nat.le_refl _) ?_, rfl, q _ (I5.hok.fresh (Nat.le_refl _))⟩
    exact ⟨by rw [List.length_reverse]; exact hz, _, 0, r.reverse, Heap.get?_push_size _ rfl⟩
  · obtain ⟨its, r, ht, hz⟩ := I5.tuple hx
    have hlen := r.length
    cases pl
    cases pu
    cases ps with
    | int i t =>
      refine tail_any (ops := [.ref a, .ref s4.heap.objs.size]) ht.typeIs (PyProof.Rows.slot_tuple_getitem.lookup) ?_ (by with_unfolding_all rfl)
      refine item_rev ht (Heap.IsSliceOf.new _ _ _ _) ?_ (by rw [List.size_toArray]; omega)
      refine ⟨.ref _, _, I5.laid (t' := s4.toks) (o := .tup xs.reverse) (fun b ob q => Heap.get?_push_of_some _ q) (Nat.le_refl _) ?_, rfl, q _ (I5.hok.fresh (Nat.le_refl _))⟩
      exact ⟨by rw [List.length_reverse]; exact hz, _, r.reverse, ⟨_, Heap.get?_push_size _ rfl, rfl, _, rfl⟩⟩
theorem se_rev {e : Expr} {f : ME} {k : Nat} {p1 p2 p3 pos : Pos} (he : SE X W e f) : SE X W (.Subscript e (.Slice none none (some (.UnaryOp .USub (.Constant (.int 1) k p1) p2)) p3) pos) (un oRev f) := (pe_revX he).imp (by
  rintro σ H Q ⟨φ, env, mh, re, hh, p⟩
  refine ⟨φ, env, mh, re, hh, post_mono (Px.refl φ) (Kp.refl H) (post_bind (R1 := RelD X.K) p) ?_⟩
  rintro x H1 ⟨φ1, d, mh1, p1, k1, h1, r1, q⟩
  have q2 := post_ofO q
  cases r1 with
  | tup hs rs => exact ⟨_, _, rfl, .inr ⟨hs, fun a ha => postO_tup h1 q2 rs.rev ha⟩⟩
  | rol hs rs => exact ⟨_, _, rfl, .inl ⟨hs.seq, fun a ha => postO_new h1 q2 rs.rev ha⟩⟩
  | ref hn =>
    simp only [oRev] at q2
    split at q2
    · rename_i xs hx
      obtain ⟨vs, e1, rs⟩ := h1.lst hn hx
      exact ⟨_, vs, rfl, .inl ⟨SqL.of e1, fun a ha => postO_new h1 q2 rs.rev ha⟩⟩
    · exact q2.elim
  | _ => exact q2.elim)
end
end Det
/-! Det, part Ca: xs.count(k), xs a list of ints. -/
namespace Det
open PySem PySem.Spec PyProof.Rows L2
def intsOf : List D → Option (List Int)
  | [] => some []
  | .int i :: ds => (intsOf ds).map (i :: ·)
  | _ :: _ => none
theorem intsOf_rel {K : PySem.W.Frag} {φ : List Addr} {H : Hp} : ∀ {ds : List D} {vs : List V} {ns : List Int}, RelDs K φ H ds vs → intsOf ds = some ns → vs = ns.map V.int := by
  intro ds
  induction ds with
  | nil => intro vs ns r h; cases r; cases h; rfl
  | cons d ds ih =>
    intro vs ns r h
    cases r with
    | cons rd t =>
      cases d <;> simp only [intsOf, reduceCtorEq] at h
      cases hh : intsOf ds with
      | none => rw [hh] at h; cases h
      | some ms =>
        rw [hh] at h
        cases h
        cases rd
        rw [ih t hh]
        rfl
theorem intsOf_map (ns : List Int) : intsOf (ns.map D.int) = some ns := by
  induction ns with
  | nil => rfl
  | cons n ns ih => simp only [List.map_cons, intsOf, ih, Option.map_some]
def lcnt (fo f : ME) : ME := fun env mh => (fo env mh).bind fun o mh1 => match o with
  | .ref n => (match mh1[n]? with
    | some (.lst _) => (f env mh1).bind fun d mh2 => (match d, mh2[n]? with
      | .int k, some (.lst xs) => (match intsOf xs with
        | some ns => .ok (.int (ns.count k : Nat)) mh2
        | none => .no)
      | _, _ => .no)
    | _ => .no)
  | _ => .no
section
variable {X : Cx} {W : WX}
theorem se_lcnt {o e : Expr} {fo f : ME} {apos cpos : Pos} (ho : SE X W o fo) (he : SE X W e f) (hbase : attributeBase o "count" X.env (eval o X.env) = eval o X.env := by rfl) (hline : (apos.endLine == cpos.line) = true := by rfl)
    (hfew : ((backTo cpos (starEach [e] X.env)).all (fun x => !x.1) && (backToKw cpos (keywordEach [] X.env)).all (fun x => x.1.isSome) && decide (([e] : List Expr).length + ([] : List Keyword).length + (if ([] : List Keyword).isEmpty then 0 else 1) < 30)) = true := by rfl)
    (hst : starEach (e :: []) X.env = (false, eval e X.env) :: starEach [] X.env := by rfl) (hplain : (backTo cpos (starEach [] X.env)).any (·.1) = false := by rfl) : SE X W (.Call (.Attribute o "count" apos) [e] [] cpos) (lcnt fo f) :=
  (pe_bm PySem.F.plainAttrs_list PySem.F.slot_list_count PySem.F.type_list_count mt_lcount ho (pa_cons he pa_nil hst) hbase hfew hline hst hplain).imp (by
  rintro σ H Q ⟨φ, env, mh, re, hh, p⟩
  refine ⟨φ, env, mh, re, hh, post_mono (Px.refl φ) (Kp.refl H) (post_bind (R1 := RelD X.K) p) ?_⟩
  rintro x H1 ⟨φ1, d, mh1, p1, k1, h1, r1, q⟩
  cases r1 with
  | ref hn =>
    rename_i n a
    try simp only at q
    split at q
    · rename_i xs0 hx0
      obtain ⟨vs0, e0, _⟩ := h1.lst hn hx0
      refine ⟨.inl ⟨rfl, vs0, SqL.of e0⟩, φ1, env, mh1, re.mono p1 k1, h1, post_mono (Px.refl φ1) (Kp.refl H1) (post_bind (R1 := RelD X.K) q) ?_⟩
      rintro y H2 ⟨φ2, d2, mh2, p2, k2, h2, r2, q2⟩
      try simp only at q2
      split at q2
      · rename_i k xs hx
        split at q2
        · rename_i ns hns
          cases r2
          obtain ⟨vs, e1, rs⟩ := h2.lst (p2.get hn) hx
          have ev := intsOf_rel rs hns
          subst ev
          exact ⟨a, ns, k, rfl, rfl, SqL.of e1, q2 φ2 _ H2 (Px.refl φ2) (Kp.refl H2) h2 (.int _)⟩
        · exact q2.elim
      · exact q2.elim
    · exact q.elim
  | _ => exact q.elim)
end
end Det
/-! Det, part Cb: calls of a module's built-in function under its own name (from math import gcd). -/
namespace Det
open PySem PySem.Spec PyProof.Rows L2
def oGcd : OpA := fun as mh => match as with
  | [.int a, .int b] => some (.int ((Nat.gcd a.natAbs b.natAbs : Nat) : Int), mh)
  | _ => none
section
variable {X : Cx} {W : WX} {fa : MA}
theorem r_gcd : CallR X (.builtin "math.gcd") (iRA X.K oGcd) := by
  rintro pins s σ H xs us Q I r ⟨φ, mh, as, ra, hh, p⟩
  unfold oGcd at p
  split at p
  · obtain ⟨v, w, rfl, rv, rw'⟩ := ra.two
    cases rv
    cases rw'
    exact cr_gcd pins s σ H _ us Q I r ⟨_, _, rfl, postO_val hh p (.int _)⟩
  · exact p.elim
theorem se_bfun {id : String} {o : OpA} {x : Str} {p pos : Pos} {e : Expr} {es : List Expr} (hc : CallR X (.builtin id) (iRA X.K o)) (hm : X.mg x = some (.builtin id)) (ha : SA X W (e :: es) fa) (hg : Gl X x := by rfl)
    (hdb : (x == ("__debug__" : Str)) = false := by decide)
    (he : starEach (e :: es) X.env = (false, eval e X.env) :: starEach es X.env := by rfl) (hpl : (backTo pos (starEach es X.env)).any (·.1) = false := by rfl) :
    SE X W (.Call (.Name x p) (e :: es) [] pos) (ap o fa) := (pe_callBfun hc hg hm ha hdb he hpl).imp (impA fun _ _ _ h => h)
end
end Det
/-! Det, part Cc: zip of two lists or of two tuples. -/
namespace Det
open PySem PySem.Spec PyProof.Rows L2 RZ
def zipF (xs ys : List D) : List D := List.zipWith (fun a b => .tup [a, b]) xs ys
def lstOf (mh : MH) : D → Option (List D × (MH → Bool))
  | .rol xs => some (xs, fun _ => true)
  | .ref n => match mh[n]? with
    | some (.lst xs) => some (xs, lstIs n xs)
    | _ => none
  | _ => none
def zpp (fa : MA) : MI := fun env mh => (fa env mh).bind fun ds mh1 => match ds with
  | [.tup xs, .tup ys] => .ok ⟨zipF xs ys, fun _ => true⟩ mh1
  | [d, e] => match lstOf mh1 d, lstOf mh1 e with
    | some (xs, c), some (ys, c2) => .ok ⟨zipF xs ys, fun m => c m && c2 m⟩ mh1
    | _, _ => .no
  | _ => .no
section
variable {X : Cx} {W : WX}
theorem lstOf_ok {φ : List Addr} {mh : MH} {H : Hp} {d : D} {v : V} {xs : List D} {c : MH → Bool} (hh : HR X.K φ mh H) (r : RelD X.K φ H d v) (h : lstOf mh d = some (xs, c)) :
    ∃ a vs, v = .ref a ∧ SqL X.K H a vs ∧ ∀ φ' mh' H', Px φ φ' → Kp H H' → HR X.K φ' mh' H' → c mh' = true → ∃ vs : List V, RelDs X.K φ' H' xs vs ∧ SqL X.K H' a vs := by
  cases r with
  | rol hs rs =>
    rename_i a ds vs
    cases h
    exact ⟨a, vs, rfl, hs.seq, fun φ' mh' H' p' k' _ _ => ⟨vs, rs.mono p' k', (k'.roL hs).seq⟩⟩
  | ref hn =>
    rename_i n a
    simp only [lstOf] at h
    split at h
    · rename_i zs hx
      cases h
      obtain ⟨vs, e1, rs⟩ := hh.lst hn hx
      refine ⟨a, vs, rfl, SqL.of e1, fun φ' mh' H' p' k' hh' hc => ?_⟩
      unfold lstIs at hc
      split at hc
      · rename_i ys hy
        have ey := of_decide_eq_true hc
        subst ey
        obtain ⟨ws, e2, rs2⟩ := hh'.lst (p'.get hn) hy
        exact ⟨ws, rs2, SqL.of e2⟩
      · cases hc
    · cases h
  | _ => cases h
theorem zipF_get {xs ys : List D} {i : Nat} {d : D} (h : (zipF xs ys)[i]? = some d) : ∃ a b, xs[i]? = some a ∧ ys[i]? = some b ∧ d = .tup [a, b] := by
  unfold zipF at h
  rw [List.getElem?_zipWith] at h
  split at h
  · rename_i a b e1 e2
    cases h
    exact ⟨a, b, e1, e2, rfl⟩
  · cases h
theorem zipF_end {xs ys : List D} {i : Nat} (h : (zipF xs ys).length ≤ i) : xs.length ≤ i ∨ ys.length ≤ i := by
  unfold zipF at h
  rw [List.length_zipWith] at h
  omega
theorem itOk_zpL {φ : List Addr} {H : Hp} {a b : Addr} {xs ys : List D} {ck : MH → Bool}
    (h : ∀ φ' mh' H', Px φ φ' → Kp H H' → HR X.K φ' mh' H' → ck mh' = true → ∃ vs ws : List V, RelDs X.K φ' H' xs vs ∧ SqL X.K H' a vs ∧ RelDs X.K φ' H' ys ws ∧ SqL X.K H' b ws) : ItOk X.K φ H ⟨zipF xs ys, ck⟩ (Itz X.K a b) := by
  intro i φ' mh' H' p k hh hc
  obtain ⟨vs, ws, rs, hs, rs2, hs2⟩ := h φ' mh' H' p k hh hc
  refine ⟨fun d hd => ?_, fun hl => ⟨vs, ws, hs, hs2, ?_⟩⟩
  · obtain ⟨d1, d2, e1, e2, rfl⟩ := zipF_get hd
    obtain ⟨v, hv, rv⟩ := rs.get e1
    obtain ⟨w, hw, rw'⟩ := rs2.get e2
    refine ⟨⟨vs, ws, v, w, hs, hs2, hv, hw⟩, ?_⟩
    rintro x H2 ⟨T, y, z, rfl, hT, rfl, hy, hz⟩
    have f1 := hy vs hs
    rw [hv] at f1
    cases f1
    have f2 := hz ws hs2
    rw [hw] at f2
    cases f2
    exact yl_tup hh hT (.cons rv (.cons rw' .nil))
  · rw [← rs.length, ← rs2.length]
    exact zipF_end hl
theorem itOk_zpT {φ : List Addr} {H : Hp} {a b : Addr} {xs ys : List D} {ck : MH → Bool}
    (h : ∀ φ' mh' H', Px φ φ' → Kp H H' → HR X.K φ' mh' H' → ck mh' = true → ∃ vs ws : List V, RelDs X.K φ' H' xs vs ∧ SqT X.K H' a vs ∧ RelDs X.K φ' H' ys ws ∧ SqT X.K H' b ws) : ItOk X.K φ H ⟨zipF xs ys, ck⟩ (ItzT X.K a b) := by
  intro i φ' mh' H' p k hh hc
  obtain ⟨vs, ws, rs, hs, rs2, hs2⟩ := h φ' mh' H' p k hh hc
  refine ⟨fun d hd => ?_, fun hl => ⟨vs, ws, hs, hs2, ?_⟩⟩
  · obtain ⟨d1, d2, e1, e2, rfl⟩ := zipF_get hd
    obtain ⟨v, hv, rv⟩ := rs.get e1
    obtain ⟨w, hw, rw'⟩ := rs2.get e2
    refine ⟨⟨vs, ws, v, w, hs, hs2, hv, hw⟩, ?_⟩
    rintro x H2 ⟨T, y, z, rfl, hT, rfl, hy, hz⟩
    have f1 := hy vs hs
    rw [hv] at f1
    cases f1
    have f2 := hz ws hs2
    rw [hw] at f2
    cases f2
    exact yl_tup hh hT (.cons rv (.cons rw' .nil))
  · rw [← rs.length, ← rs2.length]
    exact zipF_end hl
theorem si_zip {e e2 : Expr} {fa : MA} {p pos tpos : Pos} {elts : List Expr} {kk : Nat} (hm : X.mg "zip" = none) (ha : SA X W [e, e2] fa) (hg : Gl X "zip" := by rfl)
    (hs : starEach [e, e2] X.env = (false, eval e X.env) :: starEach [e2] X.env := by rfl) (hpl : (backTo pos (starEach [e2] X.env)).any (·.1) = false := by rfl) :
    SI X W (.Tuple elts kk tpos) (.Call (.Name "zip" p) [e, e2] [] pos) (zpp fa) := (pi_zipA hg hm ha hs hpl).imp (by
  rintro σ H R ⟨φ, env, mh, re, hh, p⟩
  refine ⟨φ, env, mh, re, hh, post_mono (Px.refl φ) (Kp.refl H) (post_bind (R1 := RelDs X.K) p) ?_⟩
  rintro us H1 ⟨φ1, ds, mh1, p1, k1, h1, r1, q⟩
  split at q
  · rename_i xs ys
    obtain ⟨v, w, rfl, rv, rw'⟩ := r1.two
    cases rv with
    | tup hs rs =>
      cases rw' with
      | tup hs2 rs2 =>
        exact ⟨_, _, _, _, rfl, .inr ⟨hs, hs2, q φ1 _ H1 (Px.refl φ1) (Kp.refl H1) h1 (itOk_zpT fun φ' mh' H' p' k' _ _ => ⟨_, _, rs.mono p' k', k'.seqT hs, rs2.mono p' k', k'.seqT hs2⟩)⟩⟩
  · rename_i d e _
    obtain ⟨v, w, rfl, rv, rw'⟩ := r1.two
    split at q
    · rename_i xs c ys c2 e1 e2
      obtain ⟨a, vs, rfl, hs, f⟩ := lstOf_ok h1 rv e1
      obtain ⟨b, ws, rfl, hs2, f2⟩ := lstOf_ok h1 rw' e2
      refine ⟨a, b, vs, ws, rfl, .inl ⟨hs, hs2, q φ1 _ H1 (Px.refl φ1) (Kp.refl H1) h1 (itOk_zpL fun φ' mh' H' p' k' hh' hc => ?_)⟩⟩
      have hc' : (c mh' && c2 mh') = true := hc
      rw [Bool.and_eq_true] at hc'
      obtain ⟨vs', r3, s3⟩ := f φ' mh' H' p' k' hh' hc'.1
      obtain ⟨ws', r4, s4⟩ := f2 φ' mh' H' p' k' hh' hc'.2
      exact ⟨vs', ws', r3, s3, r4, s4⟩
    · exact q.elim
  · exact q.elim)
end
end Det
/-! Det, part Da: what a def lays for itself is dropped at its end; a list that it hands back is known from then on. -/
namespace Det
open PySem PySem.Spec PyProof.Rows L2
mutual
/-- no place of the small heap from n on is named -/
def D.blw (n : Nat) : D → Bool
  | .non => true
  | .bl _ => true
  | .int _ => true
  | .str _ => true
  | .ty _ => true
  | .ref m => decide (m < n)
  | .tup xs => D.blws n xs
  | .rol xs => D.blws n xs
  | .exc _ _ xs => D.blws n xs
def D.blws (n : Nat) : List D → Bool
  | [] => true
  | d :: ds => D.blw n d && D.blws n ds
end
def Ob.blw (n : Nat) : Ob → Bool
  | .lst xs => D.blws n xs
  | .dk kvs => D.blws n (kvs.map (·.2))
  | .dt kvs => D.blws n (kvs.map (·.2))
  | .lk kvs => D.blws n (kvs.map (·.2))
/-- what stood stands, or names nothing new -/
def Kept (mh mh' : MH) : Prop := mh.length ≤ mh'.length ∧ ∀ i o, i < mh.length → mh'[i]? = some o → mh[i]? = some o ∨ o.blw mh.length = true
open Classical in
noncomputable def cutR (mh : MH) (r : Res D) : Res D := match r with
  | .ok d mh' => if d.blw mh.length = true ∧ Kept mh mh' then .ok d (mh'.take mh.length) else .no
  | .ex x mh' => if D.blws mh.length (x.fs.map (·.2)) = true ∧ Kept mh mh' then .ex x (mh'.take mh.length) else .no
  | .no => .no
open Classical in
/-- as cutR; a new list is frozen -/
noncomputable def fzR (mh : MH) (r : Res D) : Res D := match r with
  | .ok (.ref n) mh' => if mh.length ≤ n then (match mh'[n]? with
    | some (.lst xs) => if D.blws mh.length xs = true ∧ Kept mh mh' then .ok (.rol xs) (mh'.take mh.length) else .no
    | _ => .no) else cutR mh r
  | r => cutR mh r
section
variable {K : PySem.W.Frag} {φ φ' : List Addr} {H H' : Hp} {mh mh' : MH} {mg : MGl} {W : WX} {σ : L2.St}
mutual
theorem RelD.cut (p : Px φ φ') : ∀ {d : D} {v : V}, RelD K φ' H d v → d.blw φ.length = true → RelD K φ H d v
  | _, _, .non, _ => .non
  | _, _, .bl b, _ => .bl b
  | _, _, .int i, _ => .int i
  | _, _, .str x, _ => .str x
  | _, _, .ty n, _ => .ty n
  | .ref n, _, .ref h, b => by
    have hl : n < φ.length := by simpa [D.blw] using b
    obtain ⟨t, rfl⟩ := p
    rw [List.getElem?_append_left hl] at h
    exact .ref h
  | _, _, .tup h hs, b => .tup h (RelDs.cut p hs (by simpa [D.blw] using b))
  | _, _, .rol h hs, b => .rol h (RelDs.cut p hs (by simpa [D.blw] using b))
  | _, _, .exc h x hd l hs, b => .exc h x hd l (RelDs.cut p hs (by simpa [D.blw] using b))
theorem RelDs.cut (p : Px φ φ') : ∀ {ds : List D} {vs : List V}, RelDs K φ' H ds vs → D.blws φ.length ds = true → RelDs K φ H ds vs
  | _, _, .nil, _ => .nil
  | d :: ds, _, .cons h t, b => by
    have b' : d.blw φ.length = true ∧ D.blws φ.length ds = true := by simpa [D.blws] using b
    exact .cons (RelD.cut p h b'.1) (RelDs.cut p t b'.2)
end
mutual
theorem RelD.bel : ∀ {d : D} {v : V}, RelD K φ H d v → d.blw φ.length = true
  | _, _, .non => rfl
  | _, _, .bl b => rfl
  | _, _, .int i => rfl
  | _, _, .str x => rfl
  | _, _, .ty n => rfl
  | .ref n, _, .ref h => by
    have := (List.getElem?_eq_some_iff.mp h).1
    simpa [D.blw] using this
  | _, _, .tup h hs => by simpa [D.blw] using RelDs.bel hs
  | _, _, .rol h hs => by simpa [D.blw] using RelDs.bel hs
  | _, _, .exc h x hd l hs => by simpa [D.blw] using RelDs.bel hs
theorem RelDs.bel : ∀ {ds : List D} {vs : List V}, RelDs K φ H ds vs → D.blws φ.length ds = true
  | _, _, .nil => rfl
  | d :: ds, _, .cons h t => by
    have h1 := RelD.bel h
    have h2 := RelDs.bel t
    simp [D.blws, h1, h2]
end
theorem RelK.cut {κ : Type} {kds : List (κ × D)} {kvs : List (κ × V)} (p : Px φ φ') (r : RelK K φ' H kds kvs) (b : D.blws φ.length (kds.map (·.2)) = true) : RelK K φ H kds kvs := ⟨r.1, r.2.cut p b⟩
theorem RelO.cut {a : Addr} {o : Ob} (p : Px φ φ') (r : RelO K φ' H a o) (b : o.blw φ.length = true) : RelO K φ H a o := by
  cases o with
  | lst ds => obtain ⟨vs, h, r⟩ := r; exact ⟨vs, h, r.cut p b⟩
  | dk kds => obtain ⟨vs, h, r⟩ := r; exact ⟨vs, h, r.cut p b⟩
  | dt kds => obtain ⟨vs, h, r⟩ := r; exact ⟨vs, h, r.cut p b⟩
  | lk kds => obtain ⟨vs, od, h, r⟩ := r; exact ⟨vs, od, h, r.cut p b⟩
theorem RelO.bel {a : Addr} {o : Ob} (r : RelO K φ H a o) : o.blw φ.length = true := by
  cases o with
  | lst ds => obtain ⟨vs, h, r⟩ := r; exact r.bel
  | dk kds => obtain ⟨vs, h, r⟩ := r; exact r.2.bel
  | dt kds => obtain ⟨vs, h, r⟩ := r; exact r.2.bel
  | lk kds => obtain ⟨vs, od, h, r⟩ := r; exact r.2.bel
theorem HR.cut (hh : HR K φ mh H) (h' : HR K φ' mh' H') (p : Px φ φ') (k : Kept mh mh') : HR K φ (mh'.take mh.length) H' := by
  refine ⟨by rw [List.length_take, hh.len]; have := k.1; omega, hh.nd, fun n a o h1 h2 => ?_⟩
  have hn : n < φ.length := (List.getElem?_eq_some_iff.mp h1).1
  have hn2 : n < mh.length := by rw [← hh.len]; exact hn
  rw [List.getElem?_take_of_lt hn2] at h2
  refine (h'.ob n a o (p.get h1) h2).cut p ?_
  rcases k.2 n o hn2 h2 with e | e
  · exact (hh.ob n a o h1 e).bel
  · rw [hh.len]; exact e
/-- a thing that the small heap does not tell is frozen -/
theorem HR.frzOut {a : Addr} {u w : HO} (hh : HR K φ mh H) (ha : a ∉ φ) (e : H a = some u) (s : ¬ Sta u) : HR K φ mh (upd H a w) := by
  refine ⟨hh.len, hh.nd, fun n b o h1 h2 => (hh.ob n b o h1 h2).mono (Px.refl φ) (Kp.mut e s) fun v q => ?_⟩
  rw [upd_ne (fun z => ha (by rw [← z]; exact List.mem_of_getElem? h1))]; exact q
theorem RelX.cut {x : Exn} {c : Value} {d : Option Addr} (p : Px φ φ') (r : RelX K mg φ' H x c d) (b : D.blws φ.length (x.fs.map (·.2)) = true) : RelX K mg φ H x c d := by
  obtain ⟨C, dx, fv, vs, h1, h2, h3, h4, h5, h6⟩ := r
  exact ⟨C, dx, fv, vs, h1, h2, h3, h4, h5, h6.cut p b⟩
theorem post_cut {r : Res D} {Q : V → Hp → Prop} (hh : HR K φ mh H) (h : post K mg W (RelD K) σ φ H (cutR mh r) Q) : post K mg W (RelD K) σ φ H r Q := by
  cases r with
  | ok d mh' =>
    simp only [cutR] at h
    split at h
    · rename_i c
      exact fun φ2 b H2 p2 k2 h2 r2 => h φ b H2 (Px.refl φ) k2 (hh.cut h2 p2 c.2) (r2.cut p2 (by rw [hh.len]; exact c.1))
    · exact h.elim
  | ex x mh' =>
    simp only [cutR] at h
    split at h
    · rename_i c
      exact fun φ2 c1 d2 H2 p2 k2 h2 hx => h φ c1 d2 H2 (Px.refl φ) k2 (hh.cut h2 p2 c.2) (hx.cut p2 (by rw [hh.len]; exact c.1))
    · exact h.elim
  | no => exact h
def Fz (Q : V → Hp → Prop) : V → Hp → Prop := fun v H => Q v H ∨ ∃ a vs, H a = some (.lst vs) ∧ ∀ od, Q v (upd H a (.frz od (.lst vs)))
theorem post_fz {r : Res D} {Q : V → Hp → Prop} (hh : HR K φ mh H) (h : post K mg W (RelD K) σ φ H (fzR mh r) Q) : post K mg W (RelD K) σ φ H r (Fz Q) := by
  have weak : ∀ {r : Res D}, post K mg W (RelD K) σ φ H (cutR mh r) Q → post K mg W (RelD K) σ φ H r (Fz Q) := fun h => post_mono (Px.refl φ) (Kp.refl H) (post_cut hh h) fun _ _ q => .inl q
  cases r with
  | ok d mh' =>
    cases d with
    | ref n =>
      simp only [fzR] at h
      split at h
      · rename_i hn
        split at h
        · rename_i xs hx
          split at h
          · rename_i c
            intro φ2 b H2 p2 k2 h2 r2
            cases r2 with
            | ref ha =>
              rename_i a
              obtain ⟨vs, e, rv⟩ := h2.lst ha hx
              have hout : a ∉ φ := fun z => by
                obtain ⟨m, hm, e⟩ := List.mem_iff_getElem.mp z
                have hm1 : φ[m]? = some a := by simp [hm, e]
                have := h2.inj (p2.get hm1) ha
                rw [hh.len] at hm
                omega
              refine .inr ⟨a, vs, e, fun od => h φ (.ref a) _ (Px.refl φ) (k2.trans (Kp.mut e fun z => z)) ((hh.cut h2 p2 c.2).frzOut hout e fun z => z) (.rol (.inl ⟨od, upd_same⟩) ?_)⟩
              exact (rv.cut p2 (by rw [hh.len]; exact c.1)).mono (Px.refl φ) (Kp.mut e fun z => z)
          · exact h.elim
        · exact h.elim
      · exact weak h
    | _ => exact weak h
  | ex x mh' => exact weak h
  | no => exact h
end
/-! ### expressions -/
noncomputable def fz (f : ME) : ME := fun env mh => fzR mh (f env mh)
noncomputable def ct (f : ME) : ME := fun env mh => cutR mh (f env mh)
section
variable {X : Cx} {W : WX} {e : Expr} {f : ME}
theorem pe_frz {t : TE} (h : PE X e t) : PE X e fun σ H Q => t σ H (Fz Q) := ⟨fun pins s σ H Q I q => by
  refine thn (h.run pins s σ H _ I q) fun v s1 ⟨x, H1, I1, r, q1⟩ => ?_
  rcases q1 with q1 | ⟨a, vs, e, q1⟩
  · exact ⟨x, H1, I1, r, q1⟩
  · obtain ⟨od, I2⟩ := I1.lock e trivial
    exact ⟨x, _, I2, r, q1 od⟩⟩
theorem se_fz (h : SE X W e f) : SE X W e (fz f) := (pe_frz h).imp (by
  rintro σ H Q ⟨φ, env, mh, re, hh, p⟩
  exact ⟨φ, env, mh, re, hh, post_fz hh p⟩)
theorem se_ct (h : SE X W e f) : SE X W e (ct f) := h.imp (by
  rintro σ H Q ⟨φ, env, mh, re, hh, p⟩
  exact ⟨φ, env, mh, re, hh, post_cut hh p⟩)
end
/-! ### defs -/
noncomputable def zF (F : Fn) : Fn := fun ds mh => fzR mh (F ds mh)
section
variable {P : Program} {w : World} {K : PySem.W.Frag} {mg : MGl} {base : Heap} {CX : CXT} {k : Nat} {f : Addr} {fd : FuncData} {ps : List Str} {sp sp' : Sp} {F : Fn}
theorem CE.frz {outer : List Env} {H : Hp} {s s' : Shared} {Q : VK} {u : Value} (h : CE outer P w H s (Fz Q) u s') : CE outer P w H s Q u s' := by
  obtain ⟨v, H', os, bare, un, hok, r, q⟩ := h
  rcases q with q | ⟨a, vs, e, q⟩
  · exact ⟨v, H', os, bare, un, hok, r, q⟩
  · have x := hok a _ e
    have x0 := x
    obtain ⟨od, e2⟩ : ∃ od, s'.heap.get? a = some od := by
      obtain ⟨_, its, n, _, e2⟩ := x0
      exact ⟨_, e2⟩
    have mu : Mut (H' a) := by rw [e]; trivial
    have new : ObjOk P w (upd H' a (.frz od (.lst vs))) s'.heap a (.frz od (.lst vs)) := by
      refine ⟨e2, x.stay (fun b v _ q => q) (fun b q => ?_) fun b xs q => ?_⟩
      · rw [upd_ne (fun z => by rw [z, e] at q; cases q)]; exact q
      · rw [upd_ne (fun z => by rw [z, e] at q; cases q)]; exact q
    exact ⟨v, _, os, bare, un.trans (Un.write (x := a) (e := a) mu (.inl rfl) (fun b v _ q => q) ⟨_, e2⟩), hok.write (x := a) (e := a) mu (.inl rfl) (fun b v _ q => q) ⟨_, e2⟩ new, r, q _⟩
theorem FnOk.frz (F : FnOk P w K mg base CX k f fd ps sp) (h : ∀ vs H Q E, sp' vs H Q E → sp vs H (Fz Q) E) : FnOk P w K mg base CX k f fd ps sp' :=
  ⟨fun vs H Q E q => F.len vs H _ E (h _ _ _ _ q), fun A outer s H args us vs Q E hr he hb hv hs => codeAny_mono (F.run A outer s H args us vs _ E hr he hb hv (h _ _ _ _ hs)) fun r s' q => by
    cases r with
    | error e => exact q
    | ok fl =>
      cases fl with
      | ret u => exact CE.frz q
      | next => exact q
      | brk => exact q
      | cont => exact q⟩
theorem okZ (G : DOk P w K mg base k f fd ps F) : DOk P w K mg base k f fd ps (zF F) := FnOk.frz G (by
  rintro vs H Q E ⟨φ, mh, ds, r, hh, hl, q⟩
  exact ⟨φ, mh, ds, r, hh, hl, post_fz hh q⟩)
end
end Det
/-! Det, part Db: list + list, frozen ones too. -/
namespace Det
open PySem PySem.Spec PyProof.Rows L2
def lstD (mh : MH) : D → Option (List D)
  | .rol xs => some xs
  | .ref n => match mh[n]? with
    | some (.lst xs) => some xs
    | _ => none
  | _ => none
def oAddX : Op2 := fun a b mh => match a, b with
  | .int i, .int j => some (.int (i + j), mh)
  | .str x, .str y => if x.length + y.length ≤ sizeLine then some (.str (x ++ y), mh) else none
  | .tup xs, .tup ys => if xs.length + ys.length ≤ sizeLine then some (.tup (xs ++ ys), mh) else none
  | a, b => match lstD mh a, lstD mh b with
    | some xs, some ys => if xs.length + ys.length ≤ sizeLine then some (.ref mh.length, mh ++ [.lst (xs ++ ys)]) else none
    | _, _ => none
def rCatS (K : PySem.W.Frag) : R2 := fun x y H Q => ∃ l b xs zs, x = .ref l ∧ y = .ref b ∧ SqL K H l xs ∧ SqL K H b zs ∧ xs.length + zs.length ≤ sizeLine ∧ ∀ p, H p = none → Q (.ref p) (upd H p (.lst (xs ++ zs)))
section
variable {X : Cx}
theorem op_catS : OpR X (binaryOp .Add) (rCatS X.K) := by
  rintro pins s σ H x y v u Q I rx ry ⟨l, b, xs, zs, rfl, rfl, hH, hB, hz, q⟩
  cases rx
  cases ry
  obtain ⟨i1, r1, ⟨o1, n1, e1, c1, d1, t1⟩, z1⟩ := I.list hH
  obtain ⟨i2, r2, ⟨o2, n2, e2, c2, d2, t2⟩, z2⟩ := I.list hB
  obtain ⟨cl1, dd1, da1, sl1⟩ := o1
  obtain ⟨cl2, dd2, da2, sl2⟩ := o2
  simp only at c1 d1 t1 c2 d2 t2
  subst c1 d1 t1 c2 d2 t2
  have g1 := r1.length
  have g2 := r2.length
  refine concat_meets ⟨_, e1, rfl⟩ ⟨_, e2, rfl⟩ noFill_list_add seq_list_add PySem.F.slot_list_add PySem.F.entry_list_add (PySem.F.args_list_add_2 _ _) (list_addW l b i1.toArray i2.toArray n1 n2 none none sl1 sl2 (by simp; omega)) ⟨e1, e2, ?_⟩
  rw [show i1.toArray ++ i2.toArray = (i1 ++ i2).toArray by simp]
  exact ⟨.ref _, _, I.lnew (t' := s.toks) (r1.append r2) (by simp; omega), rfl, q _ I.fresh⟩
theorem lstD_of {φ : List Addr} {H : Hp} {mh : MH} {d : D} {v : V} {xs : List D} (hh : HR X.K φ mh H) (r : RelD X.K φ H d v) (h : lstD mh d = some xs) : ∃ p vs, v = .ref p ∧ SqL X.K H p vs ∧ RelDs X.K φ H xs vs := by
  cases r with
  | rol hs rs => cases h; exact ⟨_, _, rfl, hs.seq, rs⟩
  | ref hn =>
    simp only [lstD] at h
    split at h
    · rename_i ys hy
      cases h
      obtain ⟨vs, e, rs⟩ := hh.lst hn hy
      exact ⟨_, vs, rfl, SqL.of e, rs⟩
    · cases h
  | _ => cases h
theorem r_addX : OpR X (binaryOp .Add) (iR2 X.K oAddX) := by
  rintro pins s σ H x y v u Q I rx ry ⟨φ, mh, a, b, ra, rb, hh, p⟩
  unfold oAddX at p
  split at p
  · exact r_add pins s σ H x y v u Q I rx ry ⟨φ, mh, _, _, ra, rb, hh, p⟩
  · exact r_add pins s σ H x y v u Q I rx ry ⟨φ, mh, _, _, ra, rb, hh, p⟩
  · exact r_add pins s σ H x y v u Q I rx ry ⟨φ, mh, _, _, ra, rb, hh, p⟩
  · split at p
    · rename_i xs ys h1 h2
      split at p
      · rename_i hl
        obtain ⟨p1, v1, e1, s1, r1⟩ := lstD_of hh ra h1
        obtain ⟨p2, v2, e2, s2, r2⟩ := lstD_of hh rb h2
        exact op_catS pins s σ H _ _ v u Q I rx ry ⟨p1, p2, v1, v2, e1, e2, s1, s2, by rw [← r1.length, ← r2.length]; exact hl, fun q hq => postO_new hh p (r1.append r2) hq⟩
      · exact p.elim
    · exact p.elim
end
end Det
/-! Det, part Dc: raise C(e, ..), C an own class whose __init__ keeps its arguments as fields. -/
namespace Det
open PySem PySem.Spec PyProof.Rows L2
theorem lookup_mem_iff {α : Type} {f : Str} {v : α} : ∀ {l : List (Str × α)}, (l.map (·.1)).Nodup → (l.lookup f = some v ↔ (f, v) ∈ l)
  | [], _ => by simp
  | (g, w) :: l, h => by
    rw [List.map_cons, List.nodup_cons] at h
    rw [List.lookup_cons]
    by_cases e : f = g
    · subst e
      simp only [beq_self_eq_true]
      constructor
      · intro q; cases q; exact List.mem_cons_self
      · intro q
        rcases List.mem_cons.mp q with q | q
        · cases q; rfl
        · exact absurd (List.mem_map.mpr ⟨_, q, rfl⟩) h.1
    · rw [show (f == g) = false from beq_eq_false_iff_ne.mpr e]
      simp only
      rw [lookup_mem_iff h.2]
      constructor
      · exact List.mem_cons_of_mem _
      · intro q
        rcases List.mem_cons.mp q with q | q
        · cases q; exact absurd rfl e
        · exact q
theorem lookup_rev {α : Type} {l : List (Str × α)} (h : (l.map (·.1)).Nodup) (f : Str) : l.reverse.lookup f = l.lookup f := by
  have h2 : (l.reverse.map (·.1)).Nodup := by rw [List.map_reverse]; exact (List.reverse_perm _).nodup_iff.mpr h
  cases e : l.lookup f with
  | some v => rw [lookup_mem_iff h2, List.mem_reverse]; exact (lookup_mem_iff h).mp e
  | none =>
    cases e2 : l.reverse.lookup f with
    | none => rfl
    | some v =>
      have := (lookup_mem_iff h2).mp e2
      rw [List.mem_reverse] at this
      rw [(lookup_mem_iff h).mpr this] at e
      cases e
theorem map_fst_zip {α : Type} : ∀ (ns : List Str) (ds : List α), ds.length = ns.length → (ns.zip ds).map (·.1) = ns
  | [], [], _ => rfl
  | n :: ns, d :: ds, h => by simp [map_fst_zip ns ds (by simpa using h)]
  | [], _ :: _, h => by simp at h
  | _ :: _, [], h => by simp at h
theorem map_snd_zip {α : Type} : ∀ (ns : List Str) (ds : List α), ds.length = ns.length → (ns.zip ds).map (·.2) = ds
  | [], [], _ => rfl
  | n :: ns, d :: ds, h => by simp [map_snd_zip ns ds (by simpa using h)]
  | [], _ :: _, h => by simp at h
  | _ :: _, [], h => by simp at h
/-- what __init__ does -/
def spIni (K : PySem.W.Frag) (fns : List Str) : Sp := fun vs H Q _ => ∃ (e C : Addr) (ys : List V), vs = .ref e :: ys ∧ ys.length = fns.length ∧ OexC K C ∧ (∀ f ∈ fns, PySem.W.findIn K (.ref C) f = some none) ∧ H e = some (exo e C none) ∧
  ∀ dx, H dx = none → dx ≠ e → Q .non (upd (upd H dx (exd dx (fns.zip ys).reverse)) e (exo e C (some dx)))
section
variable {P : Program} {w : World} {K : PySem.W.Frag} {mg : MGl} {base : Heap} {x qual f g : Str} {stt : Stmt} {fad : Addr} {fd : FuncData}
theorem okI1 (F : Fun K x qual stt fad fd) (S : FnScope ["self", f] ["self", f] (defScope stt))
    (hb : ∀ (cdv : Value) (A : Around) (outer : List Env) (s : Shared) (H : Hp) (E : XK), PSs (cxOf (L2.CX P w) P w K mg base ["self", f] qual (defScope stt) fad cdv A outer s H E) (defBody stt) (tOst K f (tVar 0) (tVar 1))) :
    FnOk P w K mg base (L2.CX P w) 1 fad fd ["self", f] (spIni K [f]) := by
  refine F.okX (k := 0) S (fun vs H Q E h => ?_) (fun cdv A outer s H vs Q E hr h => ⟨_, hb cdv A outer s H E, ?_⟩)
  · obtain ⟨e, C, ys, rfl, hl, _⟩ := h
    simp at hl ⊢; exact hl
  · obtain ⟨e, C, ys, rfl, hl, T, hno, he, q⟩ := h
    match ys, hl with
    | [y], _ => exact ⟨y, rfl, .ref e, rfl, e, C, rfl, T, hno f (by simp), .inl ⟨he, fun dx h1 h2 => q dx h1 h2⟩⟩
theorem okI2 (F : Fun K x qual stt fad fd) (S : FnScope ["self", f, g] ["self", f, g] (defScope stt))
    (hb : ∀ (cdv : Value) (A : Around) (outer : List Env) (s : Shared) (H : Hp) (E : XK), PSs (cxOf (L2.CX P w) P w K mg base ["self", f, g] qual (defScope stt) fad cdv A outer s H E) (defBody stt) (fun D σ H => tOst K f (tVar 0) (tVar 1) { D with nx := fun σ H => tOst K g (tVar 0) (tVar 2) D σ H } σ H)) :
    FnOk P w K mg base (L2.CX P w) 1 fad fd ["self", f, g] (spIni K [f, g]) := by
  refine F.okX (k := 0) S (fun vs H Q E h => ?_) (fun cdv A outer s H vs Q E hr h => ⟨_, hb cdv A outer s H E, ?_⟩)
  · obtain ⟨e, C, ys, rfl, hl, _⟩ := h
    simp at hl ⊢; exact hl
  · obtain ⟨e, C, ys, rfl, hl, T, hno, he, q⟩ := h
    match ys, hl with
    | [y, z], _ =>
      refine ⟨y, rfl, .ref e, rfl, e, C, rfl, T, hno f (by simp), .inl ⟨he, fun dx h1 h2 => ?_⟩⟩
      refine ⟨z, rfl, .ref e, rfl, e, C, rfl, T, hno g (by simp), .inr ⟨dx, [(f, y)], upd_same, ?_, by simp, ?_⟩⟩
      · rw [upd_ne h2, upd_same]
      · have := q dx h1 h2
        have eq : upd (upd (upd H dx (exd dx [(f, y)])) e (exo e C (some dx))) dx (exd dx [(g, z), (f, y)]) = upd (upd H dx (exd dx [(g, z), (f, y)])) e (exo e C (some dx)) := by
          funext b
          unfold upd
          by_cases h3 : b = dx
          · subst h3; simp [h2]
          · simp [h3]
        show Q .non _
        rw [eq]
        exact this
end
/-- raise C(e, ..) -/
def rse (c : Str) (fns : List Str) (fa : MA) : MS := fun env mh => lift (fa env mh) env fun ds mh1 => if ds.length = fns.length then .ex ⟨c, fns.zip ds⟩ env mh1 else .no
section
variable {X : Cx} {W : WX} {e : Expr} {es : List Expr} {fa : MA} {p pos pos2 : Pos}
theorem ss_rse {x : Str} {C fI : Addr} {fd : FuncData} {fns : List Str} (hc : X.calm = true) (tk : Takes X W) (T : OexC X.K C) (iC : PySem.W.findIn X.K (.ref C) "__init__" = some (some (.ref fI))) (tI : PySem.W.typeIn X.K (.ref fI) = some (.type "function"))
    (F1 : FnOk X.prog X.w X.K X.mg X.base (L2.CX X.prog X.w) 1 fI fd ("self" :: fns) (spIni X.K fns)) (hr : Room 2 X.A) (hb : Binds X.K fd ("self" :: fns) []) (hm : X.mg x = some (.ref C)) (hns : PySem.W.nsIn X.K mainGlobals x = some (some (.ref C)))
    (hf : ∀ f ∈ fns, PySem.W.findIn X.K (.ref C) f = some none) (hnd : fns.Nodup) (hl : fns.length ≤ 1000) (ha : SA X W (e :: es) fa) (hg : Gl X x := by rfl)
    (hdb : (x == ("__debug__" : Str)) = false := by decide) (he : starEach (e :: es) X.env = (false, eval e X.env) :: starEach es X.env := by rfl) (hpl : (backTo pos (starEach es X.env)).any (·.1) = false := by rfl) :
    SS X W (.Raise (some (.Call (.Name x p) (e :: es) [] pos)) none pos2) (rse x fns fa) := by
  have hx : Passes (L2.CX X.prog X.w) X (fun _ _ _ => False) := fun pins σ H s e s' I c => by
    obtain ⟨_, _, _, _, _, _, _, _, _, _, _, _, no⟩ := c
    exact no.elim
  refine (ps_raise hc tk (pmk_oex T iC tI F1 hr hb .nil hx hg hm ha hdb he hpl)).imp ?_
  rintro D σ H ⟨φ, env, mh, re, hh, pq⟩
  refine ⟨φ, env, mh, re, hh, post_mono (Px.refl φ) (Kp.refl H) (post_lift (R := RelDs X.K) re pq) ?_⟩
  rintro vs H1 ⟨φ1, ds, mh1, p1, k1, h1, r1, q⟩
  by_cases hd : ds.length = fns.length
  · rw [if_pos hd] at q
    have hv : vs.length = fns.length := by rw [← r1.length]; exact hd
    refine ⟨by omega, fun a ha1 => ?_⟩
    refine ⟨a, C, vs, by rw [List.append_nil], hv, T, hf, upd_same, fun dx h2 h3 => ?_⟩
    have hdx : H1 dx = none := by rw [upd_ne h3] at h2; exact h2
    refine ⟨rfl, dx, _, upd_same, by rw [upd_ne h3]; exact upd_same, hdx, ?_⟩
    have eH : upd (del (upd (upd (upd H1 a (exo a C none)) dx (exd dx (fns.zip vs).reverse)) a (exo a C (some dx))) a) dx (.xd (fns.zip vs).reverse) = upd H1 dx (.xd (fns.zip vs).reverse) := by
      funext b
      unfold upd del
      by_cases hb1 : b = dx
      · simp [hb1]
      · by_cases hb2 : b = a
        · subst hb2; simp [hb1, ha1]
        · simp [hb1, hb2]
    rw [eH]
    have hN : ((fns.zip vs).map (·.1)).Nodup := by rw [map_fst_zip fns vs hv]; exact hnd
    refine q φ1 (.ref C) (some dx) σ _ (Px.refl φ1) (Kp.new hdx) (h1.grow hdx) ((re.mono p1 k1).mono (Px.refl φ1) (Kp.new hdx)) ⟨C, dx, _, vs, hns, rfl, rfl, upd_same, fun f v hfv => ?_, ?_⟩
    · simp only [map_fst_zip fns ds hd] at hfv
      rw [lookup_rev hN]; exact hfv
    · simp only [map_snd_zip fns ds hd]
      exact r1.mono (Px.refl φ1) (Kp.new hdx)
  · rw [if_neg hd] at q; exact q.elim
end
end Det
/-! Det, part Dd: try .. except X as e, the exception known in the suite. -/
namespace Det
open PySem PySem.Spec PyProof.Rows L2
section
variable {X : Cx} {pins : List (Addr × Obj)} {σ : L2.St} {H : Hp} {s sI : Shared} {a : Addr} {oe : Obj}
/-- a thing that was not there at the def's start is known from now on -/
theorem Inv_track (I : Inv X pins σ H s) (ha : s.heap.get? a = some oe) (na : H a = none) (h0 : X.s_0.heap.get? a = none) (nL : a ≠ X.env.locals) (nc : ∀ v, oe.data ≠ .cell v) (np : ∀ p ∈ X.pn ++ pins, p.1 ≠ a) : Inv X pins σ (upd H a (.frz oe (anyO a))) s := by
  have old : ∀ {b : Addr} {u : HO}, H b = some u → upd H a (.frz oe (anyO a)) b = some u := fun {b u} q => by rw [upd_ne (ne_of_none q na)]; exact q
  refine ⟨I.ok, I.os, I.bare, ⟨I.base.keep, I.base.slot, fun b o q n hx => ?_, I.base.there, fun b xs q => old (I.base.tups b xs q), fun b o u q => old (I.base.frzs b o u q), fun b ps q => ?_⟩, I.loc, I.cell, ?_, fun x c q => ?_, fun p hp => ?_, fun b o q => ?_, I.len⟩
  · have ne : b ≠ a := fun z => by rw [z, h0] at q; cases q
    rw [upd_ne ne]; exact I.base.free b o q n hx
  · obtain ⟨m, r⟩ := I.base.tbls b ps q
    exact ⟨m, old r⟩
  · rw [upd_ne (Ne.symm nL)]; exact I.free
  · have ne : c ≠ a := fun z => by
      obtain ⟨v, hcell⟩ := I.cell x c q
      rw [z] at hcell
      unfold Heap.IsCell at hcell
      first
        | (obtain ⟨o, e1, e2⟩ := hcell; rw [ha] at e1; cases e1; exact nc _ e2)
        | (rw [ha] at hcell; cases hcell; exact nc _ rfl)
    rw [upd_ne ne]; exact I.freeC x c q
  · obtain ⟨e, n, r⟩ := I.pin p hp
    exact ⟨e, by rw [upd_ne (np p hp)]; exact n, r⟩
  · by_cases hb : b = a
    · subst hb
      rw [upd_same] at q
      cases q
      exact ⟨ha, ⟨oe, ha⟩, ⟨oe, ha⟩, fun h1 h2 ⟨o, z⟩ k => ⟨o, k o z⟩⟩
    · rw [upd_ne hb] at q
      exact (I.hok b o q).stay (fun c v _ z => z) (fun c z => old z) fun c xs z => old z
theorem Inv_suite0 (I : Inv X pins σ H s) : Inv (X.suite a (X.pn ++ pins)) [] σ H s :=
  ⟨I.ok.suite _ _, I.os, I.bare, I.base, I.loc, I.cell, I.free, I.freeC, fun p hp => I.pin p (by rw [List.append_nil] at hp; exact hp), I.hok, I.len⟩
theorem Inv_unsuite0 {pn' : List (Addr × Obj)} (I : Inv (X.suite a (X.pn ++ pins)) pn' σ H s) (ok : X.Ok) : Inv X pins σ H s :=
  ⟨ok, I.os, I.bare, I.base, I.loc, I.cell, I.free, I.freeC, fun p hp => I.pin p (List.mem_append_left _ hp), I.hok, I.len⟩
end
/-- what the clause 'except x as n' wishes of the body's exception -/
def wTry (K : PySem.W.Frag) (c : Value) (i : Nat) (ts : TS) (Wout : WX) (D : Ends) : WX := fun cls d σ H => ∃ b, PySem.W.exmOne K cls c = some b ∧
  (b = true → ∀ (a : Addr) (oe : Obj), H a = none → Zc cls d oe → (∃ vs, oe.data = .fields vs) →
    ts { nx := fun σ' H' => D.nx (σ'.set i none) H', rt := D.rt, bk := fun σ' H' => D.bk (σ'.set i none) H', ct := fun σ' H' => D.ct (σ'.set i none) H' } (σ.set i (some (.ref a))) (upd H a (.frz oe (anyO a)))) ∧ (b = false → Wout cls d σ H)
section
variable {X : Cx} {x n : Str} {c : Value} {i : Nat} {body suite : List Stmt} {b₀ : Stmt} {np pos pos' : Pos} {tb : WX → TS} {ts : TS} {Wout : WX}
theorem ps_tryX (hs : X.stack = X.env :: X.outer) (hf : X.env.frame = some X.env.locals) (hex : X.ex = []) (hN : X.N.Nodup) (hi : X.N[i]? = some n) (hln : X.env.kindOf n = some .local) (hc : Names X x c) (tk : Takes X Wout)
    (hb : ∀ (W : WX) (pn : List (Addr × Obj)) (xe : Value → Shared → Prop), Takes (X.tr pn xe) W → PassesOwn (model X.prog X.w) X.A X.env xe → PSs (X.tr pn xe) body (tb W))
    (hsu : ∀ (a : Addr) (pn : List (Addr × Obj)), PSs (X.suite a pn) (b₀ :: suite) ts) :
    PS X (.Try body [.ExceptHandler (some (.Name x np)) (some n) (b₀ :: suite) pos'] [] [] pos) (fun D σ H => tb (wTry X.K c i ts Wout D) D σ H) := by
  refine ⟨fun pins s σ H D I h => ?_⟩
  have ok := I.ok
  have frm : X.A.frames = some (X.env :: X.outer) := by rw [ok.frames, hs]
  refine wpAny_Try_except ?_
  refine wpAny_mono ((hb (wTry X.K c i ts Wout D) (X.pn ++ pins) (fun e s₁ => wpAny (model X.prog X.w) X.A (noteFrame e X.env) (fun _ s₂ => wpAny (model X.prog X.w) X.A (setFlight e none) (fun _ s₃ =>
    wpAny (model X.prog X.w) X.A (handleBy e X.env [.ExceptHandler (some (.Name x np)) (some n) (b₀ :: suite) pos']) (SP X pins D) X.xe s₃) X.xe s₂) X.xe s₁) (fun u s' q => ?air) PassesOwn.looking).run [] s σ H D (I.toTry _) h) (fun fl s1 e1 => ?fin) (fun e s1 he => he)
  case air =>
    obtain ⟨a, B, sI, pins1, σ1, H1, cls, d, rfl, J0, ground, up, sky, na, os, ag, b, hm, yes, no⟩ := q
    have J : Inv X pins σ1 H1 sI := J0.ofTry ok
    have sky2 : Sky B (X.env :: X.outer) a (Zc cls d) X.env.locals s'.heap := by rw [← hs]; exact sky
    show wpAny (model X.prog X.w) X.A (noteFrame (.ref a) X.env) _ _ _
    refine Sky.land Zc.steady frm hf sky2 fun h3 f3 u3 => ?_
    have J3 : Inv X pins σ1 H1 { s' with heap := h3 } := J.landed ground f3.1 (up.trans u3) os ag
    obtain ⟨o3, v3, g3, z3, d3⟩ := f3.there
    have off : a ∉ frs (X.env :: X.outer) := fun hmem => by
      obtain ⟨_, o', e', nf⟩ := f3.2.2.1.mem hmem
      rw [g3] at e'; cases e'
      exact nf _ d3
    have offS : a ∉ frs X.stack := by rw [hs]; exact off
    have nL : a ≠ X.env.locals := fun z => off (List.mem_filterMap.mpr ⟨X.env, List.mem_cons_self, by rw [hf, z]⟩)
    have noB : B.get? a = none := f3.2.1
    have newS : X.s_0.heap.get? a = none := by
      cases e0 : X.s_0.heap.get? a with
      | none => rfl
      | some o0 =>
        obtain ⟨o1, e1⟩ := J.base.there a o0 e0 (by rw [hex]; exact fun z => nomatch z)
        rw [ground a o1 e1 offS] at noB; cases noB
    have npin : ∀ p ∈ X.pn ++ pins, p.1 ≠ a := fun p hp z => by
      have e1 := (J.pin p hp).1
      rw [z] at e1
      rw [ground a _ e1 offS] at noB; cases noB
    refine wpAny_handleBy_cons (codeAny_handlers_test ?_) (by intro q; cases q)
    have ty : PySem.W.Looks (model X.prog X.w) h3 (typeOf (.ref a)) cls := fun A Q E s k q => wpAny_typeOf_ref (k _ _ g3) (by rw [z3.1]; exact q)
    have mat := PySem.W.exm_one (M := model X.prog X.w) J3.kIn ty hm
    have J3s : Inv (X.suite a (X.pn ++ pins)) [] σ1 H1 { s' with heap := h3 } := Inv_suite0 J3
    have name : ∀ {Q : Value → Shared → Prop} {E : Value → Shared → Prop}, Q c { s' with heap := h3 } → wpAny (model X.prog X.w) (X.A.mark (some (.ref a))) (eval (.Name x np) X.env) Q E { s' with heap := h3 } := fun {Q E} q => by
      obtain ⟨hg, hdbg, hm | ⟨hm, hv, hnn⟩⟩ := hc
      · exact ld_glob (X := X.suite a (X.pn ++ pins)) J3s hg hm q hdbg
      · exact ld_blt (X := X.suite a (X.pn ++ pins)) J3s hg hm hv q hnn hdbg
    refine name (mat.here ?_)
    cases b with
    | true =>
      refine codeAny_handlers_suite_as ?_
      refine HandSPX.lands_againZ f3 fun h4 f4 u4 => ?_
      have J4 : Inv X pins σ1 H1 { s' with heap := h4 } := J.landed ground f4.1 ((up.trans u3).trans u4) os ag
      obtain ⟨o4, v4, g4, z4, d4⟩ := f4.there
      have T4 : Inv X pins σ1 (upd H1 a (.frz o4 (anyO a))) { s' with heap := h4 } := Inv_track J4 g4 na newS nL (fun v z => by rw [d4] at z; cases z) npin
      refine store_ok (X := X.suite a (X.pn ++ pins)) (v := .ref a) (Inv_suite0 T4) hN hi (.inl hln) rfl (fun s5 S5 => ?_) (.inr hln)
      refine wpAny_mono ((hsu a (X.pn ++ pins)).run [] s5 _ _ _ S5 (yes rfl a o4 na z4 ⟨_, d4⟩)) (fun fl s6 e6 => ?_) (fun _ _ z => False.elim z)
      have leave : ∀ {σ6 : L2.St} {H6 : Hp} {R : Shared → Prop}, Inv (X.suite a (X.pn ++ pins)) [] σ6 H6 s6 → (∀ s7, Inv X pins (σ6.set i none) H6 s7 → R s7) →
          wpAny (model X.prog X.w) X.A (do bindName X.env n .none; unbindBehindTheSuite X.env n pos') (fun _ s7 => R s7) X.xe s6 := fun {σ6 H6 R} S6 hq => gone_ok (Inv_unsuite0 S6 ok) hN hi hln hq
      cases fl with
      | next => obtain ⟨σ6, H6, S6, q6⟩ := e6; exact leave S6 fun s7 J7 => ⟨_, _, J7, q6⟩
      | brk => obtain ⟨σ6, H6, S6, q6⟩ := e6; exact leave S6 fun s7 J7 => ⟨_, _, J7, q6⟩
      | cont => obtain ⟨σ6, H6, S6, q6⟩ := e6; exact leave S6 fun s7 J7 => ⟨_, _, J7, q6⟩
      | ret u => obtain ⟨v6, σ6, H6, S6, r6, q6⟩ := e6; exact leave S6 fun s7 J7 => ⟨_, _, _, J7, r6, q6⟩
    | false =>
      show wpAny _ X.A (handleBy (.ref a) X.env []) _ _ _
      refine wpAny_handleBy_nil ?_
      have f3' := f3
      obtain ⟨_, _, _, oe, vs, T, oT, ts', ge, _, de, e1, _⟩ := f3'
      unfold PySem.passOn
      refine wpAny_bind (wpAny_field ge de e1 ?_)
      rw [if_neg (show ¬ ((Value.ref T == Value.none) = true) from by simp)]
      have on : wpAny (model X.prog X.w) X.A (setFlight (.ref a) X.env.frame) (fun _ s4 => wpAny (model X.prog X.w) X.A (throw (.ref a) : Sem Flow) (SP X pins D) X.xe s4) X.xe { s' with heap := h3 } := by
        rw [hf]
        refine HandSPX.setFlight_upZ f3 fun h4 hh4 u4 => wpAny_throw (tk _ _ ?_)
        exact ⟨a, B, sI, pins, σ1, H1, cls, d, rfl, J, ground, (up.trans u3).trans u4, .inr (.inr (by rw [hs]; exact hh4)), na, os, ag, no rfl⟩
      first
        | exact wpAny_bind (wpAny_pure (wpAny_bind on))
        | exact wpAny_bind on
  case fin => cases fl with
  | next => obtain ⟨σ', H', J', q⟩ := e1; exact wpAny_execs_nil ⟨σ', H', J'.ofTry ok, q⟩
  | brk => obtain ⟨σ', H', J', q⟩ := e1; exact ⟨σ', H', J'.ofTry ok, q⟩
  | cont => obtain ⟨σ', H', J', q⟩ := e1; exact ⟨σ', H', J'.ofTry ok, q⟩
  | ret u => obtain ⟨v, σ', H', J', r, q⟩ := e1; exact ⟨v, σ', H', J'.ofTry ok, r, q⟩
end
/-! ### the mirror -/
def excD (x : Exn) : D := .exc x.c (x.fs.map (·.1)) (x.fs.map (·.2))
def tri (tab : List (Str × Bool)) (i : Nat) (body suite : MS) : MS := fun env mh => match body env mh with
  | .ex x env1 mh1 => (match tab.lookup x.c with
    | some true => (match suite (env1.set i (some (excD x))) mh1 with
      | .nx e h => .nx (e.set i none) h
      | .bk e h => .bk (e.set i none) h
      | .ct e h => .ct (e.set i none) h
      | .rt d h => .rt d h
      | _ => .no)
    | some false => .ex x env1 mh1
    | none => .no)
  | r => r
/-- the clause's class against the classes that may come -/
def TabOk (K : PySem.W.Frag) (c : Value) (tab : List (Str × Bool)) : Prop := ∀ z b, tab.lookup z = some b → ∀ C : Addr, PySem.W.nsIn K mainGlobals z = some (some (.ref C)) → PySem.W.exmOne K (.ref C) c = some b
theorem TabOk.nil {K : PySem.W.Frag} {c : Value} : TabOk K c [] := fun _ _ h => by simp at h
theorem TabOk.cons {K : PySem.W.Frag} {c : Value} {z : Str} {b : Bool} {C : Addr} {tab : List (Str × Bool)} (hn : PySem.W.nsIn K mainGlobals z = some (some (.ref C))) (he : PySem.W.exmOne K (.ref C) c = some b) (t : TabOk K c tab) : TabOk K c ((z, b) :: tab) := fun y b' h D hD => by
  rw [List.lookup_cons] at h
  by_cases e : y = z
  · subst e
    simp only [beq_self_eq_true] at h
    cases h
    rw [hn] at hD
    cases hD
    exact he
  · rw [show (y == z) = false from beq_eq_false_iff_ne.mpr e] at h
    exact t y b' h D hD
section
variable {X : Cx} {W : WX} {x n : Str} {c : Value} {i : Nat} {body suite : List Stmt} {b₀ : Stmt} {np pos pos' : Pos} {fb fs : MS} {tab : List (Str × Bool)}
theorem ss_tri (hs : X.stack = X.env :: X.outer) (hf : X.env.frame = some X.env.locals) (hex : X.ex = []) (hN : X.N.Nodup) (hi : X.N[i]? = some n) (hln : X.env.kindOf n = some .local) (hc : Names X x c) (tk : Takes X W) (ht : TabOk X.K c tab)
    (hb : ∀ (W : WX) (pn : List (Addr × Obj)) (xe : Value → Shared → Prop), Takes (X.tr pn xe) W → PassesOwn (model X.prog X.w) X.A X.env xe → SSs (X.tr pn xe) W body fb)
    (hsu : ∀ (a : Addr) (pn : List (Addr × Obj)), SSs (X.suite a pn) W0 (b₀ :: suite) fs) :
    SS X W (.Try body [.ExceptHandler (some (.Name x np)) (some n) (b₀ :: suite) pos'] [] [] pos) (tri tab i fb fs) := (ps_tryX (tb := fun W => iS X.K X.mg W fb) (ts := iS X.K X.mg W0 fs) hs hf hex hN hi hln hc tk hb hsu).imp (by
  rintro D σ H ⟨φ, env, mh, re, hh, p⟩
  refine ⟨φ, env, mh, re, hh, ?_⟩
  unfold tri at p
  cases h : fb env mh with
  | nx e h1 => rw [h] at p; exact p
  | bk e h1 => rw [h] at p; exact p
  | ct e h1 => rw [h] at p; exact p
  | rt e h1 => rw [h] at p; exact p
  | no => rw [h] at p; exact p
  | ex z env1 mh1 =>
    rw [h] at p
    simp only at p
    intro φ1 cls d σ1 H1 p1 k1 h1 re1 rx
    obtain ⟨C, dx, fv, vs, q1, q2, q3, q4, q5, q6⟩ := rx
    cases hl : tab.lookup z.c with
    | none => rw [hl] at p; exact p.elim
    | some b =>
      rw [hl] at p
      subst q2 q3
      refine ⟨b, ht z.c b hl C q1, fun hb2 => ?_, fun hb2 => ?_⟩
      · subst hb2
        simp only at p
        intro a oe na hz hfl
        have kp : Kp H1 (upd H1 a (.frz oe (anyO a))) := Kp.new na
        have rd : RelD X.K φ1 (upd H1 a (.frz oe (anyO a))) (excD z) (.ref a) := .exc upd_same ⟨q1, hz.1, hz.2, hfl⟩ (kp dx _ q4 trivial) q5 (q6.mono (Px.refl φ1) kp)
        refine ⟨φ1, _, mh1, (re1.mono (Px.refl φ1) kp).set rd i, h1.grow na, ?_⟩
        cases hsx : fs (env1.set i (some (excD z))) mh1 with
        | nx e2 h2 => rw [hsx] at p; exact fun φ2 σ2 H2 p2 k2 hr2 re2 => p φ2 _ H2 (p1.trans p2) (k1.trans (kp.trans k2)) hr2 (re2.none i)
        | bk e2 h2 => rw [hsx] at p; exact fun φ2 σ2 H2 p2 k2 hr2 re2 => p φ2 _ H2 (p1.trans p2) (k1.trans (kp.trans k2)) hr2 (re2.none i)
        | ct e2 h2 => rw [hsx] at p; exact fun φ2 σ2 H2 p2 k2 hr2 re2 => p φ2 _ H2 (p1.trans p2) (k1.trans (kp.trans k2)) hr2 (re2.none i)
        | rt e2 h2 => rw [hsx] at p; exact fun φ2 v H2 p2 k2 hr2 re2 => p φ2 v H2 (p1.trans p2) (k1.trans (kp.trans k2)) hr2 re2
        | ex x2 e2 h2 => rw [hsx] at p; exact p.elim
        | no => rw [hsx] at p; exact p.elim
      · subst hb2
        exact p φ1 _ _ σ1 H1 p1 k1 h1 re1 ⟨C, dx, fv, vs, q1, rfl, rfl, q4, q5, q6⟩)
end
end Det
/-! Det, part De: isinstance of a caught exception, its fields. -/
namespace Det
open PySem PySem.Spec PyProof.Rows L2
/-- what an own exception class must say -/
structure ExF (K : PySem.W.Frag) (C : Addr) : Prop where
  cl : (PySem.W.clsIn K C).isSome = true
  ga : PySem.W.findIn K (.ref C) "__getattribute__" = some (some (.builtin "BaseException.__getattribute__"))
  gg : PySem.W.findIn K (.ref C) "__getattr__" = some none
  ex : PySem.W.subIn K (.ref C) (.type "BaseException") = some true
  ca : PySem.W.findIn K (.ref C) "__class__" = some (some (.builtin "object.__class__"))
  cg : PySem.W.specialIn K (.builtin "object.__class__") "__get__" = some (some (.builtin "getset_descriptor.__get__"))
  ct : PySem.W.takesIn K (.builtin "object.__class__") = some true
  mo : PySem.W.mroIn K C (.type "object") = some true
  hd : PySem.W.hasDictIn K C = true
def exfB (K : PySem.W.Frag) (C : Addr) : Bool := (PySem.W.clsIn K C).isSome && (decide (PySem.W.findIn K (.ref C) "__getattribute__" = some (some (.builtin "BaseException.__getattribute__"))) && (decide (PySem.W.findIn K (.ref C) "__getattr__" = some none) &&
  (decide (PySem.W.subIn K (.ref C) (.type "BaseException") = some true) && (decide (PySem.W.findIn K (.ref C) "__class__" = some (some (.builtin "object.__class__"))) && (decide (PySem.W.specialIn K (.builtin "object.__class__") "__get__" = some (some (.builtin "getset_descriptor.__get__"))) &&
  (decide (PySem.W.takesIn K (.builtin "object.__class__") = some true) && (decide (PySem.W.mroIn K C (.type "object") = some true) && PySem.W.hasDictIn K C)))))))
theorem exf_of {K : PySem.W.Frag} {C : Addr} (h : exfB K C = true) : ExF K C := by
  unfold exfB at h
  simp only [Bool.and_eq_true, decide_eq_true_eq] at h
  obtain ⟨a, b, c, d, e, f, g, i, j⟩ := h
  exact ⟨a, b, c, d, e, f, g, i, j⟩
def IsTab (K : PySem.W.Frag) (cv : Value) (tab : List (Str × Bool)) : Prop := ∀ z b, tab.lookup z = some b → ∀ C : Addr, PySem.W.nsIn K mainGlobals z = some (some (.ref C)) → ExF K C ∧ PySem.W.kitOne K (.ref C) cv = some b
theorem IsTab.nil {K : PySem.W.Frag} {c : Value} : IsTab K c [] := fun _ _ h => by simp at h
theorem IsTab.cons {K : PySem.W.Frag} {c : Value} {z : Str} {b : Bool} {C : Addr} {tab : List (Str × Bool)} (hn : PySem.W.nsIn K mainGlobals z = some (some (.ref C))) (hF : ExF K C) (he : PySem.W.kitOne K (.ref C) c = some b) (t : IsTab K c tab) : IsTab K c ((z, b) :: tab) := fun y b' h D hD => by
  rw [List.lookup_cons] at h
  by_cases e : y = z
  · subst e
    simp only [beq_self_eq_true] at h
    cases h
    rw [hn] at hD
    cases hD
    exact ⟨hF, he⟩
  · rw [show (y == z) = false from beq_eq_false_iff_ne.mpr e] at h
    exact t y b' h D hD
def isE (tab : List (Str × Bool)) (f : ME) : ME := fun env mh => (f env mh).bind fun d mh1 => match d with
  | .exc c _ _ => (match tab.lookup c with
    | some b => .ok (.bl b) mh1
    | none => .no)
  | _ => .no
def rIsX (K : PySem.W.Frag) (v : V) (cv : Value) : List V → Hp → VK → Prop := fun xs H Q => ∃ (a C dx : Addr) (c : Str) (oe : Obj) (fv : List (Str × V)) (b : Bool), xs = [.ref a, v] ∧ H a = some (.frz oe (anyO a)) ∧ ExcAt K c C dx oe ∧ H dx = some (.xd fv) ∧ ExF K C ∧ PySem.W.kitOne K (.ref C) cv = some b ∧ Q (.bl b) H
section
variable {X : Cx} {W : WX} {e : Expr} {f : ME} {p p2 pos : Pos}
theorem inst_exc {pins : List (Addr × Obj)} {σ : L2.St} {H : Hp} {s : Shared} {a C dx : Addr} {c : Str} {oe : Obj} {fv : List (Str × V)} (I : Inv X pins σ H s) (ha : H a = some (.frz oe (anyO a))) (he : ExcAt X.K c C dx oe) (hd : H dx = some (.xd fv)) :
    ∃ od, PySem.W.InstAt s.heap a oe C (some od) ∧ ∃ mA : Str → Option Value, (∀ f, L2.RelO (fv.lookup f) (mA f)) ∧ ∀ name, PySem.W.lookIn name od = some (mA name) := by
  have x1 : ObjOk X.prog X.w H s.heap a (.frz oe (anyO a)) := I.hok a _ ha
  have x2 : ObjOk X.prog X.w H s.heap dx (.xd fv) := I.hok dx _ hd
  obtain ⟨mA, hns, hr⟩ := x2
  obtain ⟨od, ho, hl⟩ := lookIn_ns hns
  obtain ⟨_, h1, h2, vs, h3⟩ := he
  exact ⟨od, ⟨x1.1, h1, by unfold PySem.W.notCls; rw [h3] <;> rfl, by rw [h2]; exact ho⟩, mA, hr, hl⟩
theorem call_isX {v : V} {cv : Value} (hcv : ∀ u, RelV v u → u = cv) : CallR X (.builtin "isinstance") (rIsX X.K v cv) := by
  rintro pins s σ H xs us Q I r ⟨a, C, dx, c, oe, fv, b, rfl, ha, he, hd, hF, hk, q⟩
  cases r with
  | cons rx rr =>
    cases rr with
    | cons rt rr =>
      cases rr
      cases rx
      have ec := hcv _ rt
      subst ec
      obtain ⟨od, J, _⟩ := inst_exc I ha he hd
      exact PySem.W.kia_one (PySem.W.kitx_exc hF.cl hF.ga hF.gg hF.ex hF.ca hF.cg hF.ct hF.mo) I.kIn J hk (fun z => nomatch z) fun tk => ⟨.bl b, H, I.kept (t' := tk) fun _ _ z => z, rfl, q⟩
theorem se_isE {x : Str} {v : V} {cv : Value} {tab : List (Str × Bool)} (hcv : ∀ u, RelV v u → u = cv) (ht : IsTab X.K cv tab) (hx : PE X (.Name x p2) (tC v)) (hm : X.mg "isinstance" = none) (hf : SE X W e f) (hg : Gl X "isinstance" := by rfl)
    (he : starEach [e, .Name x p2] X.env = (false, eval e X.env) :: starEach [.Name x p2] X.env := by rfl) (he2 : starEach [.Name x p2] X.env = (false, eval (.Name x p2) X.env) :: starEach [] X.env := by rfl) (hpl : (backTo pos (starEach [.Name x p2] X.env)).any (·.1) = false := by rfl) :
    SE X W (.Call (.Name "isinstance" p) [e, .Name x p2] [] pos) (isE tab f) := (pe_callB (call_isX hcv) hg hm (by decide +kernel) (pa_cons hf (pa_cons hx pa_nil he2) he) (by decide) (by decide) he hpl).imp (by
  rintro σ H Q ⟨φ, env, mh, re, hh, p⟩
  refine ⟨φ, env, mh, re, hh, post_mono (Px.refl φ) (Kp.refl H) (post_bind (R1 := RelD X.K) p) ?_⟩
  rintro x H1 ⟨φ1, d, mh1, p1, k1, h1, r1, q⟩
  cases r1 with
  | exc ha hat hd hl rs =>
    rename_i a C dx c ns ds vs oe fv
    simp only at q
    cases hc : tab.lookup c with
    | none => rw [hc] at q; exact q.elim
    | some b =>
      rw [hc] at q
      obtain ⟨hF, hk⟩ := ht c b hc C hat.1
      exact ⟨a, C, dx, c, oe, fv, b, rfl, ha, hat, hd, hF, hk, q φ1 _ H1 (Px.refl φ1) (Kp.refl H1) h1 (.bl b)⟩
  | _ => exact q.elim)
/-! ### fields -/
def fld (tab : List Str) (n : Str) (f : ME) : ME := fun env mh => (f env mh).bind fun d mh1 => match d with
  | .exc c ns ds => if c ∈ tab then (match (ns.zip ds).lookup n with
    | some y => .ok y mh1
    | none => .no) else .no
  | _ => .no
def FldTab (K : PySem.W.Frag) (n : Str) (tab : List Str) : Prop := ∀ z ∈ tab, ∀ C : Addr, PySem.W.nsIn K mainGlobals z = some (some (.ref C)) → ExF K C ∧ PySem.W.findIn K (.ref C) n = some none
theorem FldTab.nil {K : PySem.W.Frag} {n : Str} : FldTab K n [] := fun _ h => nomatch h
theorem FldTab.cons {K : PySem.W.Frag} {n z : Str} {C : Addr} {tab : List Str} (hn : PySem.W.nsIn K mainGlobals z = some (some (.ref C))) (hF : ExF K C) (he : PySem.W.findIn K (.ref C) n = some none) (t : FldTab K n tab) : FldTab K n (z :: tab) := fun y h D hD => by
  rcases List.mem_cons.mp h with rfl | h
  · rw [hn] at hD; cases hD; exact ⟨hF, he⟩
  · exact t y h D hD
theorem rel_lookup {φ : List Addr} {H : Hp} {n : Str} : ∀ {ns : List Str} {ds : List D} {vs : List V} {y : D}, RelDs X.K φ H ds vs → (ns.zip ds).lookup n = some y → ∃ v, (ns.zip vs).lookup n = some v ∧ RelD X.K φ H y v
  | [], _, _, _, _, h => by simp at h
  | _ :: _, _, _, _, .nil, h => by simp at h
  | m :: ns, _, _, y, .cons (d := d) (v := v) (ds := ds) (vs := vs) r rs, h => by
    rw [List.zip_cons_cons, List.lookup_cons] at h
    rw [List.zip_cons_cons, List.lookup_cons]
    by_cases e : (n == m) = true
    · rw [e] at h ⊢; cases h; exact ⟨_, rfl, r⟩
    · rw [Bool.not_eq_true] at e
      rw [e] at h ⊢; exact rel_lookup rs h
def tFld (K : PySem.W.Frag) (n : Str) (te : TE) : TE := fun σ H Q => te σ H fun x H1 => ∃ (a C dx : Addr) (c : Str) (oe : Obj) (fv : List (Str × V)) (v : V), x = .ref a ∧ H1 a = some (.frz oe (anyO a)) ∧ ExcAt K c C dx oe ∧ H1 dx = some (.xd fv) ∧ ExF K C ∧ PySem.W.findIn K (.ref C) n = some none ∧ fv.lookup n = some v ∧ Q v H1
theorem pe_fld {te : TE} {n : Str} (he : PE X e te) (hb : attributeBase e n X.env (eval e X.env) = eval e X.env := by rfl) : PE X (.Attribute e n pos) (tFld X.K n te) := by
  refine ⟨fun pins s σ H Q I h => ?_⟩
  refine attr_of hb (thn (he.run pins s σ H _ I h) fun u s1 hh => ?_)
  obtain ⟨x, H1, I1, rx, a, C, dx, c, oe, fv, v, ex, ha, hat, hd, hF, hno, l, q⟩ := hh
  subst ex
  obtain rfl : u = Value.ref a := rx
  obtain ⟨od, J, mA, hr, hl⟩ := inst_exc I1 ha hat hd
  obtain ⟨u, hu, ru⟩ := L2.RelO.some_of (v := v) (o := mA n) (by rw [← l]; exact hr n)
  exact HandSPX.exc_get I1.kIn J hF.ga hF.gg hF.ex (PySem.W.findObj_own hF.hd hno rfl (by rw [hl, hu])) (handed_of ru) ⟨v, H1, I1.tok _, ru, q⟩
theorem se_fld {n : Str} {tab : List Str} (ht : FldTab X.K n tab) (he : SE X W e f) (hb : attributeBase e n X.env (eval e X.env) = eval e X.env := by rfl) : SE X W (.Attribute e n pos) (fld tab n f) := (pe_fld he hb).imp (by
  rintro σ H Q ⟨φ, env, mh, re, hh, p⟩
  refine ⟨φ, env, mh, re, hh, post_mono (Px.refl φ) (Kp.refl H) (post_bind (R1 := RelD X.K) p) ?_⟩
  rintro x H1 ⟨φ1, d, mh1, p1, k1, h1, r1, q⟩
  cases r1 with
  | exc ha hat hd hl rs =>
    rename_i a C dx c ns ds vs oe fv
    simp only at q
    split at q
    · rename_i hc
      split at q
      · rename_i y hy
        obtain ⟨hF, hno⟩ := ht c hc C hat.1
        obtain ⟨v, e1, r2⟩ := rel_lookup rs hy
        exact ⟨a, C, dx, c, oe, fv, v, rfl, ha, hat, hd, hF, hno, hl n v e1, q φ1 v H1 (Px.refl φ1) (Kp.refl H1) h1 r2⟩
      · exact q.elim
    · exact q.elim
  | _ => exact q.elim)
end
end Det
/-! Det, part Df: defs called within an except suite (nothing is raised there). -/
namespace Det
open PySem PySem.Spec PyProof.Rows L2
abbrev RoomQ := L2H.RoomH
/-- what a def promises wherever it is called -/
structure FnQ (P : Program) (w : World) (K : PySem.W.Frag) (mg : MGl) (base : Heap) (k : Nat) (f : Addr) (fd : FuncData) (ps : List Str) (sp : Sp) : Prop where
  len : ∀ vs H Q E, sp vs H Q E → vs.length = ps.length
  run : ∀ (A : Around) (outer : List Env) (s : Shared) (H : Hp) (args : Args) (us : List Value) (vs : List V) (Q : VK) (E : XK), RoomQ k A → Env0 P w K mg base A outer s H → BindsTo s fd args (ps.zip us) → Vals vs us → sp vs H Q E →
    codeAny (model P w) A (.call (.ref f) args) (CR (L2.CX P w) outer P w H s Q E) s
abbrev cxQ (P : Program) (w : World) (K : PySem.W.Frag) (mg : MGl) (base : Heap) (N : List Str) (qual : Str) (scope : Scope) (f : Addr) (cd : Value) (A : Around) (outer : List Env) (s : Shared) (H : Hp) (E : XK) : Cx :=
  { cxOf (L2.CX P w) P w K mg base N qual scope f cd A outer s H E with calm := false }
section
variable {P : Program} {w : World} {K : PySem.W.Frag} {mg : MGl} {base : Heap} {k : Nat} {f : Addr} {fd : FuncData} {ps : List Str} {sp sp' : Sp} {F : Fn}
theorem FnQ.mono {j : Nat} (F : FnQ P w K mg base j f fd ps sp) (h : j ≤ k) : FnQ P w K mg base k f fd ps sp := ⟨F.len, fun A outer s H args us vs Q E hr => F.run A outer s H args us vs Q E (hr.mono h)⟩
theorem FnQ.frz (F : FnQ P w K mg base k f fd ps sp) (h : ∀ vs H Q E, sp' vs H Q E → sp vs H (Fz Q) E) : FnQ P w K mg base k f fd ps sp' :=
  ⟨fun vs H Q E q => F.len vs H _ E (h _ _ _ _ q), fun A outer s H args us vs Q E hr he hb hv hs => codeAny_mono (F.run A outer s H args us vs _ E hr he hb hv (h _ _ _ _ hs)) fun r s' q => by
    cases r with
    | error e => exact q
    | ok fl =>
      cases fl with
      | ret u => exact CE.frz q
      | next => exact q
      | brk => exact q
      | cont => exact q⟩
abbrev DOkQ (P : Program) (w : World) (K : PySem.W.Frag) (mg : MGl) (base : Heap) (k : Nat) (f : Addr) (fd : FuncData) (ps : List Str) (F : Fn) : Prop := FnQ P w K mg base k f fd ps (spF K mg ps.length F)
theorem okZQ (G : DOkQ P w K mg base k f fd ps F) : DOkQ P w K mg base k f fd ps (zF F) := FnQ.frz G (by
  rintro vs H Q E ⟨φ, mh, ds, r, hh, hl, q⟩
  exact ⟨φ, mh, ds, r, hh, hl, post_fz hh q⟩)
theorem env0_calm {A : Around} {outer : List Env} {s : Shared} {H : Hp} (e : Env0 P w K mg base A outer s H) : Env0 P w K mg base { A with handled := none } outer s H := ⟨e.frames, e.mod, e.bs, e.bsz, e.funs, e.frf, e.hok, e.bare⟩
theorem inv_startQ {N : List Str} {qual : Str} {scope : Scope} {cd : Value} {A : Around} {outer : List Env} {s s1 : Shared} {H : Hp} {E : XK} {us : List Value} {vs : List V}
    (S : FnScope N ps scope) (e0 : Env0 P w K mg base A outer s H) (hl : vs.length = ps.length) (r : Vals vs us)
    (x : InCallC s s.heap.objs.size (bindL (envOfC qual scope s.heap.objs.size f cd).kindOf (ps.zip us) fun _ => none) (cellsFrom (s.heap.objs.size + 1) scope.names []) (bindC (envOfC qual scope s.heap.objs.size f cd).kindOf (ps.zip us) fun _ => none) s1) :
    Inv (cxQ P w K mg base N qual scope f cd A outer s H E) [] (L2.start N vs) H s1 := by
  have J := inv_start (CX := L2.CX P w) (f := f) (cd := cd) (E := E) S (A := { A with handled := none }) rfl (env0_calm e0) hl r x
  have o := J.ok
  exact ⟨⟨o.mod, o.kind, o.glob, o.blt, o.above, o.inj, o.has, o.cab, (fun z => Bool.noConfusion (show false = true from z)), Around.frames_deeper e0.frames, o.stk, o.exf, o.bs, o.bsz, o.noex, o.exfs, o.funs, o.frf⟩,
    J.os, J.bare, J.base, J.loc, J.cell, J.free, J.freeC, J.pin, J.hok, J.len⟩
theorem fn_ofQ {name qual : Str} {params : Arguments} {body : List Stmt} {scope : Scope} {dV kV doc pm cdv ct oc : Value} {an od : Option Addr}
    {osl : Array (Option Value)} {N : List Str} (lk : K.lookup f = some ⟨oc, od, .func (PySem.W.fnOf name qual params body scope dV kV doc pm an cdv ct), osl⟩) (hcd : PySem.W.codeIn K cdv qual = true) (S : FnScope N ps scope)
    (len : ∀ vs H Q E, sp vs H Q E → vs.length = ps.length)
    (hbody : ∀ (A : Around) (outer : List Env) (s : Shared) (H : Hp) (vs : List V) (Q : VK) (E : XK), RoomQ k (A.deeper (envOfC qual scope s.heap.objs.size f cdv)) → sp vs H Q E →
      ∃ t, PSs (cxQ P w K mg base N qual scope f cdv A outer s H E) body t ∧ t { nx := fun _ H' => Q .non H', rt := Q } (L2.start N vs) H) :
    FnQ P w K mg base (k + 1) f (PySem.W.fnOf name qual params body scope dV kV doc pm an cdv ct) ps sp := by
  refine ⟨len, fun A outer s H args us vs Q E hr e0 hb r hsp => ?_⟩
  have hl := len _ _ _ _ hsp
  have kin : K.In s.heap := e0.mod.kin.keeps fun b o e => (e0.bs b o e).1
  have lim : s.heap.NoLimit := e0.mod.nolimit.keeps fun b o e => (e0.bs b o e).1
  have kinds : ∀ y ∈ ps.zip us, scope.names.lookup y.1 = some .local ∨ (scope.names.lookup y.1 = some .cell ∧ ((cellsFrom (s.heap.objs.size + 1) scope.names []).lookup y.1).isSome = true) := fun ⟨n, v⟩ hy => by
    rcases S.par n (List.of_mem_zip hy).1 with q | q
    · exact .inl q
    · exact .inr ⟨q, PySem.W.cellsFrom_some _ _ _ (.inl q)⟩
  refine codeAny_call_function hr.depth (kin _ _ lk) rfl S.co S.gen rfl (PySem.W.codeRec_of kin hcd) (hb _ _ _ _ ?_)
  refine wpAny_newFunctionEnv_cells S.kind kinds fun env he s1 x => ?_
  subst he
  refine ⟨lim.keeps x.toInCall.keep, codeAny_func ?_⟩
  obtain ⟨t, ht, hq⟩ := hbody A outer s H vs Q E (hr.deeper _) hsp
  have I : Inv (cxQ P w K mg base N qual scope f cdv A outer s H E) [] (L2.start N vs) H s1 := inv_startQ S e0 hl r x
  refine wpAny_mono (ht.run [] s1 (L2.start N vs) H _ I hq) (fun fl s' hs => ?_) fun e s' hs => hs
  cases fl with
  | ret u => obtain ⟨v, σ', H', J, rv, q⟩ := hs; exact ⟨v, H', J.os, J.bare, J.base, J.hok, rv, q⟩
  | next => obtain ⟨σ', H', J, q⟩ := hs; exact ⟨.non, H', J.os, J.bare, J.base, J.hok, rfl, q⟩
  | brk => obtain ⟨_, _, _, q⟩ := hs; exact False.elim q
  | cont => obtain ⟨_, _, _, q⟩ := hs; exact False.elim q
theorem okFQ {x qual : Str} {stt : Stmt} {N : List Str} {bd : MS} (F : Fun K x qual stt f fd) (S : FnScope N ps (defScope stt)) (hle : ps.length ≤ N.length)
    (hb : ∀ (cdv : Value) (A : Around) (outer : List Env) (s : Shared) (H : Hp) (E : XK), RoomQ k (A.deeper (envOfC qual (defScope stt) s.heap.objs.size f cdv)) →
      SSs (cxQ P w K mg base N qual (defScope stt) f cdv A outer s H E) (fun c d _ H' => E c d H') (defBody stt) bd) : DOkQ P w K mg base (k + 1) f fd ps (runF N.length bd) := by
  obtain ⟨oc, od, kV, doc, pm, an, cdv, ct, osl, rfl, lk, hcd⟩ := F.ex
  refine fn_ofQ lk hcd S (fun vs H Q E h => ?_) (fun A outer s H vs Q E hr h => ⟨_, hb cdv A outer s H E hr, ?_⟩)
  · obtain ⟨φ, mh, ds, r, _, hl, _⟩ := h
    rw [← r.length]; exact hl
  · obtain ⟨φ, mh, ds, r, hh, hl, q⟩ := h
    have hlv : vs.length = ps.length := by rw [← r.length]; exact hl
    refine ⟨φ, ds.map some ++ List.replicate (N.length - ds.length) none, mh, ⟨?_, fun i d e => ?_⟩, hh, ?_⟩
    · unfold L2.start; simp [r.length]
    · have hi : i < ds.length := by
        by_cases h : i < ds.length
        · exact h
        · rw [List.getElem?_append_right (by simpa using h)] at e
          rw [List.getElem?_replicate] at e
          split at e <;> cases e
      rw [List.getElem?_append_left (by simpa using hi), List.getElem?_map] at e
      cases hd : ds[i]? with
      | none => rw [hd] at e; cases e
      | some d' =>
        rw [hd] at e
        cases e
        obtain ⟨v, h1, h2⟩ := r.get hd
        refine ⟨v, ?_, h2⟩
        have hiv : i < vs.length := by rw [← r.length]; exact hi
        show (vs.map some ++ List.replicate (N.length - vs.length) none)[i]? = some (some v)
        rw [List.getElem?_append_left (by simpa using hiv), List.getElem?_map, h1]
        rfl
    · unfold runF at q
      cases hbd : bd (ds.map some ++ List.replicate (N.length - ds.length) none) mh with
      | nx e h => rw [hbd] at q; exact fun φ2 s2 H2 p2 k2 hr _ => q φ2 .non H2 p2 k2 hr .non
      | rt e h => rw [hbd] at q; exact q
      | ex x e h => rw [hbd] at q; exact fun φ2 c d s2 H2 p2 k2 hr _ hx => q φ2 c d H2 p2 k2 hr hx
      | bk e h => rw [hbd] at q; exact q.elim
      | ct e h => rw [hbd] at q; exact q.elim
      | no => rw [hbd] at q; exact q.elim
end
section
variable {X : Cx} {W : WX} {e : Expr} {es : List Expr} {fa : MA} {p pos : Pos}
theorem run_fnQ {pins : List (Addr × Obj)} {σ : L2.St} {H : Hp} {s : Shared} {Q : VK} {us : List Value} {vs : List V} {k : Nat} {f : Addr} {fd : FuncData} {ps : List Str} {sp : Sp} {E : XK} (F : FnQ X.prog X.w X.K X.mg X.base k f fd ps sp) (hr : RoomQ k X.A) (hb : Binds X.K fd ps []) (hx : PassesAt (L2.CX X.prog X.w) X σ E)
    (I : Inv X pins σ H s) (r : Vals vs us) (h : sp vs H Q E) : wpAny (model X.prog X.w) X.A (call (.ref f) us) (EP X pins σ Q) X.xe s := by
  have hl : us.length = ps.length := by rw [← r.length]; exact F.len _ _ _ _ h
  have b := hb s us I.kIn (by rw [List.append_nil]; exact hl)
  rw [List.append_nil] at b
  refine wpAny_call (codeAny_mono (F.run X.A X.stack s H ⟨us, []⟩ us vs Q E hr I.env0 b r h) fun r s' hq => ?_)
  cases r with
  | error er => exact hx pins H s er s' I hq
  | ok fl =>
    cases fl with
    | ret u => exact I.after hq
    | next => exact False.elim hq
    | brk => exact False.elim hq
    | cont => exact False.elim hq
/-- f(e, ..) in an except suite, or in a def called there -/
theorem se_callQ {F : Fn} {k : Nat} {g : Addr} {fd : FuncData} {ps : List Str} {x : Str} (tk : Takes X W) (G : DOkQ X.prog X.w X.K X.mg X.base k g fd ps F) (hr : RoomQ k X.A) (hm : X.mg x = some (.ref g)) (hk : PySem.W.keepIn X.K (.ref g) = true) (hb : Binds X.K fd ps [])
    (ha : SA X W (e :: es) fa) (hg : Gl X x := by rfl) (hdb : (x == ("__debug__" : Str)) = false := by decide) (he : starEach (e :: es) X.env = (false, eval e X.env) :: starEach es X.env := by rfl) (hpl : (backTo pos (starEach es X.env)).any (·.1) = false := by rfl) :
    SE X W (.Call (.Name x p) (e :: es) [] pos) (cal ps.length F fa) := by
  have h : PE X (.Call (.Name x p) (e :: es) [] pos) (tCallS (spF X.K X.mg ps.length F) (WE W) (iA X.K X.mg W fa)) := by
    refine ⟨fun pins s σ H Q I h => ?_⟩
    refine wpAny_Call_Name_kw (ld_glob I hg hm ?_ hdb)
    refine PySem.W.callWith_K (h₀ := X.base) I.ok.mod.kin hk (thn (ha.run pos pins s σ H _ I h) fun us s1 ⟨vs, H1, I1, r, q⟩ => ⟨I1.kIn, ?_⟩) he hpl
    exact run_fnQ G hr hb (passAt tk σ) I1 r q
  exact h.imp imp_cal
theorem takesS {a : Addr} {pn : List (Addr × Obj)} : Takes (X.suite a pn) W0 := fun u s' ⟨_, _, _, _, _, _, _, _, _, _, _, _, _, _, _, _, no⟩ => no.elim
end
end Det
/-! Det, part Dg: what the top has made of the exception classes; str.upper; more. -/
namespace Det
open PySem PySem.Spec PyProof.Rows L2
/-- an own exception class -/
structure ClsD (K : PySem.W.Frag) (mg : MGl) (c : Str) where
  a : Addr
  mgc : mg c = some (.ref a)
  ns : PySem.W.nsIn K mainGlobals c = some (some (.ref a))
  F : ExF K a
  ty : PySem.W.typeIn K (.ref a) = some (.type "type")
  me : PySem.W.subIn K (.ref a) (.ref a) = some true
/-- .. that is raised -/
structure RaiseD (K : PySem.W.Frag) (a : Addr) (fns : List Str) (qual : Str) (st : Stmt) where
  T : OexC K a
  fI : Addr
  iC : PySem.W.findIn K (.ref a) "__init__" = some (some (.ref fI))
  tI : PySem.W.typeIn K (.ref fI) = some (.type "function")
  fd : FuncData
  fn : Fun K "__init__" qual st fI fd
  bi : Binds K fd ("self" :: fns) []
  nf : ∀ f ∈ fns, PySem.W.findIn K (.ref a) f = some none
section
variable {K : PySem.W.Frag} {mg : MGl} {c d : Str} {b : Bool} {a : Addr}
theorem exm_own (D : ClsD K mg d) {cls : Value} (h : PySem.W.subIn K cls (.ref D.a) = some b) : PySem.W.exmOne K cls (.ref D.a) = some b := by
  have e1 : (PySem.W.subIn K (.ref D.a) (.type "BaseException") == some true) = true := by rw [D.F.ex] <;> rfl
  have e2 : ((PySem.W.clsIn K D.a).isSome && PySem.W.typeIn K (.ref D.a) == some (.type "type")) = true := by rw [D.F.cl, D.ty] <;> rfl
  show (if (PySem.W.subIn K (.ref D.a) (.type "BaseException") == some true) = true then (if ((PySem.W.clsIn K D.a).isSome && PySem.W.typeIn K (.ref D.a) == some (.type "type")) = true then PySem.W.subIn K cls (.ref D.a) else none) else none) = some b
  rw [if_pos e1, if_pos e2]
  exact h
theorem kit_own (D : ClsD K mg d) (h : PySem.W.subIn K (.ref a) (.ref D.a) = some b) : PySem.W.kitOne K (.ref a) (.ref D.a) = some b := by
  unfold PySem.W.kitOne
  by_cases e : a = D.a
  · subst e
    rw [D.me] at h
    cases h
    rw [if_pos (beq_self_eq_true _)]
  · rw [if_neg (fun z => e (Value.ref.inj (eq_of_beq z)))]
    have e2 : ((PySem.W.clsIn K D.a).isSome && PySem.W.typeIn K (.ref D.a) == some (.type "type")) = true := by rw [D.F.cl, D.ty] <;> rfl
    show (if ((PySem.W.clsIn K D.a).isSome && PySem.W.typeIn K (.ref D.a) == some (.type "type")) = true then PySem.W.subIn K (.ref a) (.ref D.a) else none) = some b
    rw [if_pos e2]
    exact h
theorem kit_bt {t : String} (hk : PySem.W.kitMeta t = true) (h : PySem.W.subIn K (.ref a) (.type t) = some b) : PySem.W.kitOne K (.ref a) (.type t) = some b := by
  unfold PySem.W.kitOne
  rw [if_neg (by simp)]
  show (if PySem.W.kitMeta t = true then PySem.W.subIn K (.ref a) (.type t) else none) = some b
  rw [if_pos hk]
  exact h
end
/-! ### a frozen comprehension, assigned -/
def FzS (D : Ends) : Ends := { D with nx := fun σ H => D.nx σ H ∨ ∃ a vs, H a = some (.lst vs) ∧ ∀ od, D.nx σ (upd H a (.frz od (.lst vs))) }
section
variable {X : Cx} {W : WX} {pos : Pos}
theorem ps_frz {st : Stmt} {t : TS} (h : PS X st t) : PS X st fun D σ H => t (FzS D) σ H := ⟨fun pins s σ H D I q => by
  refine thn (h.run pins s σ H _ I q) fun f s1 z => ?_
  cases f with
  | next =>
    obtain ⟨σ', H', I', q'⟩ := z
    rcases q' with q' | ⟨a, vs, e, q'⟩
    · exact ⟨σ', H', I', q'⟩
    · obtain ⟨od, I2⟩ := I'.lock e trivial
      exact ⟨σ', _, I2, q' od⟩
  | brk => exact z
  | cont => exact z
  | ret u => exact z⟩
theorem ss_setLcF {ft : MT} {i : Nat} {y : Str} {py : Pos} {elt tg iter : Expr} {ifs : List Expr} {scope : Scope} {own : List (Str × Nat)} {spos : Pos} {fi : MI} {p : Pat} {fe : ME} (hc : X.calm = true) (hN : X.N.Nodup) (hi : SI X W tg iter fi) (ok : BlkOk X.N X.env.scope scope own)
    (hv : ∀ j ∈ p.ix, j ∈ own.map (·.2)) (hg : ∀ (s : Shared) (H : Hp) (C : Addr) (cl : List (Str × Addr)) (fp : List Addr), SG (X.blk s H scope (compEnvC scope cl C X.env) fp) tg p)
    (ht : ∀ (s : Shared) (H : Hp) (C : Addr) (cl : List (Str × Addr)) (fp : List Addr), STs (X.blk s H scope (compEnvC scope cl C X.env) fp) W0 ifs ft)
    (he : ∀ (s : Shared) (H : Hp) (C : Addr) (cl : List (Str × Addr)) (fp : List Addr), SE (X.blk s H scope (compEnvC scope cl C X.env) fp) W0 elt fe)
    (hy : X.N[i]? = some y := by rfl) (hyl : X.env.scope.names.lookup y = some .local := by rfl)
    (hsw : swapsWith (.ListComp elt [⟨tg, iter, ifs, 0⟩] scope pos) (some (.Name y py)) spos.line X.env = pure true) (hs : ∀ x, foldedSetIterable iter X.env x = pure x := by intro _; rfl) :
    SS X W (.Assign [.Name y py] (.ListComp elt [⟨tg, iter, ifs, 0⟩] scope pos) spos) (sst i (fz (lc fi p ft fe (own.map (·.2))))) := (ps_frz (ps_setLc hc hN hy hyl hsw hi ok hg ht he hs)).imp (by
  rintro D σ H ⟨φ, env, mh, re, hh, pq⟩
  refine imp_lc hv σ H _ ⟨φ, env, mh, re, hh, post_fz hh (post_mono (Px.refl φ) (Kp.refl H) (post_lift (R := RelD X.K) re pq) ?_)⟩
  rintro x H1 ⟨φ1, d, mh1, p1, k1, h1, r1, q⟩
  exact q φ1 _ H1 (Px.refl φ1) (Kp.refl H1) h1 ((re.mono p1 k1).set r1 i))
/-! ### upper -/
def upr (f : ME) : ME := fun env mh => (f env mh).bind fun d mh1 => match d with
  | .str a => if a.length ≤ 5592405 then .ok (.str (Txt.upper a)) mh1 else .no
  | _ => .no
theorem se_upr {o : Expr} {f : ME} {apos : Pos} (ho : SE X W o f) (hbase : attributeBase o "upper" X.env (eval o X.env) = eval o X.env := by rfl) (hline : (apos.endLine == pos.line) = true := by rfl) : SE X W (.Call (.Attribute o "upper" apos) [] [] pos) (upr f) := (pe_upper ho hbase hline).imp (by
  rintro σ H Q ⟨φ, env, mh, re, hh, p⟩
  refine ⟨φ, env, mh, re, hh, post_mono (Px.refl φ) (Kp.refl H) (post_bind (R1 := RelD X.K) p) ?_⟩
  rintro x H1 ⟨φ1, d, mh1, p1, k1, h1, r1, q⟩
  cases r1 with
  | str a =>
    simp only at q
    split at q
    · rename_i hl
      exact ⟨⟨a, rfl⟩, a, rfl, rfl, hl, q φ1 _ H1 (Px.refl φ1) (Kp.refl H1) h1 (.str _)⟩
    · exact q.elim
  | _ => exact q.elim)
end
end Det
/-! Det, part Dh: (*xs, y), xs.insert(i, y). -/
namespace Det
open PySem PySem.Spec PyProof.Rows L2
def astar (f : ME) (g : MA) : MA := fun env mh => (f env mh).bind fun d mh1 => match itemsD mh1 d with
  | some xs => (g env mh1).bind fun ys mh2 => .ok (xs ++ ys) mh2
  | none => .no
section
variable {X : Cx} {W : WX} {e : Expr} {es : List Expr} {f : ME} {g : MA} {p : Pos}
theorem sa_star (he : SE X W e f) (hr : SA X W es g) (hs : starEach (.Starred e p :: es) X.env = (true, eval e X.env) :: starEach es X.env := by rfl) : SA X W (.Starred e p :: es) (astar f g) := (StX.pa_star he hr hs).imp (by
  rintro σ H Q ⟨φ, env, mh, re, hh, pq⟩
  refine ⟨φ, env, mh, re, hh, post_mono (Px.refl φ) (Kp.refl H) (post_bind (R1 := RelD X.K) pq) ?_⟩
  rintro x H1 ⟨φ1, d, mh1, p1, k1, h1, r1, q⟩
  cases hi : itemsD mh1 d with
  | none => rw [hi] at q; exact q.elim
  | some xs =>
    rw [hi] at q
    obtain ⟨pp, vs, ev, hs, rs⟩ := seq_of h1 r1 hi
    subst ev
    refine ⟨pp, vs, rfl, hs.symm, φ1, env, mh1, re.mono p1 k1, h1, post_mono (Px.refl φ1) (Kp.refl H1) (post_bind (R1 := RelDs X.K) q) ?_⟩
    rintro ys H2 ⟨φ2, ds, mh2, p2, k2, h2, r2, q2⟩
    exact q2 φ2 _ H2 (Px.refl φ2) (Kp.refl H2) h2 ((rs.mono p2 k2).append r2))
def insAt (fo fi f : ME) : ME := fun env mh => (fo env mh).bind fun o mh1 => match o with
  | .ref n => (match mh1[n]? with
    | some (.lst _) => (fi env mh1).bind fun i mh2 => (f env mh2).bind fun d mh3 => (match i, mh3[n]? with
      | .int k, some (.lst xs) => if xs.length < sizeLine ∧ 0 ≤ k ∧ k < 2 ^ 63 then .ok .non (mh3.set n (.lst (xs.take k.toNat ++ [d] ++ xs.drop k.toNat))) else .no
      | _, _ => .no)
    | _ => .no)
  | _ => .no
theorem se_insAt {o e1 e2 : Expr} {fo fi f : ME} {apos cpos : Pos} (ho : SE X W o fo) (h1 : SE X W e1 fi) (h2 : SE X W e2 f) (hbase : attributeBase o "insert" X.env (eval o X.env) = eval o X.env := by rfl) (hline : (apos.endLine == cpos.line) = true := by rfl)
    (hfew : ((backTo cpos (starEach [e1, e2] X.env)).all (fun x => !x.1) && (backToKw cpos (keywordEach [] X.env)).all (fun x => x.1.isSome) && decide (([e1, e2] : List Expr).length + ([] : List Keyword).length + (if ([] : List Keyword).isEmpty then 0 else 1) < 30)) = true := by rfl)
    (hst : starEach (e1 :: [e2]) X.env = (false, eval e1 X.env) :: starEach [e2] X.env := by rfl) (hst2 : starEach (e2 :: []) X.env = (false, eval e2 X.env) :: starEach [] X.env := by rfl) (hplain : (backTo cpos (starEach [e2] X.env)).any (·.1) = false := by rfl) : SE X W (.Call (.Attribute o "insert" apos) [e1, e2] [] cpos) (insAt fo fi f) :=
  (pe_bm PySem.F.plainAttrs_list PySem.F.slot_list_insert PySem.F.type_list_insert mt_insert ho (pa_cons h1 (pa_cons h2 pa_nil hst2) hst) hbase hfew hline hst hplain).imp (by
  rintro σ H Q ⟨φ, env, mh, re, hh, p⟩
  refine ⟨φ, env, mh, re, hh, post_mono (Px.refl φ) (Kp.refl H) (post_bind (R1 := RelD X.K) p) ?_⟩
  rintro x H1 ⟨φ1, d, mh1, p1, k1, h1, r1, q⟩
  cases r1 with
  | ref hn =>
    rename_i n a
    try simp only at q
    split at q
    · rename_i xs0 hx0
      obtain ⟨vs0, e0, _⟩ := h1.lst hn hx0
      refine ⟨.inl ⟨rfl, vs0, SqL.of e0⟩, φ1, env, mh1, re.mono p1 k1, h1, post_mono (Px.refl φ1) (Kp.refl H1) (post_bind (R1 := RelD X.K) q) ?_⟩
      rintro y H2 ⟨φ2, d2, mh2, p2, k2, h2, r2, q2⟩
      refine ⟨φ2, env, mh2, (re.mono p1 k1).mono p2 k2, h2, post_mono (Px.refl φ2) (Kp.refl H2) (post_bind (R1 := RelD X.K) q2) ?_⟩
      rintro z H3 ⟨φ3, d3, mh3, p3, k3, h3, r3, q3⟩
      try simp only at q3
      split at q3
      · rename_i k xs hx
        split at q3
        · rename_i hl
          obtain ⟨vs, e1, rs⟩ := h3.lst (p3.get (p2.get hn)) hx
          cases r2
          refine ⟨a, vs, k, z, rfl, rfl, e1, by rw [← rs.length]; exact hl.1, hl.2.1, hl.2.2, ?_⟩
          exact q3 φ3 .non _ (Px.refl φ3) (Kp.mut e1 fun z => z) (h3.setL (p3.get (p2.get hn)) e1 (((rs.take _).append (.cons r3 .nil)).append (rs.drop _))) .non
        · exact q3.elim
      · exact q3.elim
    · exact q.elim
  | _ => exact q.elim)
/-! ### d = {k: v for ..}, d a local -/
theorem ps_setDc {i : Nat} {y : Str} {py : Pos} {kx vx tg iter : Expr} {ifs : List Expr} {scope : Scope} {own : List (Str × Nat)} {pos spos : Pos} {wi : TI} {gt : TG} {tt : TT} {tk tv : TE} (hc : X.calm = true) (hN : X.N.Nodup) (hy : X.N[i]? = some y) (hyl : X.env.scope.names.lookup y = some .local)
    (hsw : swapsWith (.DictComp kx vx [⟨tg, iter, ifs, 0⟩] scope pos) (some (.Name y py)) spos.line X.env = pure true) (hi : PI X tg iter wi) (ok : BlkOk X.N X.env.scope scope own)
    (hg : ∀ (s : Shared) (H : Hp) (C : Addr) (cl : List (Str × Addr)) (fp : List Addr), PG (X.blk s H scope (compEnvC scope cl C X.env) fp) tg gt) (ht : ∀ (s : Shared) (H : Hp) (C : Addr) (cl : List (Str × Addr)) (fp : List Addr), PTs (X.blk s H scope (compEnvC scope cl C X.env) fp) ifs tt)
    (hk : ∀ (s : Shared) (H : Hp) (C : Addr) (cl : List (Str × Addr)) (fp : List Addr), PE (X.blk s H scope (compEnvC scope cl C X.env) fp) kx tk)
    (he : ∀ (s : Shared) (H : Hp) (C : Addr) (cl : List (Str × Addr)) (fp : List Addr), PE (X.blk s H scope (compEnvC scope cl C X.env) fp) vx tv) (hs : ∀ x, foldedSetIterable iter X.env x = pure x := by intro _; rfl) :
    PS X (.Assign [.Name y py] (.DictComp kx vx [⟨tg, iter, ifs, 0⟩] scope pos) spos) (tAsg (tDc wi gt tt tk tv (own.map (·.2))) (gName i)) := by
  refine ⟨fun pins s σ H D I h => ?_⟩
  rw [exec_Assign_Name_used _ _ _ _ hsw]
  refine wpAny_bind (wpAny_standAt (wpAny_bind ?_))
  show wpAny _ X.A (do let _ ← comprehension (.DictComp kx vx [⟨tg, iter, ifs, 0⟩] scope pos) scope X.env (firstIterPos [⟨tg, iter, ifs, 0⟩] pos) newDict false (eval iter X.env) (some (assign (.Name y py) X.env))) _ _ s
  have h2 : tDc wi gt tt tk tv (own.map (·.2)) σ H (fun x H1 => gName i x σ H1 D.nx) := h
  refine wpAny_bind (thn (dc_core (Qf := fun _ s' => SP X pins D .next s') hc hN I hi ok hg ht hk he hs h2 fun L C s' m H' I' q hn f => ?_) fun _ s' hq => wpAny_pure (wpAny_pure hq))
  show wpAny _ _ (assign (.Name y py) X.env (.ref L)) _ _ _
  refine wpAny_assign_Name (store_ok2 (v := V.ref L) I' hN hy (.inl hyl) rfl (fun s2 I2 ⟨a, sb, ha⟩ => ?_) (.inr hyl))
  obtain ⟨f0, f1, f2, f3, f4, f5⟩ := f
  have apart : C ≠ a := by
    rcases ha with z | z
    · rw [z]; exact f1
    · exact fun e => f4 y a z e.symm
  refine ⟨m, hn.sameBut sb apart, fun h3 sb3 => ⟨_, H', I2.turned (t' := s2.toks) (fun b o hb e => (sb3.2 b hb).trans e) f0 f1 f3 f4 f5, q⟩⟩
theorem ss_setDc {ft : MT} {i : Nat} {y : Str} {py : Pos} {kx vx tg iter : Expr} {ifs : List Expr} {scope : Scope} {own : List (Str × Nat)} {pos spos : Pos} {fi : MI} {pt : Pat} {ek ev : ME} (hc : X.calm = true) (hN : X.N.Nodup) (hi : SI X W tg iter fi) (ok : BlkOk X.N X.env.scope scope own)
    (hv : ∀ j ∈ pt.ix, j ∈ own.map (·.2)) (hg : ∀ (s : Shared) (H : Hp) (C : Addr) (cl : List (Str × Addr)) (fp : List Addr), SG (X.blk s H scope (compEnvC scope cl C X.env) fp) tg pt)
    (ht : ∀ (s : Shared) (H : Hp) (C : Addr) (cl : List (Str × Addr)) (fp : List Addr), STs (X.blk s H scope (compEnvC scope cl C X.env) fp) W0 ifs ft)
    (hk : ∀ (s : Shared) (H : Hp) (C : Addr) (cl : List (Str × Addr)) (fp : List Addr), SE (X.blk s H scope (compEnvC scope cl C X.env) fp) W0 kx ek)
    (he : ∀ (s : Shared) (H : Hp) (C : Addr) (cl : List (Str × Addr)) (fp : List Addr), SE (X.blk s H scope (compEnvC scope cl C X.env) fp) W0 vx ev)
    (hy : X.N[i]? = some y := by rfl) (hyl : X.env.scope.names.lookup y = some .local := by rfl)
    (hsw : swapsWith (.DictComp kx vx [⟨tg, iter, ifs, 0⟩] scope pos) (some (.Name y py)) spos.line X.env = pure true) (hs : ∀ x, foldedSetIterable iter X.env x = pure x := by intro _; rfl) :
    SS X W (.Assign [.Name y py] (.DictComp kx vx [⟨tg, iter, ifs, 0⟩] scope pos) spos) (sst i (dcp fi pt ft ek ev (own.map (·.2)))) := (ps_setDc hc hN hy hyl hsw hi ok hg ht hk he hs).imp (by
  rintro D σ H ⟨φ, env, mh, re, hh, pq⟩
  refine imp_dcp hv σ H _ ⟨φ, env, mh, re, hh, post_mono (Px.refl φ) (Kp.refl H) (post_lift (R := RelD X.K) re pq) ?_⟩
  rintro x H1 ⟨φ1, d, mh1, p1, k1, h1, r1, q⟩
  exact q φ1 _ H1 (Px.refl φ1) (Kp.refl H1) h1 ((re.mono p1 k1).set r1 i))
end
end Det
/-! Det, part Di: x += e, x -= e on a plain local name (numbers, texts). -/
namespace Det
open PySem PySem.Spec PyProof.Rows L2
def oAddA : Op2 := fun a b mh => match a, b with
  | .int i, .int j => some (.int (i + j), mh)
  | .str x, .str y => if x.length + y.length ≤ sizeLine then some (.str (x ++ y), mh) else none
  | _, _ => none
def oSubA : Op2 := fun a b mh => match a, b with
  | .int i, .int j => some (.int (i - j), mh)
  | _, _ => none
section
variable {X : Cx} {W : WX} {e : Expr} {f : ME} {pos : Pos}
theorem r_addA : PIp X .Add (iR2 X.K oAddA) := by
  rintro pins s σ H x y u v Q I rx ry ⟨φ, mh, a, b, ra, rb, hh, p⟩
  cases ra with
  | int i =>
    cases rb with
    | int j => exact in_add pins s σ H _ _ u v Q I rx ry ⟨i, j, rfl, rfl, postO_val hh p (.int _)⟩
    | _ => exact p.elim
  | str i =>
    cases rb with
    | str j =>
      simp only [oAddA] at p
      split at p
      · rename_i hl; exact iop_add_str pins s σ H _ _ u v Q I rx ry ⟨i, j, rfl, rfl, hl, postO_val hh p (.str _)⟩
      · exact p.elim
    | _ => exact p.elim
  | _ => exact p.elim
theorem r_subA : PIp X .Sub (iR2 X.K oSubA) := by
  rintro pins s σ H x y u v Q I rx ry ⟨φ, mh, a, b, ra, rb, hh, p⟩
  cases ra with
  | int i =>
    cases rb with
    | int j => exact in_sub pins s σ H _ _ u v Q I rx ry ⟨i, j, rfl, rfl, postO_val hh p (.int _)⟩
    | _ => exact p.elim
  | _ => exact p.elim
theorem ss_aug {o : Op2} {op : Operator} {i : Nat} {x : Str} {pos' : Pos} (ho : PIp X op (iR2 X.K o)) (he : SE X W e f) (hN : X.N.Nodup) (hi : X.N[i]? = some x := by rfl) (hx : Loc X.env.scope x := by first | exact Or.inl rfl | exact Or.inr rfl)
    (hf : X.fn x = true ∨ X.env.scope.names.lookup x = some .local := by first | exact .inl rfl | exact .inr rfl) :
    SS X W (.AugAssign (.Name x pos') op e pos) (sst i (bi o (vr i) f)) := (ps_aug hN hi hx he ho hf).imp (by
  rintro D σ H ⟨φ, env, mh, re, hh, p⟩
  have p2 := post_lift (R := RelD X.K) re p
  unfold bi vr at p2
  cases h : env[i]? with
  | none => rw [h] at p2; exact p2.elim
  | some ob =>
    cases ob with
    | none => rw [h] at p2; exact p2.elim
    | some d =>
      rw [h] at p2
      obtain ⟨v, h1, h2⟩ := re.at' i d h
      refine ⟨v, h1, φ, env, mh, re, hh, post_mono (Px.refl φ) (Kp.refl H) (post_bind (R1 := RelD X.K) p2) ?_⟩
      rintro y H1 ⟨φ1, d1, mh1, p1, k1, h3, r1, q⟩
      refine ⟨φ1, mh1, d, d1, h2.mono p1 k1, r1, h3, ?_⟩
      have q2 := post_ofO q
      cases ho : o d d1 mh1 with
      | none => rw [ho] at q2; exact q2.elim
      | some pr =>
        obtain ⟨a, m⟩ := pr
        rw [ho] at q2
        intro φ' z H' px kp hr rz
        obtain ⟨φ2, a2, mh2, p2', k2, h4, r2, q3⟩ := q2 φ' z H' px kp hr rz
        exact q3 φ2 _ H' (Px.refl φ2) (Kp.refl H') h4 ((re.mono p2' k2).set r2 i))
end
end Det
/-! Det, part Dj: any(xs), all(xs) of a list of bools, sum(xs) of a list of ints. -/
namespace Det
open PySem PySem.Spec PyProof.Rows L2
def blsD : List D → Option (List Bool)
  | [] => some []
  | .bl b :: ds => (blsD ds).map (b :: ·)
  | _ => none
def intsD : List D → Option (List Int)
  | [] => some []
  | .int b :: ds => (intsD ds).map (b :: ·)
  | _ => none
theorem blsD_map : ∀ bs : List Bool, blsD (bs.map .bl) = some bs
  | [] => rfl
  | b :: bs => by simp [blsD, blsD_map bs]
theorem intsD_map : ∀ bs : List Int, intsD (bs.map .int) = some bs
  | [] => rfl
  | b :: bs => by simp [intsD, intsD_map bs]
theorem blsD_of : ∀ {ds : List D} {bs : List Bool}, blsD ds = some bs → ds = bs.map .bl
  | [], bs, h => by cases h; rfl
  | d :: ds, bs, h => by
    cases d with
    | bl b =>
      simp only [blsD] at h
      cases h1 : blsD ds with
      | none => rw [h1] at h; cases h
      | some cs => rw [h1] at h; cases h; rw [blsD_of h1]; rfl
    | _ => cases h
theorem intsD_of : ∀ {ds : List D} {bs : List Int}, intsD ds = some bs → ds = bs.map .int
  | [], bs, h => by cases h; rfl
  | d :: ds, bs, h => by
    cases d with
    | int b =>
      simp only [intsD] at h
      cases h1 : intsD ds with
      | none => rw [h1] at h; cases h
      | some cs => rw [h1] at h; cases h; rw [intsD_of h1]; rfl
    | _ => cases h
def oAny : OpA := fun as mh => match as with
  | [a] => match (lstD mh a).bind blsD with
    | some bs => some (.bl (bs.any id), mh)
    | none => none
  | _ => none
def oAll : OpA := fun as mh => match as with
  | [a] => match (lstD mh a).bind blsD with
    | some bs => some (.bl (bs.all id), mh)
    | none => none
  | _ => none
def oSum : OpA := fun as mh => match as with
  | [a] => match (lstD mh a).bind intsD with
    | some ns => some (.int ns.sum, mh)
    | none => none
  | _ => none
section
variable {X : Cx}
theorem rel_bls {φ : List Addr} {H : Hp} : ∀ {bs : List Bool} {vs : List V}, RelDs X.K φ H (bs.map .bl) vs → vs = bs.map V.bl
  | [], vs, r => by cases r; rfl
  | b :: bs, vs, r => by
    cases r with
    | cons r1 r2 => cases r1; rw [rel_bls r2]; rfl
theorem rel_ints {φ : List Addr} {H : Hp} : ∀ {bs : List Int} {vs : List V}, RelDs X.K φ H (bs.map .int) vs → vs = bs.map V.int
  | [], vs, r => by cases r; rfl
  | b :: bs, vs, r => by
    cases r with
    | cons r1 r2 => cases r1; rw [rel_ints r2]; rfl
theorem r_any (hc : X.calm = true) : CallR X (.builtin "any") (iRA X.K oAny) := by
  rintro pins s σ H xs us Q I r ⟨φ, mh, as, ra, hh, p⟩
  unfold oAny at p
  split at p
  · rename_i a
    obtain ⟨v, rfl, rv⟩ := ra.one
    cases h : (lstD mh a).bind blsD with
    | none => rw [h] at p; exact p.elim
    | some bs =>
      rw [h] at p
      obtain ⟨ds, h1, h2⟩ := Option.bind_eq_some_iff.mp h
      have e := blsD_of h2
      subst e
      obtain ⟨ad, vs, rfl, hs, rs⟩ := lstD_of hh rv h1
      rw [rel_bls rs] at hs
      exact cr_any hc pins s σ H _ us Q I r ⟨ad, bs, rfl, hs, postO_val hh p (.bl _)⟩
  · exact p.elim
theorem r_all (hc : X.calm = true) : CallR X (.builtin "all") (iRA X.K oAll) := by
  rintro pins s σ H xs us Q I r ⟨φ, mh, as, ra, hh, p⟩
  unfold oAll at p
  split at p
  · rename_i a
    obtain ⟨v, rfl, rv⟩ := ra.one
    cases h : (lstD mh a).bind blsD with
    | none => rw [h] at p; exact p.elim
    | some bs =>
      rw [h] at p
      obtain ⟨ds, h1, h2⟩ := Option.bind_eq_some_iff.mp h
      have e := blsD_of h2
      subst e
      obtain ⟨ad, vs, rfl, hs, rs⟩ := lstD_of hh rv h1
      rw [rel_bls rs] at hs
      exact cr_all hc pins s σ H _ us Q I r ⟨ad, bs, rfl, hs, postO_val hh p (.bl _)⟩
  · exact p.elim
theorem r_sum (hc : X.calm = true) : CallR X (.builtin "sum") (iRA X.K oSum) := by
  rintro pins s σ H xs us Q I r ⟨φ, mh, as, ra, hh, p⟩
  unfold oSum at p
  split at p
  · rename_i a
    obtain ⟨v, rfl, rv⟩ := ra.one
    cases h : (lstD mh a).bind intsD with
    | none => rw [h] at p; exact p.elim
    | some bs =>
      rw [h] at p
      obtain ⟨ds, h1, h2⟩ := Option.bind_eq_some_iff.mp h
      have e := intsD_of h2
      subst e
      obtain ⟨ad, vs, rfl, hs, rs⟩ := lstD_of hh rv h1
      rw [rel_ints rs] at hs
      exact cr_sum hc pins s σ H _ us Q I r ⟨ad, bs, rfl, hs, postO_val hh p (.int _)⟩
  · exact p.elim
end
end Det
/-! Det, part Dk: list(range(..)), tuple(range(..)). -/
namespace Det
open PySem PySem.Spec PyProof.Rows L2
def okRg (a b : Int) : Bool := decide (-(2 ^ 62) ≤ a ∧ a < 2 ^ 62 ∧ -(2 ^ 62) ≤ b ∧ b < 2 ^ 62 ∧ (b - a).toNat ≤ 2 ^ 24)
theorem okRg_of {a b : Int} (h1 : -1000000 ≤ a) (h2 : a ≤ 1000000) (h3 : -1000000 ≤ b) (h4 : b ≤ 1000000) : okRg a b = true := by
  unfold okRg
  rw [decide_eq_true_eq]
  omega
def lrg1 (f : ME) : ME := fun env mh => (f env mh).bind fun a m => match a with
  | .int j => if okRg 0 j = true then .ok (.ref m.length) (m ++ [.lst (rgD 0 j.toNat)]) else .no
  | _ => .no
def lrg2 (f g : ME) : ME := fun env mh => (f env mh).bind fun a m => (g env m).bind fun b m2 => match a, b with
  | .int i, .int j => if okRg i j = true then .ok (.ref m2.length) (m2 ++ [.lst (rgD i (j - i).toNat)]) else .no
  | _, _ => .no
def trg1 (f : ME) : ME := fun env mh => (f env mh).bind fun a m => match a with
  | .int j => if okRg 0 j = true then .ok (.tup (rgD 0 j.toNat)) m else .no
  | _ => .no
def trg2 (f g : ME) : ME := fun env mh => (f env mh).bind fun a m => (g env m).bind fun b m2 => match a, b with
  | .int i, .int j => if okRg i j = true then .ok (.tup (rgD i (j - i).toNat)) m2 else .no
  | _, _ => .no
section
variable {X : Cx} {W : WX} {e e2 : Expr} {f g : ME} {p pos p2 pos2 : Pos}
theorem rel_rg {φ : List Addr} {H : Hp} {i j : Int} : RelDs X.K φ H (rgD i (j - i).toNat) (rgV i j) := by
  unfold rgD rgV
  generalize (List.range (j - i).toNat) = l
  induction l with
  | nil => exact .nil
  | cons a l ih => exact .cons (.int _) ih
theorem rg_ok {i j : Int} (h : okRg i j = true) : RgOk i j := by
  unfold okRg at h
  rw [decide_eq_true_eq] at h
  exact h
theorem se_lrg1 (hc : X.calm = true) (hm2 : X.mg "list" = none) (hm : X.mg "range" = none) (he : SE X W e f) (hg2 : Gl X "list" := by rfl) (hg : Gl X "range" := by rfl) (na : starEach [e] X.env = (false, eval e X.env) :: starEach [] X.env := by rfl)
    (nb : starEach [.Call (.Name "range" p) [e] [] pos] X.env = (false, eval (.Call (.Name "range" p) [e] [] pos) X.env) :: starEach [] X.env := by rfl) :
    SE X W (.Call (.Name "list" p2) [.Call (.Name "range" p) [e] [] pos] [] pos2) (lrg1 f) := (pe_listRg hc hg2 hm2 (prg_1 hg hm he na) nb).imp (by
  rintro σ H Q ⟨φ, env, mh, re, hh, pq⟩
  refine ⟨φ, env, mh, re, hh, post_mono (Px.refl φ) (Kp.refl H) (post_bind (R1 := RelD X.K) pq) ?_⟩
  rintro x H1 ⟨φ1, d, mh1, p1, k1, h1, r1, q⟩
  cases r1 with
  | int j =>
    simp only at q
    split at q
    · rename_i ok
      refine ⟨j, rfl, rg_ok ok, fun a ha => ?_⟩
      exact q (φ1 ++ [a]) (.ref a) _ px1 (Kp.new ha) (h1.new ha (by have := rel_rg (X := X) (φ := φ1) (H := H1) (i := 0) (j := j); rwa [Int.sub_zero] at this)) (.ref h1.last)
    · exact q.elim
  | _ => exact q.elim)
theorem se_lrg2 (hc : X.calm = true) (hm2 : X.mg "list" = none) (hm : X.mg "range" = none) (he : SE X W e f) (he2 : SE X W e2 g) (hg2 : Gl X "list" := by rfl) (hg : Gl X "range" := by rfl) (na : starEach [e, e2] X.env = (false, eval e X.env) :: starEach [e2] X.env := by rfl)
    (na2 : starEach [e2] X.env = (false, eval e2 X.env) :: starEach [] X.env := by rfl) (hp : (backTo pos (starEach [e2] X.env)).any (·.1) = false := by rfl)
    (nb : starEach [.Call (.Name "range" p) [e, e2] [] pos] X.env = (false, eval (.Call (.Name "range" p) [e, e2] [] pos) X.env) :: starEach [] X.env := by rfl) :
    SE X W (.Call (.Name "list" p2) [.Call (.Name "range" p) [e, e2] [] pos] [] pos2) (lrg2 f g) := (pe_listRg hc hg2 hm2 (prg_2 hg hm he he2 na na2 hp) nb).imp (by
  rintro σ H Q ⟨φ, env, mh, re, hh, pq⟩
  refine ⟨φ, env, mh, re, hh, post_mono (Px.refl φ) (Kp.refl H) (post_bind (R1 := RelD X.K) pq) ?_⟩
  rintro x H1 ⟨φ1, d, mh1, p1, k1, h1, r1, q⟩
  refine ⟨φ1, env, mh1, re.mono p1 k1, h1, post_mono (Px.refl φ1) (Kp.refl H1) (post_bind (R1 := RelD X.K) q) ?_⟩
  rintro y H2 ⟨φ2, d2, mh2, p2, k2, h2, r2, q2⟩
  cases r1 with
  | int i =>
    cases r2 with
    | int j =>
      simp only at q2
      split at q2
      · rename_i ok
        refine ⟨i, j, rfl, rfl, rg_ok ok, fun a ha => ?_⟩
        exact q2 (φ2 ++ [a]) (.ref a) _ px1 (Kp.new ha) (h2.new ha rel_rg) (.ref h2.last)
      · exact q2.elim
    | _ => exact q2.elim
  | _ => cases r2 <;> exact q2.elim)
theorem se_trg1 (hc : X.calm = true) (hm2 : X.mg "tuple" = none) (hm : X.mg "range" = none) (he : SE X W e f) (hg2 : Gl X "tuple" := by rfl) (hg : Gl X "range" := by rfl) (na : starEach [e] X.env = (false, eval e X.env) :: starEach [] X.env := by rfl)
    (nb : starEach [.Call (.Name "range" p) [e] [] pos] X.env = (false, eval (.Call (.Name "range" p) [e] [] pos) X.env) :: starEach [] X.env := by rfl) :
    SE X W (.Call (.Name "tuple" p2) [.Call (.Name "range" p) [e] [] pos] [] pos2) (trg1 f) := (pe_tupRg hc hg2 hm2 (prg_1 hg hm he na) nb).imp (by
  rintro σ H Q ⟨φ, env, mh, re, hh, pq⟩
  refine ⟨φ, env, mh, re, hh, post_mono (Px.refl φ) (Kp.refl H) (post_bind (R1 := RelD X.K) pq) ?_⟩
  rintro x H1 ⟨φ1, d, mh1, p1, k1, h1, r1, q⟩
  cases r1 with
  | int j =>
    simp only at q
    split at q
    · rename_i ok
      refine ⟨j, rfl, rg_ok ok, fun a ha => ?_⟩
      exact q φ1 (.ref a) _ (Px.refl φ1) (Kp.new ha) (h1.grow ha) (.tup (SqT.of upd_same) (RelDs.mono (Px.refl φ1) (Kp.new ha) (by have := rel_rg (X := X) (φ := φ1) (H := H1) (i := 0) (j := j); rwa [Int.sub_zero] at this)))
    · exact q.elim
  | _ => exact q.elim)
end
end Det
/-! Det, part Dl: xs.extend(ys), ys a list (frozen ones too). -/
namespace Det
open PySem PySem.Spec PyProof.Rows L2
theorem list_extendW (l : Addr) (items : Array Value) (n : Nat) (b : Addr) (items2 : Array Value) (n2 : Nat) (dd : Option Addr) (sl : Array (Option Value)) (hc0 : ¬(!items.isEmpty && Builtin.List.listTooLong (items.size + items2.size)) = true) (hc1 : items.size ≤ sizeLine) (hs2 : items.size + items2.size ≤ sizeLine + 1) :
    Meets (Builtin.«list.extend» ⟨[.ref l, .ref b], []⟩) (fun _ R s => s.heap.get? l = some { cls := .type "list", dict := none, data := .seq items n, slots := #[] } ∧ s.heap.get? b = some { cls := .type "list", dict := dd, data := .seq items2 n2, slots := sl } ∧ R (.ok (.ret Value.none)) { s with heap := s.heap.update l (Obj.mapSeq fun x => x ++ items2), toks := s.toks }) :=
  .of_wp fun prog w A R s h => by
    obtain ⟨hp, g, d, tk, os⟩ := s; obtain ⟨hl, hb, h⟩ := h; have f1 := AutoSeq1.idx_int; have f2 := AutoSeq1.sub_tuple_tuple; have f3 := AutoSeq1.sub_list_list; have f4 := AutoSeq1.sub_tuple_list; have f5 := AutoSeq1.sub_list_tuple;
    have hz' : (items ++ items2).size ≤ sizeLine + 1 := by rw [Array.size_append]; exact hs2
    wp_walk using (wpAny_updateSeq hl rfl (hz := hc1) (_hz' := hz')), AutoSeq1.wpAny_loadPart' hl, AutoSeq1.wpAny_loadPart' hb; exact ⟨_, rfl, h⟩
def rExtS (K : PySem.W.Frag) : V → List V → Hp → VK → Prop := fun x vs H Q => ∃ l b xs zs, x = .ref l ∧ vs = [.ref b] ∧ H l = some (.lst xs) ∧ SqL K H b zs ∧ xs.length + zs.length ≤ sizeLine ∧ Q .non (upd H l (.lst (xs ++ zs)))
theorem mt_extS {X : Cx} : MtM X "list.extend" (rExtS X.K) := by
  intro pins s σ H x vs v us Q I rx rv h
  obtain ⟨l, b, xs, zs, rfl, rfl, hH, hB, hz, q⟩ := h
  cases rx
  obtain ⟨u, rfl, ru⟩ := rv.one
  cases ru
  obtain ⟨z, its, n, r, hl, e⟩ := I.lstM hH
  obtain ⟨its2, r2, ⟨o2, n2, e2, c2, d2, t2⟩, z2⟩ := I.list hB
  obtain ⟨cl2, dd2, da2, sl2⟩ := o2
  simp only at c2 d2 t2
  subst c2 d2 t2
  have hl2 := r2.length
  have hsz : its.toArray.size + its2.toArray.size ≤ sizeLine := by rw [List.size_toArray, List.size_toArray]; omega
  have hlong : ¬ (!its.toArray.isEmpty && Builtin.List.listTooLong (its.toArray.size + its2.toArray.size)) = true := by
    rw [notLongL hsz, Bool.and_false]
    exact Bool.false_ne_true
  refine call_meets PySem.F.slot_list_extend ⟨_, e, rfl⟩ PySem.F.entry_list_extend (PySem.F.args_list_extend_2 _ _)
    (list_extendW l its.toArray n b its2.toArray n2 none sl2 hlong (by rw [List.size_toArray]; omega) (by omega)) ⟨e, e2, ?_⟩
  refine ⟨.non, _, I.lset (its' := its ++ its2) hH e (by simp) (r.append r2) ?_, rfl, q⟩
  rw [List.length_append]
  omega
def ext (fo f : ME) : ME := fun env mh => (fo env mh).bind fun o mh1 => match o with
  | .ref n => (match mh1[n]? with
    | some (.lst _) => (f env mh1).bind fun d mh2 => (match mh2[n]?, lstD mh2 d with
      | some (.lst xs), some ys => if xs.length + ys.length ≤ sizeLine then .ok .non (mh2.set n (.lst (xs ++ ys))) else .no
      | _, _ => .no)
    | _ => .no)
  | _ => .no
section
variable {X : Cx} {W : WX}
theorem se_ext {o e : Expr} {fo f : ME} {apos cpos : Pos} (ho : SE X W o fo) (he : SE X W e f) (hbase : attributeBase o "extend" X.env (eval o X.env) = eval o X.env := by rfl) (hline : (apos.endLine == cpos.line) = true := by rfl)
    (hfew : ((backTo cpos (starEach [e] X.env)).all (fun x => !x.1) && (backToKw cpos (keywordEach [] X.env)).all (fun x => x.1.isSome) && decide (([e] : List Expr).length + ([] : List Keyword).length + (if ([] : List Keyword).isEmpty then 0 else 1) < 30)) = true := by rfl)
    (hst : starEach (e :: []) X.env = (false, eval e X.env) :: starEach [] X.env := by rfl) (hplain : (backTo cpos (starEach [] X.env)).any (·.1) = false := by rfl) : SE X W (.Call (.Attribute o "extend" apos) [e] [] cpos) (ext fo f) :=
  (pe_bm PySem.F.plainAttrs_list PySem.F.slot_list_extend PySem.F.type_list_extend mt_extS ho (pa_cons he pa_nil hst) hbase hfew hline hst hplain).imp (by
  rintro σ H Q ⟨φ, env, mh, re, hh, p⟩
  refine ⟨φ, env, mh, re, hh, post_mono (Px.refl φ) (Kp.refl H) (post_bind (R1 := RelD X.K) p) ?_⟩
  rintro x H1 ⟨φ1, d, mh1, p1, k1, h1, r1, q⟩
  cases r1 with
  | ref hn =>
    rename_i n a
    try simp only at q
    split at q
    · rename_i xs0 hx0
      obtain ⟨vs0, e0, _⟩ := h1.lst hn hx0
      refine ⟨.inl ⟨rfl, vs0, SqL.of e0⟩, φ1, env, mh1, re.mono p1 k1, h1, post_mono (Px.refl φ1) (Kp.refl H1) (post_bind (R1 := RelD X.K) q) ?_⟩
      rintro y H2 ⟨φ2, d2, mh2, p2, k2, h2, r2, q2⟩
      try simp only at q2
      split at q2
      · rename_i xs ys hx hy
        split at q2
        · rename_i hl
          obtain ⟨vs, e1, rs⟩ := h2.lst (p2.get hn) hx
          obtain ⟨pb, vb, eb, sb, rb⟩ := lstD_of h2 r2 hy
          subst eb
          exact ⟨a, pb, vs, vb, rfl, rfl, e1, sb, by rw [← rs.length, ← rb.length]; exact hl, q2 φ2 .non _ (Px.refl φ2) (Kp.mut e1 fun z => z) (h2.setL (p2.get hn) e1 (rs.append rb)) .non⟩
        · exact q2.elim
      · exact q2.elim
    · exact q.elim
  | _ => exact q.elim)
end
end Det
/-! Det, part Dm: for x in reversed(range(..)). -/
namespace Det
open PySem PySem.Spec PyProof.Rows L2
def rgC (lo c : Int) (n : Nat) : List D := (List.range n).map fun i => .int (lo + (i : Nat) * c)
def rvr1 (f : ME) : MI := fun env mh => (f env mh).bind fun d mh1 => match d with
  | .int j => if okB j = true then .ok ⟨rgC ((j.toNat : Nat) - 1) (-1) j.toNat, fun _ => true⟩ mh1 else .no
  | _ => .no
def rvr2 (f g : ME) : MI := fun env mh => (f env mh).bind fun d mh1 => (g env mh1).bind fun e mh2 => match d, e with
  | .int i, .int j => if okB i = true ∧ okB j = true then .ok ⟨rgC (i + ((j - i).toNat : Nat) - 1) (-1) (j - i).toNat, fun _ => true⟩ mh2 else .no
  | _, _ => .no
section
variable {X : Cx} {W : WX} {tg : Expr}
theorem itOk_rgC {φ : List Addr} {H : Hp} (lo c : Int) (n : Nat) : ItOk X.K φ H ⟨rgC lo c n, fun _ => true⟩ (Itc lo c n) := by
  intro i φ' mh' H' _ _ hh _
  refine ⟨fun d hd => ?_, fun hl => ?_⟩
  · have hi : i < n := by
      have := (List.getElem?_eq_some_iff.mp hd).1
      simpa [rgC] using this
    have ed : d = .int (lo + (i : Nat) * c) := by
      simp [rgC, hi] at hd
      exact hd.symm
    subst ed
    refine ⟨hi, fun x H2 y => ?_⟩
    obtain ⟨e1, e2⟩ := y
    subst e1; subst e2
    exact ⟨Kp.refl _, hh, .int _⟩
  · show n ≤ i
    simpa [rgC] using hl
theorem si_rvr1 {e : Expr} {f : ME} {p pos p2 pos2 : Pos} (hm2 : X.mg "reversed" = none) (hm : X.mg "range" = none) (he : SE X W e f) (hg2 : Gl X "reversed" := by rfl) (hg : Gl X "range" := by rfl) (na : starEach [e] X.env = (false, eval e X.env) :: starEach [] X.env := by rfl)
    (nb : starEach [.Call (.Name "range" p) [e] [] pos] X.env = (false, eval (.Call (.Name "range" p) [e] [] pos) X.env) :: starEach [] X.env := by rfl) :
    SI X W tg (.Call (.Name "reversed" p2) [.Call (.Name "range" p) [e] [] pos] [] pos2) (rvr1 f) := (pi_revR hg2 hm2 (prg_1 hg hm he na) nb).imp (by
  rintro σ H R ⟨φ, env, mh, re, hh, pq⟩
  refine ⟨φ, env, mh, re, hh, post_mono (Px.refl φ) (Kp.refl H) (post_bind (R1 := RelD X.K) pq) ?_⟩
  rintro x H1 ⟨φ1, d, mh1, p1, k1, h1, r1, q⟩
  cases r1 with
  | int j =>
    try simp only at q
    split at q
    · rename_i hb
      obtain ⟨b1, b2⟩ := of_decide_eq_true hb
      refine ⟨j, rfl, by omega, by omega, b1, b2, ?_⟩
      have e1 : (0 : Int) + (((j - 0).toNat : Nat) : Int) - 1 = ((j.toNat : Nat) : Int) - 1 := by rw [Int.sub_zero]; omega
      rw [e1, Int.sub_zero]
      exact q φ1 _ H1 (Px.refl φ1) (Kp.refl H1) h1 (itOk_rgC _ _ _)
    · exact q.elim
  | _ => exact q.elim)
theorem si_rvr2 {e e2 : Expr} {f g : ME} {p pos p2 pos2 : Pos} (hm2 : X.mg "reversed" = none) (hm : X.mg "range" = none) (he : SE X W e f) (he2 : SE X W e2 g) (hg2 : Gl X "reversed" := by rfl) (hg : Gl X "range" := by rfl) (na : starEach [e, e2] X.env = (false, eval e X.env) :: starEach [e2] X.env := by rfl)
    (na2 : starEach [e2] X.env = (false, eval e2 X.env) :: starEach [] X.env := by rfl) (hp : (backTo pos (starEach [e2] X.env)).any (·.1) = false := by rfl)
    (nb : starEach [.Call (.Name "range" p) [e, e2] [] pos] X.env = (false, eval (.Call (.Name "range" p) [e, e2] [] pos) X.env) :: starEach [] X.env := by rfl) :
    SI X W tg (.Call (.Name "reversed" p2) [.Call (.Name "range" p) [e, e2] [] pos] [] pos2) (rvr2 f g) := (pi_revR hg2 hm2 (prg_2 hg hm he he2 na na2 hp) nb).imp (by
  rintro σ H R ⟨φ, env, mh, re, hh, pq⟩
  refine ⟨φ, env, mh, re, hh, post_mono (Px.refl φ) (Kp.refl H) (post_bind (R1 := RelD X.K) pq) ?_⟩
  rintro x H1 ⟨φ1, d, mh1, p1, k1, h1, r1, q⟩
  refine ⟨φ1, env, mh1, re.mono p1 k1, h1, post_mono (Px.refl φ1) (Kp.refl H1) (post_bind (R1 := RelD X.K) q) ?_⟩
  rintro y H2 ⟨φ2, d2, mh2, p2, k2, h2, r2, q2⟩
  cases r1 with
  | int i =>
    cases r2 with
    | int j =>
      try simp only at q2
      split at q2
      · rename_i hb
        obtain ⟨b1, b2⟩ := of_decide_eq_true hb.1
        obtain ⟨b3, b4⟩ := of_decide_eq_true hb.2
        exact ⟨i, j, rfl, rfl, b1, b2, b3, b4, q2 φ2 _ H2 (Px.refl φ2) (Kp.refl H2) h2 (itOk_rgC _ _ _)⟩
      · exact q2.elim
    | _ => exact q2.elim
  | _ => cases r2 <;> exact q2.elim)
end
end Det
/-! Det, part Dn: {k: v}, a dict display of one pair. -/
namespace Det
open PySem PySem.Spec PyProof.Rows L2
def dct1 (fk fv : ME) : ME := fun env mh => (fk env (mh ++ [.dk []])).bind fun k m1 => (fv env m1).bind fun v m2 => match m2[mh.length]?, dKey k with
  | some (.dk []), some key => .ok (.ref mh.length) (m2.set mh.length (.dk [(key, v)]))
  | _, _ => .no
section
variable {X : Cx} {W : WX} {k v : Expr} {fk fv : ME} {pos : Pos}
theorem se_dct1 (hk : SE X W k fk) (hv : SE X W v fv) : SE X W (.Dict [some k] [v] pos) (dct1 fk fv) := (pe_disp (pps_cons hk hv pps_nil) rfl rfl (by simp) (by simp)).imp (by
  rintro σ H Q ⟨φ, env, mh, re, hh, p⟩ a ha
  have hnew : HR X.K (φ ++ [a]) (mh ++ [.dk []]) (upd H a (.dK [])) := hh.push ha (hh.fresh ha) ⟨[], upd_same, rfl, .nil⟩
  have hat : (φ ++ [a])[mh.length]? = some a := hh.last
  have pn : post X.K X.mg W (RelD X.K) σ (φ ++ [a]) (upd H a (.dK [])) (dct1 fk fv env mh) Q := post_mono px1 (Kp.new ha) p fun _ _ q => q
  refine ⟨φ ++ [a], env, _, re.mono px1 (Kp.new ha), hnew, post_mono (Px.refl _) (Kp.refl _) (post_bind (R1 := RelD X.K) pn) ?_⟩
  rintro x H1 ⟨φ1, d, mh1, p1, k1, h1, r1, q⟩
  refine ⟨φ1, env, mh1, (re.mono px1 (Kp.new ha)).mono p1 k1, h1, post_mono (Px.refl φ1) (Kp.refl H1) (post_bind (R1 := RelD X.K) q) ?_⟩
  rintro y H2 ⟨φ2, d2, mh2, p2, k2, h2, r2, q2⟩
  have hat2 : φ2[mh.length]? = some a := p2.get (p1.get hat)
  split at q2
  · rename_i key hl hkey
    obtain ⟨kvs, hv2, rk⟩ := h2.ob _ _ _ hat2 hl
    have e0 := rk.nil'
    subst e0
    have ey := key_rel (r1.mono p2 k2) hkey
    subst ey
    have hH : Kp H2 (upd H2 a (.dK (putK [] key y))) := Kp.mut hv2 fun z => z
    refine ⟨hv2, [(key, y)], rfl, by simp, ?_⟩
    exact q2 φ2 (.ref a) _ (Px.refl φ2) hH (h2.put (o' := .dk (putD [] key d2)) hat2 hv2 (fun z => z) ⟨_, upd_same, (RelK.put (k := key) (kds := []) rk r2).mono (Px.refl φ2) hH⟩) (.ref hat2)
  · exact q2.elim)
end
end Det
/-! Det, part Do: xs.reverse(). -/
namespace Det
open PySem PySem.Spec PyProof.Rows L2
theorem rels_rev {K : PySem.W.Frag} {φ : List Addr} {H : Hp} : ∀ {ds : List D} {vs : List V}, RelDs K φ H ds vs → RelDs K φ H ds.reverse vs.reverse
  | _, _, .nil => .nil
  | _, _, .cons r rs => by
    rw [List.reverse_cons, List.reverse_cons]
    exact (rels_rev rs).append (.cons r .nil)
def rvs (fo : ME) : ME := fun env mh => (fo env mh).bind fun o mh1 => match o with
  | .ref n => match mh1[n]? with
    | some (.lst xs) => .ok .non (mh1.set n (.lst xs.reverse))
    | _ => .no
  | _ => .no
section
variable {X : Cx} {W : WX}
theorem se_rvs {o : Expr} {fo : ME} {apos cpos : Pos} (ho : SE X W o fo) (hbase : attributeBase o "reverse" X.env (eval o X.env) = eval o X.env := by rfl) (hline : (apos.endLine == cpos.line) = true := by rfl) :
    SE X W (.Call (.Attribute o "reverse" apos) [] [] cpos) (rvs fo) :=
  (pe_bm0 PySem.F.plainAttrs_list PySem.F.slot_list_reverse PySem.F.type_list_reverse mt_reverse ho hbase hline).imp (by
  rintro σ H Q ⟨φ, env, mh, re, hh, p⟩
  refine ⟨φ, env, mh, re, hh, post_mono (Px.refl φ) (Kp.refl H) (post_bind (R1 := RelD X.K) p) ?_⟩
  rintro x H1 ⟨φ1, d, mh1, p1, k1, h1, r1, q⟩
  cases r1 with
  | ref hn =>
    rename_i n a
    try simp only at q
    split at q
    · rename_i xs hx
      obtain ⟨vs, e1, rs⟩ := h1.lst hn hx
      have km : Kp H1 (upd H1 a (.lst vs.reverse)) := Kp.mut e1 fun z => z
      exact ⟨.inl ⟨rfl, vs, SqL.of e1⟩, a, vs, rfl, rfl, e1, q φ1 .non _ (Px.refl φ1) km (h1.setL hn e1 (rels_rev rs)) .non⟩
    · exact q.elim
  | _ => exact q.elim)
end
end Det
/-! Det, part Dp: list(d), d a dict. -/
namespace Det
open PySem PySem.Spec PyProof.Rows L2
def oListX : OpA := fun as mh => match as with
  | [.ref n] => match mh[n]? with
    | some (.dk kds) => some (.ref mh.length, mh ++ [.lst (kds.map fun kv => keyD kv.1)])
    | _ => oList [.ref n] mh
  | as => oList as mh
section
variable {X : Cx}
theorem r_listX (hc : X.calm = true) : CallR X (.type "list") (iRA X.K oListX) := by
  rintro pins s σ H xs us Q I r ⟨φ, mh, as, ra, hh, p⟩
  unfold oListX at p
  split at p
  · rename_i n
    split at p
    · rename_i kds hx
      obtain ⟨v, rfl, rv⟩ := ra.one
      cases rv with
      | ref hn =>
        obtain ⟨kvs, e, rk⟩ := hh.ob _ _ _ hn hx
        refine call_list_dK hc pins s σ H _ us Q I r ⟨_, kvs, rfl, e, fun q hq => ?_⟩
        have e1 : kvs.map (fun kv => kV kv.1) = (kds.map (·.1)).map kV := by rw [rk.1, List.map_map]; rfl
        have e2 : kds.map (fun kv => keyD kv.1) = (kds.map (·.1)).map keyD := by rw [List.map_map]; rfl
        rw [e1]
        rw [e2] at p
        exact postO_new hh p (keyDs_rel _) hq
    · exact r_list pins s σ H xs us Q I r ⟨φ, mh, _, ra, hh, p⟩
  · exact r_list pins s σ H xs us Q I r ⟨φ, mh, _, ra, hh, p⟩
end
end Det
/-! Det, part S: what must hold ahead of a mirror (plain Lean, no program in sight). -/
namespace Det
open PySem

/-- r ends well with Q, or with an exception and E (an inductive word: nothing is run to read it) -/
inductive Res.wp {α : Type} : Res α → (α → MH → Prop) → (Exn → MH → Prop) → Prop
  | ok {a : α} {h : MH} {Q : α → MH → Prop} {E : Exn → MH → Prop} : Q a h → Res.wp (.ok a h) Q E
  | ex {x : Exn} {h : MH} {Q : α → MH → Prop} {E : Exn → MH → Prop} : E x h → Res.wp (.ex x h) Q E
structure Po where
  nx : Nv → MH → Prop
  rt : D → MH → Prop
  bk : Nv → MH → Prop
  ct : Nv → MH → Prop
  ex : Exn → Nv → MH → Prop
inductive SRes.wp : SRes → Po → Prop
  | nx {e : Nv} {h : MH} {O : Po} : O.nx e h → SRes.wp (.nx e h) O
  | bk {e : Nv} {h : MH} {O : Po} : O.bk e h → SRes.wp (.bk e h) O
  | ct {e : Nv} {h : MH} {O : Po} : O.ct e h → SRes.wp (.ct e h) O
  | rt {d : D} {h : MH} {O : Po} : O.rt d h → SRes.wp (.rt d h) O
  | ex {x : Exn} {e : Nv} {h : MH} {O : Po} : O.ex x e h → SRes.wp (.ex x e h) O
inductive owp {α : Type} : Option (α × MH) → (α → MH → Prop) → Prop
  | some {a : α} {h : MH} {Q : α → MH → Prop} : Q a h → owp (.some (a, h)) Q
section
variable {α β : Type} {Q Q' : α → MH → Prop} {E E' : Exn → MH → Prop} {mh : MH} {env : Nv} {O : Po}
@[simp] theorem wp_ok {a : α} : (Res.ok a mh).wp Q E ↔ Q a mh := ⟨fun h => by cases h; assumption, .ok⟩
@[simp] theorem wp_no : (Res.no : Res α).wp Q E ↔ False := ⟨(fun h => nomatch h), False.elim⟩
@[simp] theorem wp_ex {x : Exn} : (Res.ex x mh : Res α).wp Q E ↔ E x mh := ⟨fun h => by cases h; assumption, .ex⟩
@[simp] theorem swp_nx {e : Nv} : (SRes.nx e mh).wp O ↔ O.nx e mh := ⟨fun h => by cases h; assumption, .nx⟩
@[simp] theorem swp_bk {e : Nv} : (SRes.bk e mh).wp O ↔ O.bk e mh := ⟨fun h => by cases h; assumption, .bk⟩
@[simp] theorem swp_ct {e : Nv} : (SRes.ct e mh).wp O ↔ O.ct e mh := ⟨fun h => by cases h; assumption, .ct⟩
@[simp] theorem swp_rt {d : D} : (SRes.rt d mh).wp O ↔ O.rt d mh := ⟨fun h => by cases h; assumption, .rt⟩
@[simp] theorem swp_ex {x : Exn} {e : Nv} : (SRes.ex x e mh).wp O ↔ O.ex x e mh := ⟨fun h => by cases h; assumption, .ex⟩
@[simp] theorem swp_no : SRes.no.wp O ↔ False := ⟨(fun h => nomatch h), False.elim⟩
@[simp] theorem owp_some {a : α} : owp (some (a, mh)) Q ↔ Q a mh := ⟨fun h => by cases h; assumption, .some⟩
@[simp] theorem owp_none : owp (none : Option (α × MH)) Q ↔ False := ⟨(fun h => nomatch h), False.elim⟩
@[simp] theorem wp_bind {r : Res α} {k : α → MH → Res β} {Q : β → MH → Prop} : (r.bind k).wp Q E ↔ r.wp (fun a h => (k a h).wp Q E) E := by
  cases r with
  | ok a h => exact ⟨fun q => .ok q, fun q => by cases q; assumption⟩
  | ex x h => exact ⟨fun q => .ex (wp_ex.mp q), fun q => .ex (wp_ex.mp q)⟩
  | no => exact wp_no.trans wp_no.symm
@[simp] theorem wp_ofO {o : Option (α × MH)} : (Res.ofO o).wp Q E ↔ owp o Q := by
  cases o with
  | none => exact wp_no.trans owp_none.symm
  | some p => obtain ⟨a, h⟩ := p; exact wp_ok.trans owp_some.symm
theorem Res.wp_mono {r : Res α} (h : r.wp Q E) (hq : ∀ a h, Q a h → Q' a h) (he : ∀ x h, E x h → E' x h) : r.wp Q' E' := by
  cases h with
  | ok h => exact .ok (hq _ _ h)
  | ex h => exact .ex (he _ _ h)
theorem SRes.wp_mono {r : SRes} {O O' : Po} (h : r.wp O) (h1 : ∀ e h, O.nx e h → O'.nx e h) (h2 : ∀ e h, O.rt e h → O'.rt e h) (h3 : ∀ e h, O.bk e h → O'.bk e h) (h4 : ∀ e h, O.ct e h → O'.ct e h) (h5 : ∀ x e h, O.ex x e h → O'.ex x e h) : r.wp O' := by
  cases h with
  | nx h => exact .nx (h1 _ _ h)
  | bk h => exact .bk (h3 _ _ h)
  | ct h => exact .ct (h4 _ _ h)
  | rt h => exact .rt (h2 _ _ h)
  | ex h => exact .ex (h5 _ _ _ h)
/-! with the wish behind, as the end of a run says it -/
theorem wp_end {r : Res α} (h : r.wp Q fun _ _ => False) : ∃ a m, r = .ok a m ∧ Q a m := by
  cases h with
  | ok h => exact ⟨_, _, rfl, h⟩
  | ex h => exact h.elim
theorem wp_bind_iff {r : Res α} {k : α → MH → Res β} {Q : β → MH → Prop} {P : α → MH → Prop} (hk : ∀ a h, (k a h).wp Q E ↔ P a h) : (r.bind k).wp Q E ↔ r.wp P E := by
  rw [wp_bind]
  exact ⟨fun h => Res.wp_mono h (fun a m q => (hk a m).mp q) fun _ _ q => q, fun h => Res.wp_mono h (fun a m q => (hk a m).mpr q) fun _ _ q => q⟩
theorem wp_lift {r : Res α} {k : α → MH → SRes} : (lift r env k).wp O ↔ r.wp (fun a h => (k a h).wp O) (fun x h => O.ex x env h) := by
  cases r with
  | ok a h => exact ⟨fun q => .ok q, fun q => by cases q; assumption⟩
  | ex x h => exact ⟨fun q => .ex (swp_ex.mp q), fun q => .ex (wp_ex.mp q)⟩
  | no => exact swp_no.trans wp_no.symm
theorem wp_lift_iff {r : Res α} {k : α → MH → SRes} {P : α → MH → Prop} (hk : ∀ a h, (k a h).wp O ↔ P a h) : (lift r env k).wp O ↔ r.wp P (fun x h => O.ex x env h) := by
  rw [wp_lift]
  exact ⟨fun h => Res.wp_mono h (fun a m q => (hk a m).mp q) fun _ _ q => q, fun h => Res.wp_mono h (fun a m q => (hk a m).mpr q) fun _ _ q => q⟩
/-! ### expressions -/
variable {f g : ME} {ft gt : MT} {fa : MA} {Qd : D → MH → Prop} {Qb : Bool → MH → Prop} {Ql : List D → MH → Prop}
@[simp] theorem wp_vr {i : Nat} : (vr i env mh).wp Qd E ↔ ∃ d, env[i]? = some (some d) ∧ Qd d mh := by
  unfold vr
  cases env[i]? with
  | none => simp
  | some o => cases o <;> simp
@[simp] theorem wp_kn {d : D} : (kn d env mh).wp Qd E ↔ Qd d mh := wp_ok
@[simp] theorem wp_anil : (anil env mh).wp Ql E ↔ Ql [] mh := wp_ok
@[simp] theorem wp_acons : (acons f fa env mh).wp Ql E ↔ (f env mh).wp (fun d h => (fa env h).wp (fun ds h2 => Ql (d :: ds) h2) E) E := by
  unfold acons; simp
@[simp] theorem wp_un {o : Op1} : (un o f env mh).wp Qd E ↔ (f env mh).wp (fun a h => owp (o a h) Qd) E := by unfold un; simp
@[simp] theorem wp_bi {o : Op2} : (bi o f g env mh).wp Qd E ↔ (f env mh).wp (fun a h => (g env h).wp (fun b h2 => owp (o a b h2) Qd) E) E := by unfold bi; simp
@[simp] theorem wp_ap {o : OpA} : (ap o fa env mh).wp Qd E ↔ (fa env mh).wp (fun as h => owp (o as h) Qd) E := by unfold ap; simp
@[simp] theorem wp_tb : (tb f env mh).wp Qb E ↔ (f env mh).wp (fun a h => ∃ b, a = .bl b ∧ Qb b h) E := wp_bind_iff fun a h => by cases a <;> simp
@[simp] theorem wp_tru : (tru f env mh).wp Qb E ↔ (f env mh).wp (fun a h => ∃ b, truD a h = some b ∧ Qb b h) E := wp_bind_iff fun a h => by cases truD a h <;> simp
theorem wp_ite {α : Type} {c : Prop} [Decidable c] {a b : Res α} {Q : α → MH → Prop} : (if c then a else b).wp Q E ↔ (c → a.wp Q E) ∧ (¬ c → b.wp Q E) := by
  split <;> simp [*]
@[simp] theorem wp_tand : (tand ft gt env mh).wp Qb E ↔ (ft env mh).wp (fun b h => (b = true → (gt env h).wp Qb E) ∧ (b = false → Qb false h)) E := wp_bind_iff fun b h => by cases b <;> simp
@[simp] theorem wp_tor : (tor ft gt env mh).wp Qb E ↔ (ft env mh).wp (fun b h => (b = true → Qb true h) ∧ (b = false → (gt env h).wp Qb E)) E := wp_bind_iff fun b h => by cases b <;> simp
@[simp] theorem wp_tnot : (tnot ft env mh).wp Qb E ↔ (ft env mh).wp (fun b h => Qb (!b) h) E := by unfold tnot; simp
@[simp] theorem wp_yes : (yes env mh).wp Qb E ↔ Qb true mh := wp_ok
@[simp] theorem wp_eand : (eand f g env mh).wp Qd E ↔ (f env mh).wp (fun a h => ∃ b, truD a h = some b ∧ (b = true → (g env h).wp Qd E) ∧ (b = false → Qd a h)) E := wp_bind_iff fun a h => by
  cases truD a h with
  | none => simp
  | some b => cases b <;> simp
@[simp] theorem wp_eor : (eor f g env mh).wp Qd E ↔ (f env mh).wp (fun a h => ∃ b, truD a h = some b ∧ (b = true → Qd a h) ∧ (b = false → (g env h).wp Qd E)) E := wp_bind_iff fun a h => by
  cases truD a h with
  | none => simp
  | some b => cases b <;> simp
@[simp] theorem wp_enot : (enot f env mh).wp Qd E ↔ (f env mh).wp (fun a h => ∃ b, truD a h = some b ∧ Qd (.bl (!b)) h) E := wp_bind_iff fun a h => by cases truD a h <;> simp
@[simp] theorem wp_eif : (eif ft f g env mh).wp Qd E ↔ (ft env mh).wp (fun b h => (b = true → (f env h).wp Qd E) ∧ (b = false → (g env h).wp Qd E)) E := wp_bind_iff fun b h => by cases b <;> simp
theorem wp_if_no {α : Type} {c : Prop} [Decidable c] {a : Res α} {Q : α → MH → Prop} : (if c then a else .no).wp Q E ↔ c ∧ a.wp Q E := by
  by_cases h : c
  · rw [if_pos h]; exact ⟨fun q => ⟨h, q⟩, fun q => q.2⟩
  · rw [if_neg h]; exact ⟨(fun q => nomatch q), fun q => absurd q.1 h⟩
@[simp] theorem wp_cal {n : Nat} {F : Fn} : (cal n F fa env mh).wp Qd E ↔ (fa env mh).wp (fun ds h => ds.length = n ∧ (F ds h).wp Qd E) E := wp_bind_iff fun _ _ => wp_if_no
@[simp] theorem wp_calK {n : Nat} {pm : List Nat} {F : Fn} : (calK n pm F fa env mh).wp Qd E ↔ (fa env mh).wp (fun ds h => ds.length = n ∧ (F (pickD pm ds) h).wp Qd E) E := wp_bind_iff fun _ _ => wp_if_no
@[simp] theorem wp_dtup : (dtup fa env mh).wp Qd E ↔ (fa env mh).wp (fun ds h => ds.length ≤ sizeLine ∧ Qd (.tup ds) h) E := wp_bind_iff fun _ _ => wp_if_no.trans (by simp)
@[simp] theorem wp_dlst : (dlst fa env mh).wp Qd E ↔ (fa env mh).wp (fun ds h => ds.length ≤ sizeLine ∧ Qd (.ref h.length) (h ++ [.lst ds])) E := wp_bind_iff fun _ _ => wp_if_no.trans (by simp)
@[simp] theorem wp_app : (app f g env mh).wp Qd E ↔ (f env mh).wp (fun o h => ∃ n, o = .ref n ∧ (∃ ys, h[n]? = some (.lst ys)) ∧ (g env h).wp (fun d h2 => ∃ xs, h2[n]? = some (.lst xs) ∧ xs.length < sizeLine ∧ Qd .non (h2.set n (.lst (xs ++ [d])))) E) E := wp_bind_iff fun o h => by
  cases o with
  | ref n =>
    simp only [D.ref.injEq, exists_eq_left']
    have inner : ∀ (d : D) (h2 : MH), (match h2[n]? with | some (.lst xs) => if xs.length < sizeLine then Res.ok D.non (h2.set n (.lst (xs ++ [d]))) else .no | _ => .no).wp Qd E ↔ ∃ xs, h2[n]? = some (.lst xs) ∧ xs.length < sizeLine ∧ Qd .non (h2.set n (.lst (xs ++ [d]))) := fun d h2 => by
      cases h2[n]? with
      | none => simp
      | some ob =>
        cases ob with
        | lst xs => exact wp_if_no.trans (by simp)
        | dk _ => simp
        | dt _ => simp
        | lk _ => simp
    cases hn : h[n]? with
    | none => simp
    | some ob =>
      cases ob with
      | lst ys => exact (wp_bind_iff inner).trans (by simp)
      | dk _ => simp
      | dt _ => simp
      | lk _ => simp
  | _ => simp
/-! ### statements -/
variable {s t : MS}
@[simp] theorem wp_nop : (nop env mh).wp O ↔ O.nx env mh := swp_nx
@[simp] theorem wp_brk : (brk env mh).wp O ↔ O.bk env mh := swp_bk
@[simp] theorem wp_cnt : (cnt env mh).wp O ↔ O.ct env mh := swp_ct
@[simp] theorem wp_retN : (retN env mh).wp O ↔ O.rt .non mh := swp_rt
@[simp] theorem wp_sq : (sq s t env mh).wp O ↔ (s env mh).wp { O with nx := fun e h => (t e h).wp O } := by
  unfold sq
  cases s env mh <;> simp
@[simp] theorem wp_sst {i : Nat} : (sst i f env mh).wp O ↔ (f env mh).wp (fun d h => O.nx (env.set i (some d)) h) (fun x h => O.ex x env h) := wp_lift_iff fun _ _ => swp_nx
@[simp] theorem wp_drp : (drp f env mh).wp O ↔ (f env mh).wp (fun d h => O.nx env h) (fun x h => O.ex x env h) := wp_lift_iff fun _ _ => swp_nx
@[simp] theorem wp_ret : (ret f env mh).wp O ↔ (f env mh).wp (fun d h => O.rt d h) (fun x h => O.ex x env h) := wp_lift_iff fun _ _ => swp_rt
@[simp] theorem wp_sif : (sif ft s t env mh).wp O ↔ (ft env mh).wp (fun b h => (b = true → (s env h).wp O) ∧ (b = false → (t env h).wp O)) (fun x h => O.ex x env h) := wp_lift_iff fun b _ => by cases b <;> simp
@[simp] theorem wp_asg {p : Pat} : (asg p f env mh).wp O ↔ (f env mh).wp (fun d h => ∃ e, setP p d env = some e ∧ O.nx e h) (fun x h => O.ex x env h) := wp_lift_iff fun d _ => by cases setP p d env <;> simp
@[simp] theorem wp_setIx {fo fi : ME} : (setIx fo fi f env mh).wp O ↔ (f env mh).wp (fun v h => (fo env h).wp (fun o h2 => (fi env h2).wp (fun i h3 => ∃ n k xs j, o = .ref n ∧ i = .int k ∧ h3[n]? = some (.lst xs) ∧ L2.ixN xs.length k = some j ∧ O.nx env (h3.set n (.lst (xs.set j v)))) (fun x h => O.ex x env h)) (fun x h => O.ex x env h)) (fun x h => O.ex x env h) :=
  wp_lift_iff fun v _ => wp_lift_iff fun o _ => wp_lift_iff fun i h3 => by
    cases o with
    | ref n =>
      cases i with
      | int k =>
        simp only
        cases hn : h3[n]? with
        | none => simp [hn]
        | some ob =>
          cases ob with
          | lst xs =>
            simp only
            cases hj : L2.ixN xs.length k with
            | none => simp [hn, hj]
            | some j => simp [hn, hj]
          | dk _ => simp [hn]
          | dt _ => simp [hn]
          | lk _ => simp [hn]
      | _ => simp
    | _ => simp
@[simp] theorem wp_sfor {fi : MI} {p : Pat} : (sfor fi p s env mh).wp O ↔ (fi env mh).wp (fun it h => (loopF it.chk p s it.items env h).wp O) (fun x h => O.ex x env h) := wp_lift
/-- a loop by what holds ahead of each turn -/
theorem loop_wp {chk : MH → Bool} {p : Pat} {ds : List D} (I : Nat → Nv → MH → Prop) (h0 : I 0 env mh)
    (hs : ∀ i d env mh, ds[i]? = some d → I i env mh → chk mh = true ∧ ∃ e, setP p d env = some e ∧ (s e mh).wp { nx := I (i + 1), ct := I (i + 1), bk := O.nx, rt := O.rt, ex := O.ex })
    (hd : ∀ env mh, I ds.length env mh → chk mh = true ∧ O.nx env mh) : (loopF chk p s ds env mh).wp O := by
  have go : ∀ (rest : List D) (i : Nat) (env : Nv) (mh : MH), (∀ k, rest[k]? = ds[i + k]?) → i + rest.length = ds.length → I i env mh → (loopF chk p s rest env mh).wp O := by
    intro rest
    induction rest with
    | nil =>
      intro i env mh _ hl hi
      have e : i = ds.length := by simpa using hl
      subst e
      obtain ⟨h1, h2⟩ := hd _ _ hi
      unfold loopF
      rw [if_pos h1]; exact .nx h2
    | cons d rest ih =>
      intro i env mh hr hl hi
      have hd0 : ds[i]? = some d := by have := hr 0; simpa using this.symm
      obtain ⟨h1, e, h2, h3⟩ := hs i d env mh hd0 hi
      have next : ∀ env mh, I (i + 1) env mh → (loopF chk p s rest env mh).wp O := fun env mh q => ih (i + 1) env mh (fun k => by have := hr (k + 1); rw [List.getElem?_cons_succ] at this; rw [this]; congr 1; omega) (by simp at hl; omega) q
      unfold loopF
      rw [if_pos h1, h2]
      simp only
      cases hb : s e mh with
      | nx e2 m2 => rw [hb] at h3; exact next _ _ (swp_nx.mp h3)
      | ct e2 m2 => rw [hb] at h3; exact next _ _ (swp_ct.mp h3)
      | bk e2 m2 => rw [hb] at h3; exact .nx (by simpa using h3)
      | rt d2 m2 => rw [hb] at h3; exact .rt (by simpa using h3)
      | ex x e2 m2 => rw [hb] at h3; exact .ex (by simpa using h3)
      | no => rw [hb] at h3; exact nomatch h3
  exact go ds 0 env mh (fun k => by rw [Nat.zero_add]) (by simp) h0
/-- a while by what holds ahead of each turn and a number that falls -/
theorem while_wp {n : Nat} (I : Nat → Nv → MH → Prop) (m0 : Nat) (hm : m0 < n) (h0 : I m0 env mh)
    (hs : ∀ m env mh, I m env mh → (ft env mh).wp (fun b h => (b = true → (s env h).wp { nx := fun e h => ∃ m', m' < m ∧ I m' e h, ct := fun e h => ∃ m', m' < m ∧ I m' e h, bk := O.nx, rt := O.rt, ex := O.ex }) ∧ (b = false → O.nx env h)) (fun x h => O.ex x env h)) :
    (whl ft s n env mh).wp O := by
  induction n generalizing m0 env mh with
  | zero => omega
  | succ n ih =>
    unfold whl
    rw [wp_lift]
    refine Res.wp_mono (hs m0 env mh h0) (fun b h q => ?_) fun _ _ q => q
    cases b with
    | false => exact .nx (q.2 rfl)
    | true =>
      have q := q.1 rfl
      simp only [if_true]
      cases hb : s env h with
      | nx e2 m2 => rw [hb] at q; obtain ⟨m', lt, q⟩ := swp_nx.mp q; exact ih m' (by omega) q
      | ct e2 m2 => rw [hb] at q; obtain ⟨m', lt, q⟩ := swp_ct.mp q; exact ih m' (by omega) q
      | bk e2 m2 => rw [hb] at q; exact .nx (by simpa using q)
      | rt d2 m2 => rw [hb] at q; exact .rt (by simpa using q)
      | ex x e2 m2 => rw [hb] at q; exact .ex (by simpa using q)
      | no => rw [hb] at q; exact nomatch q
@[simp] theorem wp_runF {n : Nat} {ds : List D} : (runF n s ds mh).wp Qd E ↔ (s (ds.map some ++ List.replicate (n - ds.length) none) mh).wp { nx := fun _ h => Qd .non h, rt := Qd, bk := fun _ _ => False, ct := fun _ _ => False, ex := fun x _ h => E x h } := by
  unfold runF
  cases s (ds.map some ++ List.replicate (n - ds.length) none) mh <;> simp
/-! ### comprehensions -/
theorem wp_nox {r : Res α} : r.nox.wp Q E ↔ r.wp Q (fun _ _ => False) := by
  cases r <;> simp [Res.nox]
@[simp] theorem wp_lc {fi : MI} {p : Pat} {vs : List Nat} : (lc fi p ft f vs env mh).wp Qd E ↔ (fi env mh).wp (fun it h => (loopC h.length it.chk p ft f (wipeD env vs) it.items (h ++ [.lst []])).wp Qd E) E := by
  unfold lc; rw [wp_bind]
/-- a comprehension by what holds ahead of each turn: acc the list so far -/
theorem comp_wp {n : Nat} {chk : MH → Bool} {p : Pat} {ds : List D} (I : Nat → List D → MH → Prop) (acc0 : List D) (hacc : mh[n]? = some (.lst acc0)) (h0 : I 0 acc0 mh)
    (hI : ∀ i acc mh, I i acc mh → mh[n]? = some (.lst acc))
    (hs : ∀ i d acc mh, ds[i]? = some d → I i acc mh → chk mh = true ∧ ∃ e, setP p d env = some e ∧ (ft e mh).wp (fun b h => (b = true → (f e h).wp (fun y h2 => h2[n]? = some (.lst acc) ∧ acc.length < sizeLine ∧ I (i + 1) (acc ++ [y]) (h2.set n (.lst (acc ++ [y])))) fun _ _ => False) ∧ (b = false → I (i + 1) acc h)) fun _ _ => False)
    (hd : ∀ acc mh, I ds.length acc mh → chk mh = true ∧ Qd (.ref n) mh) : (loopC n chk p ft f env ds mh).wp Qd E := by
  have go : ∀ (rest : List D) (i : Nat) (acc : List D) (mh : MH), (∀ k, rest[k]? = ds[i + k]?) → i + rest.length = ds.length → I i acc mh → (loopC n chk p ft f env rest mh).wp Qd E := by
    intro rest
    induction rest with
    | nil =>
      intro i acc mh _ hl hi
      have e : i = ds.length := by simpa using hl
      subst e
      obtain ⟨h1, h2⟩ := hd _ _ hi
      unfold loopC
      rw [if_pos h1]; exact .ok h2
    | cons d rest ih =>
      intro i acc mh hr hl hi
      have hd0 : ds[i]? = some d := by have := hr 0; simpa using this.symm
      obtain ⟨h1, e, h2, h3⟩ := hs i d acc mh hd0 hi
      have next : ∀ acc mh, I (i + 1) acc mh → (loopC n chk p ft f env rest mh).wp Qd E := fun acc mh q => ih (i + 1) acc mh (fun k => by have := hr (k + 1); rw [List.getElem?_cons_succ] at this; rw [this]; congr 1; omega) (by simp at hl; omega) q
      unfold loopC
      rw [if_pos h1, h2]
      simp only
      rw [wp_bind, wp_nox]
      refine Res.wp_mono h3 (fun b h q => ?_) fun _ _ q => q.elim
      cases b with
      | false => exact next _ _ (q.2 rfl)
      | true =>
        simp only [if_true]
        rw [wp_bind, wp_nox]
        refine Res.wp_mono (q.1 rfl) (fun y h2 q2 => ?_) fun _ _ q => q.elim
        obtain ⟨a1, a2, a3⟩ := q2
        simp only [a1, if_pos a2]
        exact next _ _ a3
  exact go ds 0 acc0 mh (fun k => by rw [Nat.zero_add]) (by simp) h0
end
end Det
/-! Det, part T: the laws' pool; operations on known data. -/
namespace Det
open PySem
/-- nothing that stood is changed, but what is at p -/
def Fr (p : Nat) (mh mh' : MH) : Prop := mh.length ≤ mh'.length ∧ ∀ n, n < mh.length → n ≠ p → mh'[n]? = mh[n]?
theorem Fr.refl (p : Nat) (mh : MH) : Fr p mh mh := ⟨Nat.le_refl _, fun _ _ _ => rfl⟩
theorem Fr.trans {p : Nat} {a b c : MH} (h : Fr p a b) (k : Fr p b c) : Fr p a c := ⟨Nat.le_trans h.1 k.1, fun n hn hp => (k.2 n (Nat.lt_of_lt_of_le hn h.1) hp).trans (h.2 n hn hp)⟩
theorem Fr.get {p n : Nat} {a b : MH} {o : Ob} (h : Fr p a b) (e : a[n]? = some o) (hp : n ≠ p) : b[n]? = some o := (h.2 n (List.getElem?_eq_some_iff.mp e).1 hp).trans e
theorem Fr.push (p : Nat) (mh : MH) (o : Ob) : Fr p mh (mh ++ [o]) := ⟨by simp, fun n hn _ => List.getElem?_append_left hn⟩
theorem Fr.set (p : Nat) (mh : MH) (o : Ob) : Fr p mh (mh.set p o) := ⟨by simp, fun n _ hp => List.getElem?_set_ne (Ne.symm hp)⟩
/-- what was laid since a may change -/
theorem Fr.new {p n : Nat} {a b : MH} {o : Ob} (h : Fr p a b) (hn : a.length ≤ n) : Fr p a (b.set n o) := ⟨by simpa using h.1, fun m hm hp => by rw [List.getElem?_set_ne (by omega)]; exact h.2 m hm hp⟩
theorem Fr.add {p : Nat} {a b : MH} {o : Ob} (h : Fr p a b) : Fr p a (b ++ [o]) := h.trans (Fr.push p b o)
/-- the pool at p: its counts, its cells -/
def PoolAt (p : Nat) (mh : MH) : Prop := ∃ (a b c : Int) (q : Nat) (cells : List Int), mh[p]? = some (.lst [.int a, .int b, .int c, .ref q]) ∧ mh[q]? = some (.lst (cells.map .int)) ∧ q ≠ p ∧ 0 ≤ c ∧ cells.length ≤ 63
theorem PoolAt.lt {p : Nat} {mh : MH} (h : PoolAt p mh) : p < mh.length := by
  obtain ⟨_, _, _, _, _, h, _⟩ := h
  exact (List.getElem?_eq_some_iff.mp h).1
/-- the pool stands while other things are laid or changed -/
theorem PoolAt.push {p : Nat} {mh : MH} (h : PoolAt p mh) (o : Ob) : PoolAt p (mh ++ [o]) := by
  obtain ⟨a, b, c, q, cells, h1, h2, h3⟩ := h
  exact ⟨a, b, c, q, cells, by rw [List.getElem?_append_left (List.getElem?_eq_some_iff.mp h1).1]; exact h1, by rw [List.getElem?_append_left (List.getElem?_eq_some_iff.mp h2).1]; exact h2, h3⟩
/-- the pool and its cells are older than n -/
def PoolB (p n : Nat) (mh : MH) : Prop := p < n ∧ ∃ (a b c : Int) (q : Nat) (cells : List Int), q < n ∧ mh[p]? = some (.lst [.int a, .int b, .int c, .ref q]) ∧ mh[q]? = some (.lst (cells.map .int)) ∧ q ≠ p ∧ 0 ≤ c ∧ cells.length ≤ 63
theorem PoolB.push {p n : Nat} {mh : MH} (h : PoolB p n mh) (o : Ob) : PoolB p n (mh ++ [o]) := by
  obtain ⟨hp, a, b, c, q, cells, hq, h1, h2, h3⟩ := h
  exact ⟨hp, a, b, c, q, cells, hq, by rw [List.getElem?_append_left (List.getElem?_eq_some_iff.mp h1).1]; exact h1, by rw [List.getElem?_append_left (List.getElem?_eq_some_iff.mp h2).1]; exact h2, h3⟩
theorem PoolB.set {p n m : Nat} {mh : MH} (h : PoolB p n mh) (o : Ob) (hm : n ≤ m) : PoolB p n (mh.set m o) := by
  obtain ⟨hp, a, b, c, q, cells, hq, h1, h2, h3⟩ := h
  exact ⟨hp, a, b, c, q, cells, hq, by rw [List.getElem?_set_ne (by omega)]; exact h1, by rw [List.getElem?_set_ne (by omega)]; exact h2, h3⟩
theorem PoolB.mono {p n m : Nat} {mh : MH} (h : PoolB p n mh) (hm : n ≤ m) : PoolB p m mh := by
  obtain ⟨hp, a, b, c, q, cells, hq, r⟩ := h
  exact ⟨by omega, a, b, c, q, cells, by omega, r⟩
/-! ### operations on what is known -/
section
variable {mh : MH} {Q : D → MH → Prop} {i j : Int} {x y : Str} {xs ys : List D} {n : Nat}
@[simp] theorem o_add_i : oAdd (.int i) (.int j) mh = some (.int (i + j), mh) := rfl
@[simp] theorem o_sub_i : oSub (.int i) (.int j) mh = some (.int (i - j), mh) := rfl
@[simp] theorem o_eq_i : oEq (.int i) (.int j) mh = some (.bl (i == j), mh) := rfl
@[simp] theorem o_ne_i : oNe (.int i) (.int j) mh = some (.bl (!(i == j)), mh) := rfl
@[simp] theorem o_eq_s : oEq (.str x) (.str y) mh = some (.bl (x == y), mh) := rfl
@[simp] theorem o_ne_s : oNe (.str x) (.str y) mh = some (.bl (!(x == y)), mh) := rfl
@[simp] theorem o_int : oInt [.int i] mh = some (.int i, mh) := rfl
@[simp] theorem o_mod : owp (oMod (.int i) (.int j) mh) Q ↔ j ≠ 0 ∧ Q (.int (i.fmod j)) mh := by
  simp only [oMod]
  by_cases h : j ≠ 0
  · rw [if_pos h]; simp [h]
  · rw [if_neg h]; simp [h]
@[simp] theorem o_fdiv : owp (oFdiv (.int i) (.int j) mh) Q ↔ (j ≠ 0 ∧ j.natAbs < 1073741824) ∧ Q (.int (i.fdiv j)) mh := by
  simp only [oFdiv]
  by_cases h : j ≠ 0 ∧ j.natAbs < 1073741824
  · rw [if_pos h]; simp [h]
  · rw [if_neg h]; simp [h]
theorem owp_if {α : Type} {c : Prop} [Decidable c] {o : Option (α × MH)} {Q : α → MH → Prop} : owp (if c then o else none) Q ↔ c ∧ owp o Q := by
  by_cases h : c
  · rw [if_pos h]; exact ⟨fun q => ⟨h, q⟩, fun q => q.2⟩
  · rw [if_neg h]; exact ⟨(fun q => nomatch q), fun q => absurd q.1 h⟩
theorem o_mul : owp (oMulX (.int i) (.int j) mh) Q ↔ (((-(2 ^ 64) < i ∧ i < 2 ^ 64) ∨ (-(2 ^ 64) < j ∧ j < 2 ^ 64)) ∨ i.natAbs.log2 + j.natAbs.log2 < 1000000) ∧ Q (.int (i * j)) mh := by
  show owp (if _ then _ else none) Q ↔ _
  rw [owp_if, owp_some]
/-- * by a small number -/
theorem o_mul_r (h : -(2 ^ 64) < j ∧ j < 2 ^ 64) : owp (oMulX (.int i) (.int j) mh) Q ↔ Q (.int (i * j)) mh := by
  rw [o_mul]; exact ⟨fun q => q.2, fun q => ⟨.inl (.inr h), q⟩⟩
theorem o_mul_l (h : -(2 ^ 64) < i ∧ i < 2 ^ 64) : owp (oMulX (.int i) (.int j) mh) Q ↔ Q (.int (i * j)) mh := by
  rw [o_mul]; exact ⟨fun q => q.2, fun q => ⟨.inl (.inl h), q⟩⟩
@[simp] theorem o_pow (k : Int) : owp (oPow (.int i) (.int k) mh) Q ↔ (0 ≤ k ∧ k ≤ 1000000 ∧ i.natAbs < 2 ^ 64) ∧ Q (.int (i ^ k.toNat)) mh := by
  simp only [oPow]
  split
  · rename_i h; simp [h]
  · rename_i h; simp [h]
@[simp] theorem o_shl (k : Int) : owp (oShl (.int i) (.int k) mh) Q ↔ (0 ≤ k ∧ k ≤ 1000000 ∧ i.natAbs < 2 ^ 64) ∧ Q (.int (i * 2 ^ k.toNat)) mh := by
  simp only [oShl]
  split
  · rename_i h; simp [h]
  · rename_i h; simp [h]
@[simp] theorem o_lt_i : oLt (.int i) (.int j) mh = some (.bl (decide (i < j)), mh) := rfl
@[simp] theorem o_le_i : oLe (.int i) (.int j) mh = some (.bl (decide (i ≤ j)), mh) := rfl
@[simp] theorem o_gt_i : oGt (.int i) (.int j) mh = some (.bl (decide (i > j)), mh) := rfl
@[simp] theorem o_ge_i : oGe (.int i) (.int j) mh = some (.bl (decide (i ≥ j)), mh) := rfl
/-- the items of what is read -/
theorem o_ix {c : D} {ds : List D} {d : D} (h : itemsD mh c = some ds) (ha : L2.atI ds i = some d) : oIx c (.int i) mh = some (d, mh) := by
  cases c with
  | str z => simp [itemsD] at h
  | _ => simp [oIx, h, ha]
theorem o_ix_s {c : Nat} (hz : x.length ≤ sizeLine) (ha : L2.atI x.cps.toList i = some c) : oIx (.str x) (.int i) mh = some (.str ⟨#[c]⟩, mh) := by
  simp [oIx, hz, ha]
@[simp] theorem it_tup : itemsD mh (.tup xs) = some xs := rfl
@[simp] theorem it_rol : itemsD mh (.rol xs) = some xs := rfl
theorem it_ref (h : mh[n]? = some (.lst xs)) : itemsD mh (.ref n) = some xs := by simp [itemsD, h]
theorem atI_nat {α : Type} {l : List α} {k : Nat} : L2.atI l (k : Int) = l[k]? := by
  unfold L2.atI L2.ixN
  rw [if_pos (Int.natCast_nonneg k)]
  by_cases h : k < l.length
  · rw [if_pos (by exact_mod_cast h)]; rfl
  · rw [if_neg (by exact_mod_cast h)]; rw [List.getElem?_eq_none (by omega)]; rfl
theorem atI_of {α : Type} {l : List α} {k : Int} (h0 : 0 ≤ k) (h1 : k < l.length) : ∃ a, L2.atI l k = some a ∧ a ∈ l ∧ l[k.toNat]? = some a := by
  obtain ⟨m, rfl⟩ := Int.eq_ofNat_of_zero_le h0
  have hm : m < l.length := by exact_mod_cast h1
  exact ⟨l[m], by rw [atI_nat]; simp [hm], List.getElem_mem hm, by simp [hm]⟩
theorem ixN_of {n : Nat} {k : Int} (h0 : 0 ≤ k) (h1 : k < n) : L2.ixN n k = some k.toNat := by
  unfold L2.ixN; rw [if_pos h0, if_pos h1]
end
section
variable {mh : MH} {Q : D → MH → Prop} {i j : Int} {x y : Str} {xs ys : List D} {n : Nat}
@[simp] theorem ix_ref : owp (oIx (.ref n) (.int i) mh) Q ↔ ∃ xs, mh[n]? = some (.lst xs) ∧ ∃ d, L2.atI xs i = some d ∧ Q d mh := by
  simp only [oIx, itemsD]
  cases h : mh[n]? with
  | none => simp
  | some o =>
    cases o with
    | lst xs =>
      simp only [Option.some.injEq, Ob.lst.injEq, exists_eq_left']
      cases L2.atI xs i <;> simp
    | dk _ => simp
    | dt _ => simp
    | lk _ => simp
@[simp] theorem ix_tup : owp (oIx (.tup xs) (.int i) mh) Q ↔ ∃ d, L2.atI xs i = some d ∧ Q d mh := by
  simp only [oIx, itemsD]
  cases L2.atI xs i <;> simp
@[simp] theorem ix_rol : owp (oIx (.rol xs) (.int i) mh) Q ↔ ∃ d, L2.atI xs i = some d ∧ Q d mh := by
  simp only [oIx, itemsD]
  cases L2.atI xs i <;> simp
@[simp] theorem ix_str : owp (oIx (.str x) (.int i) mh) Q ↔ x.length ≤ sizeLine ∧ ∃ c, L2.atI x.cps.toList i = some c ∧ Q (.str ⟨#[c]⟩) mh := by
  simp only [oIx]
  rw [owp_if]
  cases L2.atI x.cps.toList i <;> simp
@[simp] theorem len_ref : owp (oLen [.ref n] mh) Q ↔ (∃ xs, mh[n]? = some (.lst xs) ∧ Q (.int (xs.length : Nat)) mh) ∨ (∃ xs, mh[n]? = some (.dk xs) ∧ Q (.int (xs.length : Nat)) mh) := by
  simp only [oLen, lenD]
  cases h : mh[n]? with
  | none => simp
  | some o => cases o <;> simp
@[simp] theorem len_tup : oLen [.tup xs] mh = some (.int (xs.length : Nat), mh) := rfl
@[simp] theorem len_rol : oLen [.rol xs] mh = some (.int (xs.length : Nat), mh) := rfl
@[simp] theorem len_str : owp (oLen [.str x] mh) Q ↔ x.length ≤ sizeLine ∧ Q (.int (x.length : Nat)) mh := by
  simp only [oLen, lenD]
  split
  · rename_i h; simp [h]
  · rename_i h; simp [h]
end
/-- atI on a written list -/
@[simp] theorem atI_0 {α : Type} {a : α} {l : List α} : L2.atI (a :: l) 0 = some a := by
  have := atI_nat (l := a :: l) (k := 0); simpa using this
theorem atI_s {α : Type} {a : α} {l : List α} {k : Nat} : L2.atI (a :: l) ((k + 1 : Nat) : Int) = L2.atI l (k : Nat) := by
  rw [atI_nat, atI_nat]; simp
@[simp] theorem atI_1 {α : Type} {a b : α} {l : List α} : L2.atI (a :: b :: l) 1 = some b := by
  have := atI_nat (l := a :: b :: l) (k := 1); simpa using this
@[simp] theorem atI_2 {α : Type} {a b c : α} {l : List α} : L2.atI (a :: b :: c :: l) 2 = some c := by
  have := atI_nat (l := a :: b :: c :: l) (k := 2); simpa using this
@[simp] theorem atI_3 {α : Type} {a b c d : α} {l : List α} : L2.atI (a :: b :: c :: d :: l) 3 = some d := by
  have := atI_nat (l := a :: b :: c :: d :: l) (k := 3); simpa using this
@[simp] theorem ixN_0 {n : Nat} : L2.ixN (n + 1) 0 = some 0 := by unfold L2.ixN; simp
@[simp] theorem ixN_1 {n : Nat} : L2.ixN (n + 1 + 1) 1 = some 1 := by unfold L2.ixN; simp; omega
@[simp] theorem ixN_2 {n : Nat} : L2.ixN (n + 1 + 1 + 1) 2 = some 2 := by unfold L2.ixN; simp; omega
@[simp] theorem ixN_3 {n : Nat} : L2.ixN (n + 1 + 1 + 1 + 1) 3 = some 3 := by unfold L2.ixN; simp; omega
theorem fmod_bd {i j : Int} (h : 0 < j) : 0 ≤ i.fmod j ∧ i.fmod j < j := ⟨Int.fmod_nonneg_of_pos i h, Int.fmod_lt_of_pos i h⟩
end Det
/-! Det, part U: sorted lists of texts; more operations on known data. -/
namespace Det
open PySem
/-! ### the order of texts -/
def leS (a b : Str) : Bool := decide (a.cps.toList ≤ b.cps.toList)
theorem leS_refl (a : Str) : leS a a = true := by unfold leS; simp
theorem leS_trans {a b c : Str} (h : leS a b = true) (k : leS b c = true) : leS a c = true := by
  unfold leS at *
  rw [decide_eq_true_eq] at *
  exact List.le_trans h k
theorem leS_total (a b : Str) : (leS a b || leS b a) = true := by
  unfold leS
  rw [Bool.or_eq_true, decide_eq_true_eq, decide_eq_true_eq]
  exact List.le_total _ _
theorem leS_anti {a b : Str} (h : leS a b = true) (k : leS b a = true) : a = b := by
  unfold leS at *
  rw [decide_eq_true_eq] at *
  have e := List.le_antisymm h k
  cases a; cases b
  simp only [Str.mk.injEq]
  exact Array.toList_inj.mp e
theorem ltS_iff (a b : Str) : ltS a b = !leS b a := by
  unfold ltS leS
  by_cases h : a.cps.toList < b.cps.toList
  · have h' : ¬ b.cps.toList ≤ a.cps.toList := fun q => List.not_lt.mpr q h
    simp [h, h']
  · have h' : b.cps.toList ≤ a.cps.toList := List.not_lt.mp h
    simp [h, h']
section
variable {α β : Type} {le : α → α → Bool}
theorem ins_map (f : β → α) (b : β) : ∀ l : List β, ins le (f b) (l.map f) = (ins (fun x y => le (f x) (f y)) b l).map f
  | [] => rfl
  | c :: l => by
    simp only [List.map_cons, ins]
    split
    · rfl
    · simp [ins_map f b l]
theorem isort_map (f : β → α) : ∀ l : List β, isort le (l.map f) = (isort (fun x y => le (f x) (f y)) l).map f
  | [] => rfl
  | b :: l => by simp only [List.map_cons, isort]; rw [isort_map f l, ins_map]
theorem ins_sorted (tr : ∀ a b c, le a b = true → le b c = true → le a c = true) (to : ∀ a b, (le a b || le b a) = true) (a : α) : ∀ l : List α, l.Pairwise (fun x y => le x y = true) → (ins le a l).Pairwise (fun x y => le x y = true)
  | [], _ => by simp [ins]
  | b :: l, h => by
    obtain ⟨h1, h2⟩ := List.pairwise_cons.mp h
    unfold ins
    split
    · rename_i hab
      refine List.pairwise_cons.mpr ⟨fun x hx => ?_, h⟩
      rcases List.mem_cons.mp hx with rfl | hx
      · exact hab
      · exact tr _ _ _ hab (h1 x hx)
    · rename_i hab
      have hba : le b a = true := by
        have := to a b
        rw [Bool.or_eq_true] at this
        exact this.resolve_left hab
      refine List.pairwise_cons.mpr ⟨fun x hx => ?_, ins_sorted tr to a l h2⟩
      rcases List.mem_cons.mp ((ins_perm a l).mem_iff.mp hx) with rfl | hx
      · exact hba
      · exact h1 x hx
theorem isort_sorted (tr : ∀ a b c, le a b = true → le b c = true → le a c = true) (to : ∀ a b, (le a b || le b a) = true) : ∀ l : List α, (isort le l).Pairwise (fun x y => le x y = true)
  | [] => List.Pairwise.nil
  | a :: l => ins_sorted tr to a _ (isort_sorted tr to l)
theorem isort_of_sorted : ∀ l : List α, l.Pairwise (fun x y => le x y = true) → isort le l = l
  | [], _ => rfl
  | a :: l, h => by
    obtain ⟨h1, h2⟩ := List.pairwise_cons.mp h
    show ins le a (isort le l) = _
    rw [isort_of_sorted l h2]
    cases l with
    | nil => rfl
    | cons b l => unfold ins; rw [if_pos (h1 b List.mem_cons_self)]
end
/-- sorted lists of the same members, each once, are one -/
theorem sorted_one {l₁ l₂ : List Str} (s1 : l₁.Pairwise (fun x y => leS x y = true)) (s2 : l₂.Pairwise (fun x y => leS x y = true)) (n1 : l₁.Nodup) (n2 : l₂.Nodup) (h : ∀ a, a ∈ l₁ ↔ a ∈ l₂) : l₁ = l₂ := by
  have p : l₁.Perm l₂ := (List.perm_ext_iff_of_nodup n1 n2).mpr h
  rw [← isort_of_sorted l₁ s1, ← isort_of_sorted l₂ s2]
  exact isort_perm (le := leS) (fun a b c h k => leS_trans h k) leS_total p fun a _ b _ h k => leS_anti h k
/-! ### the lot of a list of texts: sorted, each once -/
def dd (ys : List Str) : List Str → List Str
  | [] => ys
  | x :: xs => dd (if x ∈ ys then ys else ys ++ [x]) xs
theorem addKs_str : ∀ (xs ys : List Str), addKs (ys.map .inr) (xs.map .inr) = (dd ys xs).map .inr
  | [], ys => rfl
  | x :: xs, ys => by
    show addKs (addK (ys.map .inr) (.inr x)) (xs.map .inr) = _
    have e : addK (ys.map .inr) (.inr x) = ((if x ∈ ys then ys else ys ++ [x]).map .inr : List L2.Key) := by
      unfold addK
      by_cases h : x ∈ ys
      · rw [if_pos (List.mem_map.mpr ⟨x, h, rfl⟩), if_pos h]
      · rw [if_neg (fun z => by obtain ⟨y, hy, e⟩ := List.mem_map.mp z; cases e; exact h hy), if_neg h]; simp
    rw [e, addKs_str xs]
    rfl
theorem dd_mem : ∀ (xs ys : List Str) (a : Str), a ∈ dd ys xs ↔ a ∈ ys ∨ a ∈ xs
  | [], ys, a => by simp [dd]
  | x :: xs, ys, a => by
    unfold dd
    rw [dd_mem xs]
    split
    · rename_i h
      constructor
      · rintro (q | q)
        · exact .inl q
        · exact .inr (List.mem_cons_of_mem _ q)
      · rintro (q | q)
        · exact .inl q
        · rcases List.mem_cons.mp q with rfl | q
          · exact .inl h
          · exact .inr q
    · simp [or_assoc]
theorem dd_nodup : ∀ (xs ys : List Str), ys.Nodup → (dd ys xs).Nodup
  | [], ys, h => h
  | x :: xs, ys, h => by
    unfold dd
    refine dd_nodup xs _ ?_
    split
    · exact h
    · rename_i hx
      rw [List.nodup_append]
      exact ⟨h, by simp, fun a ha b hb e => by rw [List.mem_singleton] at hb; subst hb; subst e; exact hx ha⟩
def lotS (xs : List Str) : List Str := isort leS (dd [] xs)
theorem lotS_sorted (xs : List Str) : (lotS xs).Pairwise (fun x y => leS x y = true) := isort_sorted (le := leS) (fun a b c h k => leS_trans h k) leS_total _
theorem lotS_nodup (xs : List Str) : (lotS xs).Nodup := (isort_perm_self _).nodup_iff.mpr (dd_nodup xs [] List.nodup_nil)
theorem lotS_mem (xs : List Str) (a : Str) : a ∈ lotS xs ↔ a ∈ xs := by
  unfold lotS
  rw [(isort_perm_self _).mem_iff, dd_mem]; simp
theorem lotS_one {l xs : List Str} (s : l.Pairwise (fun x y => leS x y = true)) (n : l.Nodup) (h : ∀ a, a ∈ l ↔ a ∈ xs) : l = lotS xs := sorted_one s (lotS_sorted xs) n (lotS_nodup xs) fun a => (h a).trans (lotS_mem xs a).symm
theorem lotS_congr {xs ys : List Str} (h : ∀ a, a ∈ xs ↔ a ∈ ys) : lotS xs = lotS ys := lotS_one (lotS_sorted xs) (lotS_nodup xs) fun a => (lotS_mem xs a).trans (h a)
theorem lotS_lotS (xs : List Str) : lotS (lotS xs) = lotS xs := lotS_congr fun a => lotS_mem xs a
theorem keysOf_strs : ∀ xs : List Str, keysOf (xs.map .str) = some (xs.map .inr)
  | [] => rfl
  | x :: xs => by simp [keysOf, keysOf_strs xs, dKey]
theorem leK_leS : (fun x y : Str => leK (.inr x) (.inr y)) = leS := by
  funext x y; rw [leK_str]; rfl
theorem evenK_strs (xs : List Str) : evenK (xs.map .inr) = true := by
  unfold evenK
  rw [Bool.or_eq_true]
  refine .inr ?_
  rw [List.all_map]
  exact List.all_eq_true.mpr fun _ _ => rfl
/-- sorted(set(texts)) -/
theorem o_sset {c : D} {mh : MH} {xs : List Str} (h : itemsD mh c = some (xs.map .str)) (hl : xs.length ≤ 4000) : oSSet c mh = some (.ref mh.length, mh ++ [.lst ((lotS xs).map .str)]) := by
  unfold oSSet
  rw [h]
  simp only [keysOf_strs]
  rw [show addKs [] (xs.map .inr) = (dd [] xs).map .inr from addKs_str xs []]
  rw [if_pos ⟨by rw [List.length_map]; omega, evenK_strs _⟩, isort_map, leK_leS, List.map_map]
  rfl
theorem leD_str : (fun x y : Str => leD (.str x) (.str y)) = leS := by
  funext x y
  exact congrFun (congrFun (PySem.W.dataLe_str (fun x : Str => x)) x) y
theorem okSort_strs (xs : List Str) (h : xs.length ≤ sizeLine) : okSort (xs.map .str) = true := by
  unfold okSort
  rw [Bool.and_eq_true, Bool.and_eq_true, Bool.and_eq_true]
  refine ⟨⟨⟨?_, ?_⟩, ?_⟩, by rw [List.length_map]; exact decide_eq_true h⟩
  · rw [List.all_map]
    exact List.all_eq_true.mpr fun x _ => by simp [datD, datP, PyData.depth]
  · rw [List.all_map]
    refine List.all_eq_true.mpr fun x _ => ?_
    show (xs.map D.str).all _ = true
    rw [List.all_map]
    exact List.all_eq_true.mpr fun y _ => by simp [datD, datP, PySem.W.alike]
  · rw [Bool.or_eq_true]
    refine .inr ?_
    rw [List.all_map]
    exact List.all_eq_true.mpr fun x _ => by simp [datD, datP, notT]
theorem o_sorted_s {c : D} {mh : MH} {xs : List Str} (h : itemsD mh c = some (xs.map .str)) (hl : xs.length ≤ sizeLine) : oSorted [c] mh = some (.ref mh.length, mh ++ [.lst ((isort leS xs).map .str)]) := by
  unfold oSorted
  simp only [h, okSort_strs xs hl, if_true, isort_map, leD_str]
end Det
/-! Det, part V: what is walked, texts, built-ins on known data. -/
namespace Det
open PySem
section
variable {mh : MH} {env : Nv} {E : Exn → MH → Prop} {f g : ME} {Qi : ItD → MH → Prop} {Q : D → MH → Prop} {n : Nat} {xs ys : List D} {x y : Str}
@[simp] theorem wp_range1 : (range1 f env mh).wp Qi E ↔ (f env mh).wp (fun d h => ∃ j, d = .int j ∧ okB j = true ∧ Qi ⟨rgD 0 j.toNat, fun _ => true⟩ h) E := wp_bind_iff fun d h => by
  cases d with
  | int j => exact wp_if_no.trans (by simp)
  | _ => simp
@[simp] theorem wp_range2 : (range2 f g env mh).wp Qi E ↔ (f env mh).wp (fun d h => (g env h).wp (fun e h2 => ∃ i j, d = .int i ∧ e = .int j ∧ (okB i = true ∧ okB j = true) ∧ Qi ⟨rgD i (j - i).toNat, fun _ => true⟩ h2) E) E := wp_bind_iff fun d h => wp_bind_iff fun e h2 => by
  cases d with
  | int i =>
    cases e with
    | int j => exact wp_if_no.trans (by simp)
    | _ => simp
  | _ => cases e <;> simp
theorem okB_of {i : Int} (h1 : -1000000000000 ≤ i) (h2 : i ≤ 1000000000000) : okB i = true := by
  unfold okB
  rw [decide_eq_true_eq]
  omega
@[simp] theorem rgD_len {lo : Int} : (rgD lo n).length = n := by simp [rgD]
theorem rgD_get {lo : Int} {i : Nat} {d : D} (h : (rgD lo n)[i]? = some d) : i < n ∧ d = .int (lo + (i : Nat)) := by
  have hi := (List.getElem?_eq_some_iff.mp h).1
  rw [rgD_len] at hi
  refine ⟨hi, ?_⟩
  simp [rgD, hi] at h
  exact h.symm
@[simp] theorem wp_iter : (iter f env mh).wp Qi E ↔ (f env mh).wp (fun d h => ∃ it, itD d h = some it ∧ Qi it h) E := wp_bind_iff fun d h => by cases itD d h <;> simp
@[simp] theorem itD_tup : itD (.tup xs) mh = some ⟨xs, fun _ => true⟩ := rfl
@[simp] theorem itD_rol : itD (.rol xs) mh = some ⟨xs, fun _ => true⟩ := rfl
@[simp] theorem itD_str : itD (.str x) mh = some ⟨sigs x, fun _ => true⟩ := rfl
theorem itD_ref (h : mh[n]? = some (.lst xs)) : itD (.ref n) mh = some ⟨xs, lstIs n xs⟩ := by simp [itD, h]
theorem lstIs_of (h : mh[n]? = some (.lst xs)) : lstIs n xs mh = true := by simp [lstIs, h]
def enD (d : D) (mh : MH) : Option ItD := match d with
  | .tup xs => some ⟨enF 0 xs, fun _ => true⟩
  | .rol xs => some ⟨enF 0 xs, fun _ => true⟩
  | .ref n => match mh[n]? with
    | some (.lst xs) => some ⟨enF 0 xs, lstIs n xs⟩
    | _ => none
  | _ => none
theorem enm_eq : enm f env mh = (f env mh).bind fun d m => match enD d m with | some it => .ok it m | none => .no := by
  unfold enm
  congr 1
  funext d m
  cases d with
  | ref n =>
    simp only [enD]
    cases m[n]? with
    | none => rfl
    | some o => cases o <;> rfl
  | _ => rfl
@[simp] theorem wp_enm : (enm f env mh).wp Qi E ↔ (f env mh).wp (fun d h => ∃ it, enD d h = some it ∧ Qi it h) E := by
  rw [enm_eq]
  exact wp_bind_iff fun d h => by cases enD d h <;> simp
@[simp] theorem enD_tup : enD (.tup xs) mh = some ⟨enF 0 xs, fun _ => true⟩ := rfl
/-! ### texts -/
@[simp] theorem o_add_s : owp (oAdd (.str x) (.str y) mh) Q ↔ x.length + y.length ≤ sizeLine ∧ Q (.str (x ++ y)) mh := by
  show owp (if _ then _ else none) Q ↔ _
  rw [owp_if, owp_some]
@[simp] theorem o_add_t : owp (oAdd (.tup xs) (.tup ys) mh) Q ↔ xs.length + ys.length ≤ sizeLine ∧ Q (.tup (xs ++ ys)) mh := by
  show owp (if _ then _ else none) Q ↔ _
  rw [owp_if, owp_some]
theorem o_add_l {m : Nat} (h1 : mh[m]? = some (.lst xs)) (h2 : mh[n]? = some (.lst ys)) (h : xs.length + ys.length ≤ sizeLine) : oAdd (.ref m) (.ref n) mh = some (.ref mh.length, mh ++ [.lst (xs ++ ys)]) := by
  simp [oAdd, h1, h2, h]
theorem o_mul_t {k : Int} (h1 : 0 ≤ k) (h2 : k ≤ 1000) (h3 : xs.length ≤ 1000) : oMulX (.tup xs) (.int k) mh = some (.tup (List.replicate k.toNat xs).flatten, mh) := by
  simp only [oMulX]
  rw [if_pos ⟨by omega, h2, h3⟩]
theorem rep1 {α : Type} (a : α) : ∀ k : Nat, (List.replicate k [a]).flatten = List.replicate k a
  | 0 => rfl
  | k + 1 => by rw [List.replicate_succ, List.flatten_cons, rep1 a k]; rfl
def mnS (x y : Str) : Str := if ltS y x = true then y else x
def mxS (x y : Str) : Str := if ltS x y = true then y else x
@[simp] theorem o_min_s : oMin2 [.str x, .str y] mh = some (.str (mnS x y), mh) := rfl
@[simp] theorem o_max_s : oMax2 [.str x, .str y] mh = some (.str (mxS x y), mh) := rfl
@[simp] theorem o_min_i {i j : Int} : oMin2 [.int i, .int j] mh = some (.int (if j < i then j else i), mh) := rfl
@[simp] theorem o_max_i {i j : Int} : oMax2 [.int i, .int j] mh = some (.int (if j > i then j else i), mh) := rfl
theorem hasF_strs : ∀ l : List Str, hasF (.str x) (l.map .str) = decide (x ∈ l)
  | [] => by simp [hasF]
  | y :: l => by
    have ih := hasF_strs l
    unfold hasF at ih ⊢
    rw [List.map_cons, List.any_cons, ih]
    have : eqF (.str y) (.str x) = decide (x = y) := by
      show (y == x) = _
      by_cases h : x = y
      · subst h; simp
      · rw [decide_eq_false h]; exact beq_eq_false_iff_ne.mpr fun e => h e.symm
    rw [this]
    by_cases h1 : x = y <;> by_cases h2 : x ∈ l <;> simp [h1, h2]
theorem inD_strs {c : D} {l : List Str} (h : itemsD mh c = some (l.map .str)) : inD mh (.str x) c = some (decide (x ∈ l)) := by
  have hf : flatD (.str x) = true ∧ (l.map D.str).all flatD = true := ⟨rfl, by rw [List.all_map]; exact List.all_eq_true.mpr fun _ _ => rfl⟩
  cases c with
  | str z => simp [itemsD] at h
  | _ => simp only [inD, h, if_pos hf, hasF_strs]
theorem o_in_s {c : D} {l : List Str} (h : itemsD mh c = some (l.map .str)) : oIn (.str x) c mh = some (.bl (decide (x ∈ l)), mh) := by
  unfold oIn; rw [inD_strs h]; rfl
theorem o_notIn_s {c : D} {l : List Str} (h : itemsD mh c = some (l.map .str)) : oNotIn (.str x) c mh = some (.bl (!decide (x ∈ l)), mh) := by
  unfold oNotIn; rw [inD_strs h]; rfl
/-! ### tuple(xs), list(xs), isinstance -/
@[simp] theorem o_tuple {c : D} : owp (oTuple [c] mh) Q ↔ ∃ ds, itemsD mh c = some ds ∧ Q (.tup ds) mh := by
  simp only [oTuple]
  cases itemsD mh c <;> simp
@[simp] theorem o_list {c : D} : owp (oList [c] mh) Q ↔ ∃ ds, itemsD mh c = some ds ∧ Q (.ref mh.length) (mh ++ [.lst ds]) := by
  simp only [oList]
  cases itemsD mh c <;> simp
@[simp] theorem items_ref {ds : List D} : itemsD mh (.ref n) = some ds ↔ mh[n]? = some (.lst ds) := by
  simp only [itemsD]
  cases h : mh[n]? with
  | none => simp
  | some o => cases o <;> simp
@[simp] theorem tru_bl {b : Bool} : truD (.bl b) mh = some b := rfl
@[simp] theorem wp_popAt : (popAt f g env mh).wp Q E ↔ (f env mh).wp (fun o h => ∃ n, o = .ref n ∧ (∃ ys, h[n]? = some (.lst ys)) ∧ (g env h).wp (fun d h2 => ∃ i xs k y, d = .int i ∧ h2[n]? = some (.lst xs) ∧ (-(2 ^ 63) ≤ i ∧ i < 2 ^ 63) ∧ seqIndex? i xs.length = some k ∧ xs[k]? = some y ∧ Q y (h2.set n (.lst (xs.eraseIdx k)))) E) E := wp_bind_iff fun o h => by
  cases o with
  | ref n =>
    simp only [D.ref.injEq, exists_eq_left']
    have inner : ∀ (d : D) (h2 : MH), (match d, h2[n]? with
      | .int i, some (.lst xs) => if -(2 ^ 63) ≤ i ∧ i < 2 ^ 63 then (match seqIndex? i xs.length with
        | some k => (match xs[k]? with
          | some y => Res.ok y (h2.set n (.lst (xs.eraseIdx k)))
          | none => Res.no)
        | none => Res.no) else Res.no
      | _, _ => Res.no).wp Q E ↔ ∃ i xs k y, d = .int i ∧ h2[n]? = some (.lst xs) ∧ (-(2 ^ 63) ≤ i ∧ i < 2 ^ 63) ∧ seqIndex? i xs.length = some k ∧ xs[k]? = some y ∧ Q y (h2.set n (.lst (xs.eraseIdx k))) := fun d h2 => by
      cases d with
      | int i =>
        cases h2[n]? with
        | none => simp
        | some ob =>
          cases ob with
          | lst xs =>
            refine wp_if_no.trans ?_
            cases hk : seqIndex? i xs.length with
            | none => simp [hk]
            | some k =>
              simp only
              cases hy : xs[k]? with
              | none => simp [hk, hy]
              | some y => simp [hk, hy]
          | dk _ => simp
          | dt _ => simp
          | lk _ => simp
      | _ => simp
    cases hn : h[n]? with
    | none => simp
    | some ob =>
      cases ob with
      | lst ys => exact (wp_bind_iff inner).trans (by simp)
      | dk _ => simp
      | dt _ => simp
      | lk _ => simp
  | _ => simp
theorem seqIx_of {i : Int} {k : Nat} (h0 : 0 ≤ i) (h1 : i < k) : seqIndex? i k = some i.toNat := by
  unfold seqIndex?
  have h2 : ¬ i < 0 := by omega
  simp [h2, h0, h1]
/-- things were laid behind -/
def Pre (mh mh' : MH) : Prop := ∃ t, mh' = mh ++ t
theorem Pre.refl (mh : MH) : Pre mh mh := ⟨[], by simp⟩
theorem Pre.trans {a b c : MH} (h : Pre a b) (k : Pre b c) : Pre a c := by
  obtain ⟨s, rfl⟩ := h; obtain ⟨t, rfl⟩ := k; exact ⟨s ++ t, by simp⟩
theorem Pre.push (mh : MH) (o : Ob) : Pre mh (mh ++ [o]) := ⟨[o], rfl⟩
theorem Pre.add {a b : MH} (h : Pre a b) (o : Ob) : Pre a (b ++ [o]) := h.trans (Pre.push b o)
theorem Pre.le {a b : MH} (h : Pre a b) : a.length ≤ b.length := by obtain ⟨t, rfl⟩ := h; simp
theorem Pre.get {a b : MH} {n : Nat} {o : Ob} (h : Pre a b) (e : a[n]? = some o) : b[n]? = some o := by
  obtain ⟨t, rfl⟩ := h
  rw [List.getElem?_append_left (List.getElem?_eq_some_iff.mp e).1]; exact e
theorem Pre.new {a b : MH} {n : Nat} {o : Ob} (h : Pre a b) (hn : a.length ≤ n) : Pre a (b.set n o) := by
  obtain ⟨t, rfl⟩ := h
  rw [List.set_append_right _ _ hn]
  exact ⟨_, rfl⟩
theorem Pre.fr {a b : MH} (h : Pre a b) (p : Nat) : Fr p a b := by
  obtain ⟨t, rfl⟩ := h
  exact ⟨by simp, fun n hn _ => List.getElem?_append_left hn⟩
theorem Pre.pool {a b : MH} {p n : Nat} (h : Pre a b) (k : PoolB p n a) : PoolB p n b := by
  obtain ⟨hp, x, y, c, q, cells, hq, h1, h2, h3⟩ := k
  exact ⟨hp, x, y, c, q, cells, hq, h.get h1, h.get h2, h3⟩
theorem Pre.items {a b : MH} {c : D} {ds : List D} (h : Pre a b) (e : itemsD a c = some ds) : itemsD b c = some ds := by
  cases c with
  | ref n =>
    rw [items_ref] at e ⊢
    exact h.get e
  | _ => exact e
theorem seq_cut {s t : MS} {O : Po} {env : Nv} {mh : MH} (I : Nv → MH → Prop) (h1 : (s env mh).wp { O with nx := I }) (h2 : ∀ e h, I e h → (t e h).wp O) : (sq s t env mh).wp O := by
  rw [wp_sq]
  exact SRes.wp_mono h1 h2 (fun _ _ q => q) (fun _ _ q => q) (fun _ _ q => q) fun _ _ _ q => q
end
end Det
/-! Det, part Sa: wp words for frozen lists, for what a def cuts, for exceptions. -/
namespace Det
open PySem
/-! ### below -/
section
variable {n : Nat} {xs ys : List D} {d : D}
@[simp] theorem blw_non : D.blw n .non = true := rfl
@[simp] theorem blw_bl {b : Bool} : D.blw n (.bl b) = true := rfl
@[simp] theorem blw_int {i : Int} : D.blw n (.int i) = true := rfl
@[simp] theorem blw_str {s : Str} : D.blw n (.str s) = true := rfl
@[simp] theorem blw_ty {s : String} : D.blw n (.ty s) = true := rfl
@[simp] theorem blw_tup : D.blw n (.tup xs) = D.blws n xs := by simp [D.blw]
@[simp] theorem blw_rol : D.blw n (.rol xs) = D.blws n xs := by simp [D.blw]
@[simp] theorem blw_exc {c : Str} {ns : List Str} : D.blw n (.exc c ns xs) = D.blws n xs := by simp [D.blw]
@[simp] theorem blw_ref {m : Nat} : D.blw n (.ref m) = decide (m < n) := by simp [D.blw]
@[simp] theorem blws_nil : D.blws n [] = true := by simp [D.blws]
@[simp] theorem blws_cons : D.blws n (d :: xs) = (D.blw n d && D.blws n xs) := by simp [D.blws]
@[simp] theorem blws_append : D.blws n (xs ++ ys) = (D.blws n xs && D.blws n ys) := by
  induction xs with
  | nil => simp
  | cons x xs ih => simp [ih, Bool.and_assoc]
theorem blws_iff : D.blws n xs = true ↔ ∀ x ∈ xs, D.blw n x = true := by
  induction xs with
  | nil => simp
  | cons x xs ih => simp [ih]
@[simp] theorem blws_int {l : List Int} : D.blws n (l.map .int) = true := blws_iff.mpr fun x hx => by obtain ⟨_, _, rfl⟩ := List.mem_map.mp hx; rfl
@[simp] theorem blws_str {l : List Str} : D.blws n (l.map .str) = true := blws_iff.mpr fun x hx => by obtain ⟨_, _, rfl⟩ := List.mem_map.mp hx; rfl
theorem blws_map {α : Type} {f : α → D} {l : List α} (h : ∀ a ∈ l, D.blw n (f a) = true) : D.blws n (l.map f) = true := blws_iff.mpr fun x hx => by obtain ⟨a, ha, rfl⟩ := List.mem_map.mp hx; exact h a ha
@[simp] theorem ob_blw {xs : List D} : Ob.blw n (.lst xs) = D.blws n xs := rfl
end
/-! ### kept -/
section
variable {mh g : MH}
@[simp] theorem Kept.refl : Kept mh mh := ⟨Nat.le_refl _, fun i o _ h => .inl h⟩
@[simp] theorem Kept.add : Kept mh (mh ++ g) := ⟨by simp, fun i o hi h => .inl (by rw [List.getElem?_append_left hi] at h; exact h)⟩
theorem Kept.head {o o' : Ob} (h : o'.blw (mh.length + 1) = true) : Kept (o :: mh) (o' :: (mh ++ g)) := ⟨by simp, fun i u hi q => by
  cases i with
  | zero => simp at q; subst q; exact .inr h
  | succ i =>
    simp at hi q
    rw [List.getElem?_append_left hi] at q
    exact .inl (by simpa using q)⟩
theorem Kept.head0 {o o' : Ob} (h : o'.blw (mh.length + 1) = true) : Kept (o :: mh) (o' :: mh) := by
  have := Kept.head (mh := mh) (g := []) (o := o) h
  simpa using this
end
/-! ### cuts -/
def FQ (mh : MH) (Q : D → MH → Prop) (d : D) (h : MH) : Prop := (∃ n xs, d = .ref n ∧ mh.length ≤ n ∧ h[n]? = some (.lst xs) ∧ D.blws mh.length xs = true ∧ Kept mh h ∧ Q (.rol xs) (h.take mh.length)) ∨
  ((∀ n, d = .ref n → n < mh.length) ∧ d.blw mh.length = true ∧ Kept mh h ∧ Q d (h.take mh.length))
def FE (mh : MH) (E : Exn → MH → Prop) (x : Exn) (h : MH) : Prop := D.blws mh.length (x.fs.map (·.2)) = true ∧ Kept mh h ∧ E x (h.take mh.length)
section
variable {mh h g : MH} {Q : D → MH → Prop} {E : Exn → MH → Prop} {r : Res D} {xs : List D}
theorem wp_cutR : (cutR mh r).wp Q E ↔ r.wp (fun d h => d.blw mh.length = true ∧ Kept mh h ∧ Q d (h.take mh.length)) (FE mh E) := by
  cases r with
  | ok d h =>
    simp only [cutR, wp_ok]
    split
    · rename_i c; simp [c.1, c.2]
    · rename_i c; simp only [wp_no, false_iff]; exact fun q => c ⟨q.1, q.2.1⟩
  | ex x h =>
    simp only [cutR, wp_ex]
    split
    · rename_i c; simp [FE, c.1, c.2]
    · rename_i c; simp only [wp_no, false_iff]; exact fun q => c ⟨q.1, q.2.1⟩
  | no => simp [cutR]
theorem FQ.of_cut {d : D} (hn : ∀ n, d = .ref n → n < mh.length) : FQ mh Q d h ↔ d.blw mh.length = true ∧ Kept mh h ∧ Q d (h.take mh.length) := by
  constructor
  · rintro (⟨n, xs, e, hl, _⟩ | ⟨_, q⟩)
    · have := hn n e; omega
    · exact q
  · exact fun q => .inr ⟨hn, q⟩
theorem wp_fzR : (fzR mh r).wp Q E ↔ r.wp (FQ mh Q) (FE mh E) := by
  cases r with
  | no => simp [fzR, cutR]
  | ex x h => rw [show fzR mh (.ex x h) = cutR mh (.ex x h) from rfl, wp_cutR, wp_ex, wp_ex]
  | ok d h =>
    by_cases hd : ∃ n, d = .ref n ∧ mh.length ≤ n
    · obtain ⟨n, rfl, hn⟩ := hd
      rw [wp_ok]
      simp only [fzR, if_pos hn]
      constructor
      · intro q
        split at q
        · rename_i xs hx
          split at q
          · rename_i c; exact .inl ⟨n, xs, rfl, hn, hx, c.1, c.2, wp_ok.mp q⟩
          · exact (wp_no.mp q).elim
        · exact (wp_no.mp q).elim
      · rintro (⟨m, xs, e, hl, hx, b, k, q⟩ | ⟨z, _⟩)
        · cases e
          simp only [hx, if_pos (And.intro b k)]
          exact wp_ok.mpr q
        · have := z n rfl; omega
    · have hn : ∀ n, d = .ref n → n < mh.length := fun n e => by
        by_cases hl : n < mh.length
        · exact hl
        · exact absurd ⟨n, e, by omega⟩ hd
      have e : fzR mh (.ok d h) = cutR mh (.ok d h) := by
        cases d with
        | ref n => simp only [fzR]; rw [if_neg (by have := hn n rfl; omega)]
        | _ => rfl
      rw [e, wp_cutR, wp_ok, wp_ok, FQ.of_cut hn]
@[simp] theorem wp_fz {f : ME} {env : Nv} : (fz f env mh).wp Q E ↔ (f env mh).wp (FQ mh Q) (FE mh E) := wp_fzR
theorem wp_zF {F : Fn} {ds : List D} : (zF F ds mh).wp Q E ↔ (F ds mh).wp (FQ mh Q) (FE mh E) := wp_fzR
@[simp] theorem fq_int {i : Int} : FQ mh Q (.int i) h ↔ Kept mh h ∧ Q (.int i) (h.take mh.length) := (FQ.of_cut fun n e => by cases e).trans (by simp)
@[simp] theorem fq_bl {i : Bool} : FQ mh Q (.bl i) h ↔ Kept mh h ∧ Q (.bl i) (h.take mh.length) := (FQ.of_cut fun n e => by cases e).trans (by simp)
@[simp] theorem fq_str {i : Str} : FQ mh Q (.str i) h ↔ Kept mh h ∧ Q (.str i) (h.take mh.length) := (FQ.of_cut fun n e => by cases e).trans (by simp)
@[simp] theorem fq_non : FQ mh Q .non h ↔ Kept mh h ∧ Q .non (h.take mh.length) := (FQ.of_cut fun n e => by cases e).trans (by simp)
@[simp] theorem fq_tup : FQ mh Q (.tup xs) h ↔ D.blws mh.length xs = true ∧ Kept mh h ∧ Q (.tup xs) (h.take mh.length) := (FQ.of_cut fun n e => by cases e).trans (by simp)
@[simp] theorem fq_rol : FQ mh Q (.rol xs) h ↔ D.blws mh.length xs = true ∧ Kept mh h ∧ Q (.rol xs) (h.take mh.length) := (FQ.of_cut fun n e => by cases e).trans (by simp)
theorem fq_new {n : Nat} (hn : mh.length ≤ n) (hx : h[n]? = some (.lst xs)) : FQ mh Q (.ref n) h ↔ D.blws mh.length xs = true ∧ Kept mh h ∧ Q (.rol xs) (h.take mh.length) := by
  constructor
  · rintro (⟨m, ys, e, _, hy, q⟩ | ⟨z, _⟩)
    · cases e
      rw [hx] at hy
      cases hy
      exact q
    · have := z n rfl; omega
  · exact fun q => .inl ⟨n, xs, rfl, hn, hx, q⟩
@[simp] theorem fq_push : FQ mh Q (.ref mh.length) (mh ++ [.lst xs]) ↔ D.blws mh.length xs = true ∧ Q (.rol xs) mh := by
  rw [fq_new (xs := xs) (Nat.le_refl _) (by simp)]
  simp
theorem fq_any {d : D} (hd : ∀ n, d ≠ .ref n) (hb : d.blw mh.length = true) : FQ mh Q d (mh ++ g) ↔ Q d mh := by
  rw [FQ.of_cut fun n e => absurd e (hd n)]
  simp [hb]
theorem fq_any0 {d : D} (hd : ∀ n, d ≠ .ref n) (hb : d.blw mh.length = true) : FQ mh Q d mh ↔ Q d mh := by
  have := fq_any (g := []) (Q := Q) hd hb
  simpa using this
/-! ### a run as an equation -/
theorem ok_of_wp {v : D} {m : MH} (h : r.wp (fun d h => d = v ∧ h = m) fun _ _ => False) : r = .ok v m := by
  obtain ⟨a, m', e, rfl, rfl⟩ := wp_end h; exact e
theorem ex_of_wp {y : Exn} {m : MH} (h : r.wp (fun _ _ => False) fun x h => x = y ∧ h = m) : r = .ex y m := by
  cases h with
  | ok h => exact h.elim
  | ex h => obtain ⟨rfl, rfl⟩ := h; rfl
end
/-! ### exceptions -/
section
variable {mh : MH} {Q : D → MH → Prop} {E : Exn → MH → Prop} {env : Nv} {O : Po} {f : ME} {fa : MA} {s t : MS}
@[simp] theorem wp_rse {c : Str} {fns : List Str} : (rse c fns fa env mh).wp O ↔ (fa env mh).wp (fun ds h => ds.length = fns.length ∧ O.ex ⟨c, fns.zip ds⟩ env h) (fun x h => O.ex x env h) := wp_lift_iff fun ds h => by
  by_cases e : ds.length = fns.length <;> simp [e]
@[simp] theorem wp_tri {tab : List (Str × Bool)} {i : Nat} : (tri tab i s t env mh).wp O ↔ (s env mh).wp { O with ex := fun x env1 mh1 => ∃ b, tab.lookup x.c = some b ∧ (b = true → (t (env1.set i (some (excD x))) mh1).wp { nx := fun e h => O.nx (e.set i none) h, bk := fun e h => O.bk (e.set i none) h, ct := fun e h => O.ct (e.set i none) h, rt := O.rt, ex := fun _ _ _ => False }) ∧ (b = false → O.ex x env1 mh1) } := by
  unfold tri
  cases s env mh with
  | ex x e1 h1 =>
    simp only [swp_ex]
    cases tab.lookup x.c with
    | none => simp
    | some b =>
      cases b with
      | true =>
        simp only [Option.some.injEq, exists_eq_left', true_implies, Bool.true_eq_false, false_implies, and_true]
        cases t (e1.set i (some (excD x))) h1 <;> simp
      | false => simp
  | _ => simp
@[simp] theorem wp_isE {tab : List (Str × Bool)} : (isE tab f env mh).wp Q E ↔ (f env mh).wp (fun d h => ∃ c ns ds, d = .exc c ns ds ∧ ∃ b, tab.lookup c = some b ∧ Q (.bl b) h) E := wp_bind_iff fun d h => by
  cases d with
  | exc c ns ds =>
    simp only
    cases hc : tab.lookup c with
    | none => exact ⟨fun q => (wp_no.mp q).elim, fun q => by obtain ⟨_, _, _, e, b, hb, _⟩ := q; cases e; rw [hc] at hb; cases hb⟩
    | some b => exact ⟨fun q => ⟨c, ns, ds, rfl, b, hc, wp_ok.mp q⟩, fun q => by obtain ⟨_, _, _, e, b2, hb, q⟩ := q; cases e; rw [hc] at hb; cases hb; exact .ok q⟩
  | _ => simp
@[simp] theorem wp_fld {tab : List Str} {n : Str} : (fld tab n f env mh).wp Q E ↔ (f env mh).wp (fun d h => ∃ c ns ds, d = .exc c ns ds ∧ c ∈ tab ∧ ∃ y, (ns.zip ds).lookup n = some y ∧ Q y h) E := wp_bind_iff fun d h => by
  cases d with
  | exc c ns ds =>
    simp only
    by_cases hc : c ∈ tab
    · rw [if_pos hc]
      cases hl : (ns.zip ds).lookup n with
      | none => exact ⟨fun q => (wp_no.mp q).elim, fun q => by obtain ⟨_, _, _, e, _, y, hy, _⟩ := q; cases e; rw [hl] at hy; cases hy⟩
      | some y => exact ⟨fun q => ⟨c, ns, ds, rfl, hc, y, hl, wp_ok.mp q⟩, fun q => by obtain ⟨_, _, _, e, _, y2, hy, q⟩ := q; cases e; rw [hl] at hy; cases hy; exact .ok q⟩
    · rw [if_neg hc]; simp [hc]
  | _ => simp
@[simp] theorem wp_upr : (upr f env mh).wp Q E ↔ (f env mh).wp (fun d h => ∃ a, d = .str a ∧ a.length ≤ 5592405 ∧ Q (.str (Txt.upper a)) h) E := wp_bind_iff fun d h => by
  cases d with
  | str a => exact wp_if_no.trans (by simp)
  | _ => simp
end
/-! ### a comprehension of pure parts -/
section
variable {mh : MH} {Q : D → MH → Prop} {E : Exn → MH → Prop} {env : Nv} {f : ME} {ft : MT} {chk : MH → Bool} {p : Pat} {ds : List D}
theorem comp_pure (G : Nat → List D) (h0 : G 0 = []) (hz : ds.length ≤ sizeLine) (hl : ∀ i, (G i).length ≤ i)
    (hs : ∀ i d acc, ds[i]? = some d → chk (mh ++ [.lst acc]) = true ∧ ∃ e, setP p d env = some e ∧ (ft e (mh ++ [.lst acc])).wp (fun b h => h = mh ++ [.lst acc] ∧ (b = true → (f e (mh ++ [.lst acc])).wp (fun y h2 => h2 = mh ++ [.lst acc] ∧ G (i + 1) = G i ++ [y]) fun _ _ => False) ∧ (b = false → G (i + 1) = G i)) fun _ _ => False)
    (hc : chk (mh ++ [.lst (G ds.length)]) = true) (hd : Q (.ref mh.length) (mh ++ [.lst (G ds.length)])) : (loopC mh.length chk p ft f env ds (mh ++ [.lst []])).wp Q E := by
  refine comp_wp (fun i acc h => acc = G i ∧ h = mh ++ [.lst acc]) [] (by simp) ⟨h0.symm, rfl⟩ (fun i acc h q => by obtain ⟨_, rfl⟩ := q; simp) ?_ (fun acc h q => by obtain ⟨rfl, rfl⟩ := q; exact ⟨hc, hd⟩)
  rintro i d acc h hd ⟨rfl, rfl⟩
  obtain ⟨c1, e, c2, c3⟩ := hs i d (G i) hd
  have hi := (List.getElem?_eq_some_iff.mp hd).1
  refine ⟨c1, e, c2, Res.wp_mono c3 (fun b h q => ?_) fun _ _ q => q⟩
  obtain ⟨rfl, q1, q2⟩ := q
  refine ⟨fun hb => Res.wp_mono (q1 hb) (fun y h2 q => ?_) fun _ _ q => q, fun hb => ⟨(q2 hb).symm, rfl⟩⟩
  obtain ⟨rfl, q⟩ := q
  refine ⟨by simp, by have := hl i; omega, q.symm, by simp⟩
end
end Det
/-! Det, part Sb: the pool as one object. -/
namespace Det
open PySem
structure Pl where
  a : Int
  b : Int
  c : Int
  cs : List Int
  hc : 0 ≤ c
def Pl.ob (p : Pl) : Ob := .lst [.int p.a, .int p.b, .int p.c, .rol (p.cs.map .int)]
theorem Pl.blw (p : Pl) (n : Nat) : p.ob.blw n = true := by simp [Pl.ob]
theorem kept_pl {p p' : Pl} {loc : MH} : Kept (p.ob :: loc) (p'.ob :: loc) := Kept.head0 (p'.blw _)
theorem kept_pls {p p' : Pl} {loc g : MH} : Kept (p.ob :: loc) (p'.ob :: (loc ++ g)) := Kept.head (p'.blw _)
theorem take_pl {o : Ob} {loc g : MH} : (o :: (loc ++ g)).take (loc.length + 1) = o :: loc := by simp
section
variable {p p' : Pl} {loc g : MH} {Q : D → MH → Prop} {d : D}
/-- what a def hands back over the pool, where it laid g for itself -/
theorem fq_pl (hd : ∀ n, d ≠ .ref n) (hb : d.blw (loc.length + 1) = true) (q : Q d (p'.ob :: loc)) : FQ (p.ob :: loc) Q d (p'.ob :: (loc ++ g)) := by
  rw [FQ.of_cut fun n e => absurd e (hd n)]
  refine ⟨hb, kept_pls, ?_⟩
  rw [List.length_cons, take_pl]; exact q
theorem fq_pl0 (hd : ∀ n, d ≠ .ref n) (hb : d.blw (loc.length + 1) = true) (q : Q d (p'.ob :: loc)) : FQ (p.ob :: loc) Q d (p'.ob :: loc) := by
  have := fq_pl (p := p) (g := []) hd hb q
  simpa using this
theorem fq_pl_int {i : Int} (q : Q (.int i) (p'.ob :: loc)) : FQ (p.ob :: loc) Q (.int i) (p'.ob :: loc) := fq_pl0 (fun n => by simp) rfl q
theorem fq_pl_str {i : Str} (q : Q (.str i) (p'.ob :: loc)) : FQ (p.ob :: loc) Q (.str i) (p'.ob :: loc) := fq_pl0 (fun n => by simp) rfl q
theorem fq_pl_bl {i : Bool} (q : Q (.bl i) (p'.ob :: loc)) : FQ (p.ob :: loc) Q (.bl i) (p'.ob :: loc) := fq_pl0 (fun n => by simp) rfl q
/-- a new list -/
theorem fq_pl_lst {xs : List D} (hb : D.blws (loc.length + 1) xs = true) (q : Q (.rol xs) (p'.ob :: loc)) : FQ (p.ob :: loc) Q (.ref (loc.length + 1)) (p'.ob :: (loc ++ .lst xs :: g)) := by
  rw [fq_new (mh := p.ob :: loc) (n := loc.length + 1) (xs := xs) (by simp) (by simp)]
  refine ⟨by simpa using hb, kept_pls, ?_⟩
  rw [List.length_cons, take_pl]; exact q
end
section
variable {mh : MH} {env : Nv} {Q : D → MH → Prop} {E : Exn → MH → Prop} {f : ME} {l h : MO} {Qo : Option Int → MH → Prop}
@[simp] theorem wp_sl : (sl f l h env mh).wp Q E ↔ (f env mh).wp (fun a m1 => (l env m1).wp (fun lo m2 => (h env m2).wp (fun hi m3 => owp (oSl a lo hi m3) Q) E) E) E := by unfold sl; simp
@[simp] theorem wp_onone : (onone env mh).wp Qo E ↔ Qo none mh := wp_ok
@[simp] theorem wp_osome : (osome f env mh).wp Qo E ↔ (f env mh).wp (fun a h => ∃ i, a = .int i ∧ Qo (some i) h) E := wp_bind_iff fun d h => by cases d <;> simp
@[simp] theorem o_sl_str {z : Str} {lo hi : Option Int} : owp (oSl (.str z) lo hi mh) Q ↔ z.length ≤ sizeLine ∧ Q (.str (L2.cutS z lo hi)) mh := by
  simp only [oSl]
  rw [owp_if, owp_some]
@[simp] theorem o_sl_tup {xs : List D} {lo hi : Option Int} : owp (oSl (.tup xs) lo hi mh) Q ↔ Q (.tup (cutD xs lo hi)) mh := owp_some
@[simp] theorem o_sl_rol {xs : List D} {lo hi : Option Int} : owp (oSl (.rol xs) lo hi mh) Q ↔ Q (.ref mh.length) (mh ++ [.lst (cutD xs lo hi)]) := owp_some
end
end Det
/-! Det, part Sc: wp words for x += e, any, all, sum, list(range), the dict comprehension, insert, (*xs, y). -/
namespace Det
open PySem
section
variable {mh : MH} {env : Nv} {E : Exn → MH → Prop} {f g : ME} {Q : D → MH → Prop}
@[simp] theorem wp_lrg1 : (lrg1 f env mh).wp Q E ↔ (f env mh).wp (fun d h => ∃ j, d = .int j ∧ okRg 0 j = true ∧ Q (.ref h.length) (h ++ [.lst (rgD 0 j.toNat)])) E := wp_bind_iff fun d h => by
  cases d with
  | int j => exact wp_if_no.trans (by simp)
  | _ => simp
@[simp] theorem wp_lrg2 : (lrg2 f g env mh).wp Q E ↔ (f env mh).wp (fun d h => (g env h).wp (fun e h2 => ∃ i j, d = .int i ∧ e = .int j ∧ okRg i j = true ∧ Q (.ref h2.length) (h2 ++ [.lst (rgD i (j - i).toNat)])) E) E := wp_bind_iff fun d h => wp_bind_iff fun e h2 => by
  cases d with
  | int i =>
    cases e with
    | int j => exact wp_if_no.trans (by simp)
    | _ => simp
  | _ => cases e <;> simp
@[simp] theorem o_addA_i {i j : Int} : oAddA (.int i) (.int j) mh = some (.int (i + j), mh) := rfl
@[simp] theorem o_subA_i {i j : Int} : oSubA (.int i) (.int j) mh = some (.int (i - j), mh) := rfl
theorem o_any {a : D} {bs : List Bool} (h : lstD mh a = some (bs.map .bl)) : oAny [a] mh = some (.bl (bs.any id), mh) := by simp [oAny, h, blsD_map]
theorem o_all {a : D} {bs : List Bool} (h : lstD mh a = some (bs.map .bl)) : oAll [a] mh = some (.bl (bs.all id), mh) := by simp [oAll, h, blsD_map]
theorem o_sum {a : D} {ns : List Int} (h : lstD mh a = some (ns.map .int)) : oSum [a] mh = some (.int ns.sum, mh) := by simp [oSum, h, intsD_map]
@[simp] theorem wp_dcp {fi : MI} {p : Pat} {ft : MT} {ek ev : ME} {vs : List Nat} : (dcp fi p ft ek ev vs env mh).wp Q E ↔ (fi env mh).wp (fun it h => (loopX h.length it.chk p ft ek ev (wipeD env vs) it.items (h ++ [.dk []])).wp Q E) E := by
  unfold dcp; rw [wp_bind]
@[simp] theorem wp_astar {f : ME} {g : MA} {Ql : List D → MH → Prop} : (astar f g env mh).wp Ql E ↔ (f env mh).wp (fun d h => ∃ xs, itemsD h d = some xs ∧ (g env h).wp (fun ys h2 => Ql (xs ++ ys) h2) E) E := wp_bind_iff fun d h => by
  cases itemsD h d <;> simp
end
end Det
/-! Det, part Sd: tables (dicts) by what they answer, isinstance of values, loops by what is left. -/
namespace Det
open PySem
/-! ### tables -/
theorem find_none {kds : List (L2.Key × D)} {k : L2.Key} : (valD kds k).isSome = decide (k ∈ kds.map (·.1)) := by
  unfold valD
  rw [Option.isSome_map]
  by_cases h : k ∈ kds.map (·.1)
  · rw [decide_eq_true h]
    obtain ⟨kv, h1, h2⟩ := List.mem_map.mp h
    rw [List.find?_isSome]
    exact ⟨kv, h1, decide_eq_true h2⟩
  · rw [decide_eq_false h]
    cases hf : kds.find? (fun kv => decide (kv.1 = k)) with
    | none => rfl
    | some kv => exact absurd (List.mem_map.mpr ⟨kv, List.mem_of_find?_eq_some hf, by simpa using List.find?_some hf⟩) h
theorem putD_keys {kds : List (L2.Key × D)} {k x : L2.Key} {d : D} : x ∈ (putD kds k d).map (·.1) ↔ x ∈ kds.map (·.1) ∨ x = k := by
  unfold putD
  by_cases h : (kds.any fun kv => decide (kv.1 = k)) = true
  · rw [if_pos h]
    have e : (kds.map (fun kv => if kv.1 = k then (kv.1, d) else kv)).map (·.1) = kds.map (·.1) := by
      rw [List.map_map]
      refine List.map_congr_left fun kv _ => ?_
      simp only [Function.comp]
      split <;> rfl
    rw [e]
    refine ⟨.inl, fun q => q.elim id fun e => ?_⟩
    obtain ⟨kv, h1, h2⟩ := List.any_eq_true.mp h
    rw [e]
    exact List.mem_map.mpr ⟨kv, h1, of_decide_eq_true h2⟩
  · rw [if_neg h, List.map_append]
    simp
theorem putD_len {kds : List (L2.Key × D)} {k : L2.Key} {d : D} : (putD kds k d).length ≤ kds.length + 1 := by
  unfold putD
  split
  · rw [List.length_map]; omega
  · simp
theorem valD_cons {a k : L2.Key} {b : D} {kds : List (L2.Key × D)} : valD ((a, b) :: kds) k = if a = k then some b else valD kds k := by
  unfold valD
  rw [List.find?_cons]
  by_cases h : a = k
  · simp [h]
  · simp [h]
theorem valD_map {k k' : L2.Key} {d : D} : ∀ kds : List (L2.Key × D), valD (kds.map fun kv => if kv.1 = k then (kv.1, d) else kv) k' = if k = k' then (valD kds k').map (fun _ => d) else valD kds k'
  | [] => by simp [valD]
  | (a, b) :: kds => by
    have ih := valD_map (k := k) (k' := k') (d := d) kds
    rw [List.map_cons]
    simp only
    by_cases h1 : a = k
    · rw [if_pos h1, valD_cons, valD_cons, ih]
      subst h1
      by_cases h2 : a = k'
      · simp [h2]
      · simp [h2]
    · rw [if_neg h1, valD_cons, valD_cons, ih]
      by_cases h2 : a = k'
      · subst h2; simp [Ne.symm h1]
      · simp [h2]
theorem valD_snoc {k k' : L2.Key} {d : D} : ∀ kds : List (L2.Key × D), valD (kds ++ [(k, d)]) k' = match valD kds k' with | some v => some v | none => if k = k' then some d else none
  | [] => by simp [valD_cons]; simp [valD]
  | (a, b) :: kds => by
    rw [List.cons_append, valD_cons, valD_cons, valD_snoc kds]
    by_cases h : a = k' <;> simp [h]
theorem valD_any {k : L2.Key} : ∀ kds : List (L2.Key × D), (valD kds k).isSome = kds.any fun kv => decide (kv.1 = k)
  | [] => by simp [valD]
  | (a, b) :: kds => by
    rw [valD_cons, List.any_cons, ← valD_any kds]
    by_cases h : a = k <;> simp [h]
theorem valD_put {kds : List (L2.Key × D)} {k k' : L2.Key} {d : D} : valD (putD kds k d) k' = if k = k' then some d else valD kds k' := by
  unfold putD
  have ha := valD_any (k := k) kds
  by_cases h : (kds.any fun kv => decide (kv.1 = k)) = true
  · rw [if_pos h, valD_map]
    by_cases h2 : k = k'
    · subst h2
      rw [h] at ha
      simp only [if_true]
      cases hv : valD kds k with
      | none => rw [hv] at ha; cases ha
      | some _ => rfl
    · simp [h2]
  · rw [if_neg h, valD_snoc]
    by_cases h2 : k = k'
    · subst h2
      have : valD kds k = none := by
        cases hv : valD kds k with
        | none => rfl
        | some _ => rw [hv] at ha; exact absurd ha.symm h
      simp [this]
    · simp [h2]
      cases valD kds k' <;> rfl
def putS {α : Type} (key : α → Str) (val : α → D) (kds : List (L2.Key × D)) (a : α) : List (L2.Key × D) := putD kds (.inr (key a)) (val a)
theorem valD_puts {α : Type} (key : α → Str) (val : α → D) (x : Str) : ∀ (as : List α) (kds : List (L2.Key × D)), (as.map key).Nodup → valD (as.foldl (putS key val) kds) (.inr x) = match as.find? fun a => decide (key a = x) with | some a => some (val a) | none => valD kds (.inr x)
  | [], kds, _ => rfl
  | a :: as, kds, hn => by
    rw [List.map_cons, List.nodup_cons] at hn
    rw [List.foldl_cons, valD_puts key val x as _ hn.2, List.find?_cons]
    by_cases h : key a = x
    · have : (as.find? fun a => decide (key a = x)) = none := by
        rw [List.find?_eq_none]
        intro b hb
        simp only [decide_eq_true_eq]
        exact fun e => hn.1 (List.mem_map.mpr ⟨b, hb, by rw [e, h]⟩)
      simp [this, putS, valD_put, h]
    · simp only [h, decide_false]
      cases as.find? fun a => decide (key a = x) with
      | some b => rfl
      | none =>
        simp only [putS, valD_put]
        rw [if_neg fun e => h (by injection e)]
section
variable {mh : MH} {Q : D → MH → Prop} {E : Exn → MH → Prop} {env : Nv} {f ek ev : ME} {ft : MT} {chk : MH → Bool} {p : Pat} {n : Nat}
theorem puts_len {α : Type} (key : α → Str) (val : α → D) : ∀ (as : List α) (kds : List (L2.Key × D)), (as.foldl (putS key val) kds).length ≤ kds.length + as.length
  | [], kds => by simp
  | a :: as, kds => by
    have h1 := puts_len key val as (putS key val kds a)
    have h2 := putD_len (kds := kds) (k := .inr (key a)) (d := val a)
    rw [List.foldl_cons, List.length_cons]
    unfold putS at h1 ⊢
    omega
theorem loopX_put {α : Type} (g : α → D) (key : α → Str) (val : α → D) (hchk : ∀ o, chk (mh ++ [o]) = true) : ∀ (as : List α) (kds : List (L2.Key × D)), kds.length + as.length ≤ sizeLine →
    (∀ a ∈ as, ∀ o, ∃ e, setP p (g a) env = some e ∧ (ek e (mh ++ [o])).wp (fun y h => h = mh ++ [o] ∧ y = .str (key a)) (fun _ _ => False) ∧ (ev e (mh ++ [o])).wp (fun y h => h = mh ++ [o] ∧ y = val a) (fun _ _ => False)) →
    Q (.ref mh.length) (mh ++ [.dk (as.foldl (putS key val) kds)]) →
    (loopX mh.length chk p yes ek ev env (as.map g) (mh ++ [.dk kds])).wp Q E
  | [], kds, _, _, hq => by
    unfold loopX
    rw [List.map_nil]
    simp only
    rw [if_pos (hchk _), wp_ok]
    exact hq
  | a :: as, kds, hl, hs, hq => by
    have hl2 : kds.length < sizeLine := by simp at hl; omega
    rw [List.map_cons]
    unfold loopX
    rw [if_pos (hchk _)]
    obtain ⟨e, h1, h2, h3⟩ := hs a List.mem_cons_self (.dk kds)
    rw [h1]
    simp only
    rw [wp_bind, wp_nox, wp_yes]
    simp only [if_true]
    rw [wp_bind, wp_nox]
    refine Res.wp_mono h2 (fun y h q => ?_) fun _ _ q => q.elim
    obtain ⟨rfl, rfl⟩ := q
    rw [wp_bind, wp_nox]
    refine Res.wp_mono h3 (fun z h q => ?_) fun _ _ q => q.elim
    obtain ⟨rfl, rfl⟩ := q
    have e1 : (mh ++ [Ob.dk kds])[mh.length]? = some (.dk kds) := by simp
    simp only [e1, dKey]
    rw [if_pos hl2]
    have e2 : (mh ++ [Ob.dk kds]).set mh.length (.dk (putD kds (.inr (key a)) (val a))) = mh ++ [.dk (putD kds (.inr (key a)) (val a))] := by simp
    rw [e2]
    exact loopX_put g key val hchk as _ (by have := putD_len (kds := kds) (k := .inr (key a)) (d := val a); simp at hl; omega) (fun b hb => hs b (List.mem_cons_of_mem _ hb)) hq
theorem ixX_dk {kds : List (L2.Key × D)} {x : Str} {d : D} (hx : mh[n]? = some (.dk kds)) (hv : valD kds (.inr x) = some d) : oIxX (.ref n) (.str x) mh = some (d, mh) := by
  simp [oIxX, dctD, hx, dKey, hv]
theorem notInX_dk {kds : List (L2.Key × D)} {x : Str} (hx : mh[n]? = some (.dk kds)) : oNotInX (.str x) (.ref n) mh = some (.bl (!(valD kds (.inr x)).isSome), mh) := by
  simp [oNotInX, dctD, hx, dKey]
@[simp] theorem ixX_tup {xs : List D} {i : D} : oIxX (.tup xs) i mh = oIx (.tup xs) i mh := rfl
@[simp] theorem ixX_rol {xs : List D} {i : D} : oIxX (.rol xs) i mh = oIx (.rol xs) i mh := rfl
@[simp] theorem o_neg_i {i : Int} : oNeg (.int i) mh = some (.int (-i), mh) := rfl
end
theorem atI_last {α : Type} {l : List α} : L2.atI l (-1) = l.getLast? := by
  unfold L2.atI L2.ixN
  cases l with
  | nil => simp
  | cons a l =>
    rw [if_neg (by omega), if_pos (by simp; omega), List.getLast?_eq_getElem?]
    simp only [Option.bind_some]
    congr 1
    simp
    omega
theorem enF_idx : ∀ (k : Nat) (xs : List D), enF k xs = (xs.zipIdx k).map fun q => .tup [.int (q.2 : Nat), q.1]
  | _, [] => rfl
  | k, x :: xs => by rw [enF, enF_idx (k + 1) xs, List.zipIdx_cons, List.map_cons]
/-! ### isinstance of values -/
section
variable {mh : MH} {xs : List D} {x : Str} {i : Int} {b : Bool}
theorem kitB_is (s t : String) (b : Bool) (h : L2.kitB s t = some b) {d : D} (hd : tyD mh d = some s) : oIsi [d, .ty t] mh = some (.bl b, mh) := by
  simp [oIsi, hd, h]
@[simp] theorem i_tt : oIsi [.tup xs, .ty "tuple"] mh = some (.bl true, mh) := kitB_is "tuple" "tuple" true (by decide +kernel) rfl
@[simp] theorem i_tl : oIsi [.tup xs, .ty "list"] mh = some (.bl false, mh) := kitB_is "tuple" "list" false (by decide +kernel) rfl
@[simp] theorem i_ts : oIsi [.tup xs, .ty "str"] mh = some (.bl false, mh) := kitB_is "tuple" "str" false (by decide +kernel) rfl
@[simp] theorem i_ti : oIsi [.tup xs, .ty "int"] mh = some (.bl false, mh) := kitB_is "tuple" "int" false (by decide +kernel) rfl
@[simp] theorem i_tb : oIsi [.tup xs, .ty "bool"] mh = some (.bl false, mh) := kitB_is "tuple" "bool" false (by decide +kernel) rfl
@[simp] theorem i_rt : oIsi [.rol xs, .ty "tuple"] mh = some (.bl false, mh) := kitB_is "list" "tuple" false (by decide +kernel) rfl
@[simp] theorem i_rl : oIsi [.rol xs, .ty "list"] mh = some (.bl true, mh) := kitB_is "list" "list" true (by decide +kernel) rfl
@[simp] theorem i_rs : oIsi [.rol xs, .ty "str"] mh = some (.bl false, mh) := kitB_is "list" "str" false (by decide +kernel) rfl
@[simp] theorem i_ri : oIsi [.rol xs, .ty "int"] mh = some (.bl false, mh) := kitB_is "list" "int" false (by decide +kernel) rfl
@[simp] theorem i_rb : oIsi [.rol xs, .ty "bool"] mh = some (.bl false, mh) := kitB_is "list" "bool" false (by decide +kernel) rfl
@[simp] theorem i_st : oIsi [.str x, .ty "tuple"] mh = some (.bl false, mh) := kitB_is "str" "tuple" false (by decide +kernel) rfl
@[simp] theorem i_sl : oIsi [.str x, .ty "list"] mh = some (.bl false, mh) := kitB_is "str" "list" false (by decide +kernel) rfl
@[simp] theorem i_ss : oIsi [.str x, .ty "str"] mh = some (.bl true, mh) := kitB_is "str" "str" true (by decide +kernel) rfl
@[simp] theorem i_si : oIsi [.str x, .ty "int"] mh = some (.bl false, mh) := kitB_is "str" "int" false (by decide +kernel) rfl
@[simp] theorem i_sb : oIsi [.str x, .ty "bool"] mh = some (.bl false, mh) := kitB_is "str" "bool" false (by decide +kernel) rfl
@[simp] theorem i_it : oIsi [.int i, .ty "tuple"] mh = some (.bl false, mh) := kitB_is "int" "tuple" false (by decide +kernel) rfl
@[simp] theorem i_il : oIsi [.int i, .ty "list"] mh = some (.bl false, mh) := kitB_is "int" "list" false (by decide +kernel) rfl
@[simp] theorem i_is : oIsi [.int i, .ty "str"] mh = some (.bl false, mh) := kitB_is "int" "str" false (by decide +kernel) rfl
@[simp] theorem i_ii : oIsi [.int i, .ty "int"] mh = some (.bl true, mh) := kitB_is "int" "int" true (by decide +kernel) rfl
@[simp] theorem i_ib : oIsi [.int i, .ty "bool"] mh = some (.bl false, mh) := kitB_is "int" "bool" false (by decide +kernel) rfl
@[simp] theorem i_bt : oIsi [.bl b, .ty "tuple"] mh = some (.bl false, mh) := kitB_is "bool" "tuple" false (by decide +kernel) rfl
@[simp] theorem i_bl : oIsi [.bl b, .ty "list"] mh = some (.bl false, mh) := kitB_is "bool" "list" false (by decide +kernel) rfl
@[simp] theorem i_bs : oIsi [.bl b, .ty "str"] mh = some (.bl false, mh) := kitB_is "bool" "str" false (by decide +kernel) rfl
@[simp] theorem i_bi : oIsi [.bl b, .ty "int"] mh = some (.bl true, mh) := kitB_is "bool" "int" true (by decide +kernel) rfl
@[simp] theorem i_bb : oIsi [.bl b, .ty "bool"] mh = some (.bl true, mh) := kitB_is "bool" "bool" true (by decide +kernel) rfl
@[simp] theorem i_nt : oIsi [.non, .ty "tuple"] mh = some (.bl false, mh) := kitB_is "NoneType" "tuple" false (by decide +kernel) rfl
@[simp] theorem i_nl : oIsi [.non, .ty "list"] mh = some (.bl false, mh) := kitB_is "NoneType" "list" false (by decide +kernel) rfl
@[simp] theorem i_ns : oIsi [.non, .ty "str"] mh = some (.bl false, mh) := kitB_is "NoneType" "str" false (by decide +kernel) rfl
@[simp] theorem i_ni : oIsi [.non, .ty "int"] mh = some (.bl false, mh) := kitB_is "NoneType" "int" false (by decide +kernel) rfl
@[simp] theorem i_nb : oIsi [.non, .ty "bool"] mh = some (.bl false, mh) := kitB_is "NoneType" "bool" false (by decide +kernel) rfl
end
/-! ### loops by what is left -/
section
variable {mh : MH} {env : Nv} {O : Po} {s : MS} {chk : MH → Bool} {p : Pat}
theorem loop_gen {α : Type} (as : List α) (G : Nat → α → D) {ds : List D} (hds : ∀ i, ds[i]? = (as[i]?).map (G i)) (I : Nat → List α → Nv → MH → Prop) (h0 : I 0 as env mh)
    (hs : ∀ i x xs env mh, as.drop i = x :: xs → i < as.length → as[i]? = some x → I i (x :: xs) env mh → chk mh = true ∧ ∃ e, setP p (G i x) env = some e ∧ (s e mh).wp { nx := I (i + 1) xs, ct := I (i + 1) xs, bk := O.nx, rt := O.rt, ex := O.ex })
    (hd : ∀ env mh, I as.length [] env mh → chk mh = true ∧ O.nx env mh) : (loopF chk p s ds env mh).wp O := by
  have hlen : ds.length = as.length := by
    apply Nat.le_antisymm
    · have := hds as.length
      rw [List.getElem?_eq_none (Nat.le_refl _)] at this
      exact List.getElem?_eq_none_iff.mp this
    · have := hds ds.length
      rw [List.getElem?_eq_none (Nat.le_refl _)] at this
      cases h : as[ds.length]? with
      | none => exact List.getElem?_eq_none_iff.mp h
      | some _ => rw [h] at this; cases this
  refine loop_wp (fun i e h => I i (as.drop i) e h) (by simpa using h0) ?_ ?_
  · intro i d env mh hd hi
    rw [hds i] at hd
    cases hx : as[i]? with
    | none => rw [hx] at hd; cases hd
    | some x =>
      rw [hx] at hd
      cases hd
      have hi2 := (List.getElem?_eq_some_iff.mp hx).1
      have e : as.drop i = x :: as.drop (i + 1) := by
        rw [List.drop_eq_getElem_cons hi2, (List.getElem?_eq_some_iff.mp hx).2]
      rw [e] at hi
      exact hs i x _ env mh e hi2 hx hi
  · intro env mh hi
    rw [hlen, List.drop_length] at hi
    exact hd env mh hi
theorem loop_as {α : Type} (as : List α) (g : α → D) (I : Nat → List α → Nv → MH → Prop) (h0 : I 0 as env mh)
    (hs : ∀ i x xs env mh, as.drop i = x :: xs → i < as.length → as[i]? = some x → I i (x :: xs) env mh → chk mh = true ∧ ∃ e, setP p (g x) env = some e ∧ (s e mh).wp { nx := I (i + 1) xs, ct := I (i + 1) xs, bk := O.nx, rt := O.rt, ex := O.ex })
    (hd : ∀ env mh, I as.length [] env mh → chk mh = true ∧ O.nx env mh) : (loopF chk p s (as.map g) env mh).wp O :=
  loop_gen as (fun _ x => g x) (fun i => by rw [List.getElem?_map]) I h0 hs hd
theorem loop_en {α : Type} (as : List α) (g : α → D) (I : Nat → List α → Nv → MH → Prop) (h0 : I 0 as env mh)
    (hs : ∀ i x xs env mh, as.drop i = x :: xs → i < as.length → as[i]? = some x → I i (x :: xs) env mh → chk mh = true ∧ ∃ e, setP p (.tup [.int (i : Nat), g x]) env = some e ∧ (s e mh).wp { nx := I (i + 1) xs, ct := I (i + 1) xs, bk := O.nx, rt := O.rt, ex := O.ex })
    (hd : ∀ env mh, I as.length [] env mh → chk mh = true ∧ O.nx env mh) : (loopF chk p s (enF 0 (as.map g)) env mh).wp O :=
  loop_gen as (fun i x => .tup [.int (i : Nat), g x]) (fun i => by rw [enF_get, List.getElem?_map, Nat.zero_add]; cases as[i]? <;> rfl) I h0 hs hd
theorem loop_rg {α : Type} (as : List α) {n : Nat} (hn : n = as.length) (I : Nat → List α → Nv → MH → Prop) (h0 : I 0 as env mh)
    (hs : ∀ i x xs env mh, as.drop i = x :: xs → i < as.length → as[i]? = some x → I i (x :: xs) env mh → chk mh = true ∧ ∃ e, setP p (.int (i : Nat)) env = some e ∧ (s e mh).wp { nx := I (i + 1) xs, ct := I (i + 1) xs, bk := O.nx, rt := O.rt, ex := O.ex })
    (hd : ∀ env mh, I as.length [] env mh → chk mh = true ∧ O.nx env mh) : (loopF chk p s (rgD 0 n) env mh).wp O :=
  loop_gen as (fun i _ => .int (i : Nat)) (fun i => by
    subst hn
    by_cases h : i < as.length
    · simp [rgD, h]
    · rw [List.getElem?_eq_none (by simp; omega), List.getElem?_eq_none (by omega)]; rfl) I h0 hs hd
/-- a loop of so many laps -/
theorem loop_n {n : Nat} (I : Nat → Nv → MH → Prop) (h0 : I 0 env mh)
    (hs : ∀ i env mh, i < n → I i env mh → chk mh = true ∧ ∃ e, setP p (.int (i : Nat)) env = some e ∧ (s e mh).wp { nx := I (i + 1), ct := I (i + 1), bk := O.nx, rt := O.rt, ex := O.ex })
    (hd : ∀ env mh, I n env mh → chk mh = true ∧ O.nx env mh) : (loopF chk p s (rgD 0 n) env mh).wp O := by
  refine loop_rg (List.range n) (by simp) (fun i _ => I i) h0 ?_ ?_
  · intro i x xs env mh _ hi _ h
    exact hs i env mh (by simpa using hi) h
  · intro env mh h
    exact hd env mh (by simpa using h)
end
end Det
/-! Det, part Se: rows of a net (name, end, end), sorted; comprehensions of pure parts. -/
namespace Det
open PySem
abbrev Row := Str × Str × Str
def rowD (l : Row) : D := .tup [.str l.1, .str l.2.1, .str l.2.2]
def netD (a : List Str) (rows : List Row) (c d : List Str) : D := .tup [.tup (a.map .str), .tup (rows.map rowD), .tup (c.map .str), .tup (d.map .str)]
/-! ### rows -/
theorem dat_row (l : Row) : datD [] 60 (rowD l) = some (.tuple [.str l.1, .str l.2.1, .str l.2.2]) := by
  show (List.mapM (datD [] 59) [D.str l.1, D.str l.2.1, D.str l.2.2]).map PyData.tuple = _
  simp [datD]
theorem datP_row (l : Row) : datP (rowD l) = .tuple [.str l.1, .str l.2.1, .str l.2.2] := by
  unfold datP; rw [dat_row]; rfl
def leR (a b : Row) : Bool := leD (rowD a) (rowD b)
theorem leR_trans {a b c : Row} (h : leR a b = true) (k : leR b c = true) : leR a c = true := leD_total.trans _ _ _ h k
theorem leR_total (a b : Row) : (leR a b || leR b a) = true := by have := leD_total.total (rowD a) (rowD b); simpa [leR] using this
theorem leR_name {a b : Row} (h : a.1 ≠ b.1) : leR a b = leS a.1 b.1 := by
  show (!PySem.W.dataLt (datP (rowD b)) (datP (rowD a))) = _
  rw [datP_row, datP_row, PySem.W.dataLt_tuple, PySem.W.dataLt_cons (by simp [PySem.W.alike])]
  have e : ¬ (PyData.eqv (.str b.1) (.str a.1) = true) := by
    simp only [PyData.eqv, beq_iff_eq]
    exact fun e => h e.symm
  rw [if_neg e, PySem.W.dataLt_str, PySem.W.not_lt_str]
  rfl
theorem okSort_rows (ls : List Row) (h : ls.length ≤ sizeLine) : okSort (ls.map rowD) = true := by
  unfold okSort
  rw [Bool.and_eq_true, Bool.and_eq_true, Bool.and_eq_true]
  refine ⟨⟨⟨?_, ?_⟩, ?_⟩, by rw [List.length_map]; exact decide_eq_true h⟩
  · rw [List.all_map]
    refine List.all_eq_true.mpr fun x _ => ?_
    show ((datD [] 60 (rowD x)).isSome && decide ((datP (rowD x)).depth ≤ 60)) = true
    rw [dat_row, datP_row]
    simp [PyData.depth, PyData.depthAll]
  · rw [List.all_map]
    refine List.all_eq_true.mpr fun x _ => ?_
    show (ls.map rowD).all _ = true
    rw [List.all_map]
    refine List.all_eq_true.mpr fun y _ => ?_
    show PySem.W.alike (datP (rowD x)) (datP (rowD y)) = true
    rw [datP_row, datP_row]
    simp [PySem.W.alike, PySem.W.alikeAll]
  · rw [Bool.or_eq_true]
    refine .inl ?_
    rw [List.all_map]
    refine List.all_eq_true.mpr fun x _ => ?_
    show tupNE (datP (rowD x)) = true
    rw [datP_row]; rfl
theorem o_sorted_r {c : D} {mh : MH} {ls : List Row} (h : itemsD mh c = some (ls.map rowD)) (hl : ls.length ≤ sizeLine) : oSorted [c] mh = some (.ref mh.length, mh ++ [.lst ((isort leR ls).map rowD)]) := by
  unfold oSorted
  simp only [h, okSort_rows ls hl, if_true, isort_map]
  rfl
/-- by name, each name once -/
def Up (l : List Row) : Prop := l.Pairwise fun a b => leS a.1 b.1 = true ∧ a.1 ≠ b.1
theorem Up.le {l : List Row} (h : Up l) : l.Pairwise fun a b => leR a b = true := h.imp fun {a b} q => by rw [leR_name q.2]; exact q.1
theorem Up.nodup {l : List Row} (h : Up l) : l.Nodup := List.nodup_iff_pairwise_ne.mpr (h.imp fun {a b} q e => q.2 (by rw [e]))
theorem Up.srt {l : List Row} (h : Up l) : isort leR l = l := isort_of_sorted l h.le
theorem name_eq {l : List Row} (h : (l.map (·.1)).Nodup) {a b : Row} (ha : a ∈ l) (hb : b ∈ l) (e : a.1 = b.1) : a = b := by
  induction l with
  | nil => cases ha
  | cons c l ih =>
    rw [List.map_cons, List.nodup_cons] at h
    rcases List.mem_cons.mp ha with e1 | ha2
    · rcases List.mem_cons.mp hb with e2 | hb2
      · rw [e1, e2]
      · exact absurd (show c.1 ∈ l.map (·.1) from List.mem_map.mpr ⟨b, hb2, by rw [← e, e1]⟩) h.1
    · rcases List.mem_cons.mp hb with e2 | hb2
      · exact absurd (show c.1 ∈ l.map (·.1) from List.mem_map.mpr ⟨a, ha2, by rw [e, e2]⟩) h.1
      · exact ih h.2 ha2 hb2
theorem rows_anti {l : List Row} (h : (l.map (·.1)).Nodup) : ∀ a ∈ l, ∀ b ∈ l, leR a b = true → leR b a = true → a = b := fun a ha b hb h1 h2 => by
  by_cases e : a.1 = b.1
  · exact name_eq h ha hb e
  · rw [leR_name e] at h1
    rw [leR_name (Ne.symm e)] at h2
    exact absurd (leS_anti h1 h2) e
/-- what goes up and is made of the rows of ls is ls sorted -/
theorem Up.one {l ls : List Row} (h : Up l) (hn : (ls.map (·.1)).Nodup) (hm : ∀ a, a ∈ l ↔ a ∈ ls) : l = isort leR ls := by
  have n2 : ls.Nodup := by
    rw [List.nodup_iff_pairwise_ne] at hn ⊢
    rw [List.pairwise_map] at hn
    exact hn.imp fun {a b} q e => q (by rw [e])
  have p : l.Perm ls := (List.perm_ext_iff_of_nodup h.nodup n2).mpr hm
  rw [← isort_perm (le := leR) (fun a b c h k => leR_trans h k) leR_total p fun a ha b hb h1 h2 => rows_anti hn a (p.mem_iff.mp ha) b (p.mem_iff.mp hb) h1 h2]
  exact h.srt.symm
theorem isort_up {ls : List Row} (hn : (ls.map (·.1)).Nodup) : Up (isort leR ls) := by
  have p := isort_perm_self (le := leR) ls
  have hs := isort_sorted (le := leR) (fun a b c h k => leR_trans h k) leR_total ls
  have hn2 : ((isort leR ls).map (·.1)).Nodup := (p.map (·.1)).nodup_iff.mpr hn
  rw [List.nodup_iff_pairwise_ne, List.pairwise_map] at hn2
  exact (hs.and hn2).imp fun {a b} q => ⟨by rw [← leR_name q.2]; exact q.1, q.2⟩
theorem isort_rows_perm {l₁ l₂ : List Row} (p : l₁.Perm l₂) (hn : (l₁.map (·.1)).Nodup) : isort leR l₁ = isort leR l₂ :=
  isort_perm (le := leR) (fun a b c h k => leR_trans h k) leR_total p (rows_anti hn)
/-! ### ends in their order -/
def nrm (l : Row) : Row := (l.1, mnS l.2.1 l.2.2, mxS l.2.1 l.2.2)
def swp (l : Row) : Row := (l.1, l.2.2, l.2.1)
theorem mn_comm (a b : Str) : mnS a b = mnS b a ∧ mxS a b = mxS b a := by
  unfold mnS mxS
  rw [ltS_iff, ltS_iff]
  cases h1 : leS a b with
  | true => cases h2 : leS b a with
    | true => have := leS_anti h1 h2; subst this; simp
    | false => simp
  | false => cases h2 : leS b a with
    | true => simp
    | false =>
      have := leS_total a b
      rw [h1, h2] at this; cases this
theorem nrm_swp (l : Row) : nrm (swp l) = nrm l := by
  unfold nrm swp
  simp only
  rw [(mn_comm l.2.2 l.2.1).1, (mn_comm l.2.2 l.2.1).2]
theorem nrm_nrm (l : Row) : nrm (nrm l) = nrm l := by
  unfold nrm
  simp only [mnS, mxS, ltS_iff]
  cases h1 : leS l.2.1 l.2.2 with
  | true => cases h2 : leS l.2.2 l.2.1 with
    | true => have := leS_anti h1 h2; rw [this]; simp
    | false => simp [h1, h2]
  | false => cases h2 : leS l.2.2 l.2.1 with
    | true => simp [h1, h2]
    | false =>
      have := leS_total l.2.1 l.2.2
      rw [h1, h2] at this; cases this
theorem nrm_names (ls : List Row) : (ls.map nrm).map (·.1) = ls.map (·.1) := by rw [List.map_map]; rfl
/-! ### comprehensions of pure parts -/
section
variable {mh : MH} {Q : D → MH → Prop} {E : Exn → MH → Prop} {env : Nv} {f ek ev : ME} {ft : MT} {chk : MH → Bool} {p : Pat}
theorem lc_map {α : Type} (as : List α) (g : α → D) (sel : α → Bool) (out : α → D) (hlen : as.length ≤ sizeLine) (hchk : ∀ acc, chk (mh ++ [.lst acc]) = true)
    (hs : ∀ a ∈ as, ∀ acc, ∃ e, setP p (g a) env = some e ∧ (ft e (mh ++ [.lst acc])).wp (fun b h => h = mh ++ [.lst acc] ∧ b = sel a) (fun _ _ => False) ∧ (sel a = true → (f e (mh ++ [.lst acc])).wp (fun y h => h = mh ++ [.lst acc] ∧ y = out a) (fun _ _ => False)))
    (hd : Q (.ref mh.length) (mh ++ [.lst ((as.filter sel).map out)])) : (loopC mh.length chk p ft f env (as.map g) (mh ++ [.lst []])).wp Q E := by
  have hl : ∀ i, (((as.take i).filter sel).map out).length ≤ i := fun i => by
    rw [List.length_map]
    exact Nat.le_trans (List.length_filter_le _ _) (by rw [List.length_take]; omega)
  refine comp_pure (fun i => ((as.take i).filter sel).map out) (by simp) (by simpa using hlen) hl ?_ (hchk _) (by simpa using hd)
  intro i d acc hd
  obtain ⟨a, ha, rfl⟩ : ∃ w, as[i]? = some w ∧ g w = d := by
    rw [List.getElem?_map] at hd
    cases hx : as[i]? with
    | none => rw [hx] at hd; cases hd
    | some w => rw [hx] at hd; exact ⟨w, rfl, Option.some.inj hd⟩
  obtain ⟨e, h1, h2, h3⟩ := hs a (List.mem_of_getElem? ha) acc
  refine ⟨hchk _, e, h1, Res.wp_mono h2 (fun b h q => ?_) fun _ _ q => q⟩
  obtain ⟨rfl, rfl⟩ := q
  have tk : as.take (i + 1) = as.take i ++ [a] := by rw [List.take_add_one, ha]; rfl
  refine ⟨rfl, fun hb => Res.wp_mono (h3 hb) (fun y h q => ?_) fun _ _ q => q, fun hb => ?_⟩
  · obtain ⟨rfl, rfl⟩ := q
    refine ⟨rfl, ?_⟩
    simp [tk, hb]
  · simp [tk, hb]
theorem lc_map2 {α : Type} {n : Nat} {m0 : MH} (mh : MH) (as : List α) (g : α → D) (sel : α → Bool) (out : α → D) (hn : n = mh.length) (hm : m0 = mh ++ [.lst []]) (hlen : as.length ≤ sizeLine) (hchk : ∀ acc, chk (mh ++ [.lst acc]) = true)
    (hs : ∀ a ∈ as, ∀ acc, ∃ e, setP p (g a) env = some e ∧ (ft e (mh ++ [.lst acc])).wp (fun b h => h = mh ++ [.lst acc] ∧ b = sel a) (fun _ _ => False) ∧ (sel a = true → (f e (mh ++ [.lst acc])).wp (fun y h => h = mh ++ [.lst acc] ∧ y = out a) (fun _ _ => False)))
    (hd : Q (.ref mh.length) (mh ++ [.lst ((as.filter sel).map out)])) : (loopC n chk p ft f env (as.map g) m0).wp Q E := by
  subst hn; subst hm
  exact lc_map as g sel out hlen hchk hs hd
theorem loopX_names {α : Type} (g : α → D) (key : α → Str) (hchk : ∀ o, chk (mh ++ [o]) = true) : ∀ (as : List α) (kds : List (L2.Key × D)), kds.length + as.length ≤ sizeLine →
    (∀ a ∈ as, ∀ o, ∃ e, setP p (g a) env = some e ∧ (ek e (mh ++ [o])).wp (fun y h => h = mh ++ [o] ∧ y = .str (key a)) (fun _ _ => False) ∧ (ev e (mh ++ [o])).wp (fun y h => h = mh ++ [o] ∧ y = .bl true) (fun _ _ => False)) →
    (∀ kds', (∀ x : Str, (Sum.inr x : L2.Key) ∈ kds'.map (·.1) ↔ (Sum.inr x : L2.Key) ∈ kds.map (·.1) ∨ x ∈ as.map key) → Q (.ref mh.length) (mh ++ [.dk kds'])) →
    (loopX mh.length chk p yes ek ev env (as.map g) (mh ++ [.dk kds])).wp Q E
  | [], kds, _, _, hq => by
    unfold loopX
    rw [List.map_nil]
    simp only
    rw [if_pos (hchk _), wp_ok]
    exact hq kds fun x => by simp
  | a :: as, kds, hl, hs, hq => by
    have hl2 : kds.length < sizeLine := by simp at hl; omega
    rw [List.map_cons]
    unfold loopX
    rw [if_pos (hchk _)]
    obtain ⟨e, h1, h2, h3⟩ := hs a List.mem_cons_self (.dk kds)
    rw [h1]
    simp only
    rw [wp_bind, wp_nox, wp_yes]
    simp only [if_true]
    rw [wp_bind, wp_nox]
    refine Res.wp_mono h2 (fun y h q => ?_) fun _ _ q => q.elim
    obtain ⟨rfl, rfl⟩ := q
    rw [wp_bind, wp_nox]
    refine Res.wp_mono h3 (fun z h q => ?_) fun _ _ q => q.elim
    obtain ⟨rfl, rfl⟩ := q
    have e1 : (mh ++ [Ob.dk kds])[mh.length]? = some (.dk kds) := by simp
    simp only [e1, dKey]
    rw [if_pos hl2]
    have e2 : (mh ++ [Ob.dk kds]).set mh.length (.dk (putD kds (.inr (key a)) (.bl true))) = mh ++ [.dk (putD kds (.inr (key a)) (.bl true))] := by simp
    rw [e2]
    refine loopX_names g key hchk as _ (by have := putD_len (kds := kds) (k := .inr (key a)) (d := .bl true); simp at hl; omega) (fun b hb => hs b (List.mem_cons_of_mem _ hb)) fun kds' hk => ?_
    refine hq kds' fun x => ?_
    rw [hk x, putD_keys]
    simp [or_assoc]
end
end Det
/-! Det, part Sf: more words: insert, + of lists, slices, x * k. -/
namespace Det
open PySem
theorem repS_len (k : Nat) (x : Str) : (repS k x).length = k * x.length := by
  unfold repS
  show (List.flatten _).toArray.size = _
  simp
  rfl
theorem o_mul_s {x : Str} {k : Int} {mh : MH} (h0 : 0 ≤ k) (h1 : k ≤ 1000) (h2 : x.length ≤ 1000) : oMulX (.str x) (.int k) mh = some (.str (repS k.toNat x), mh) := by
  have h3 : x.length * k.toNat ≤ 1000 * 1000 := Nat.mul_le_mul h2 (by omega)
  simp only [oMulX]
  rw [if_pos ⟨by omega, by omega, by omega⟩]
theorem fq_pl_lst2 {p p' : Pl} {loc : MH} {Q : D → MH → Prop} {o : Ob} {xs : List D} (hb : D.blws (loc.length + 1) xs = true) (q : Q (.rol xs) (p'.ob :: loc)) : FQ (p.ob :: loc) Q (.ref (p'.ob :: loc ++ [o]).length) (p'.ob :: loc ++ [o] ++ [.lst xs]) := by
  rw [fq_new (mh := p.ob :: loc) (xs := xs) (by simp) (by simp)]
  refine ⟨by simpa using hb, ?_, ?_⟩
  · have := kept_pls (p := p) (p' := p') (loc := loc) (g := [o, .lst xs])
    simpa using this
  · simpa using q
theorem wp_insAt_of {fo fi f : ME} {env : Nv} {mh : MH} {Q : D → MH → Prop} {E : Exn → MH → Prop} (h : (fo env mh).wp (fun o h => ∃ n, o = .ref n ∧ (∃ ys, h[n]? = some (.lst ys)) ∧ (fi env h).wp (fun i h2 => (f env h2).wp (fun d h3 => ∃ k xs, i = .int k ∧ h3[n]? = some (.lst xs) ∧ (xs.length < sizeLine ∧ 0 ≤ k ∧ k < 2 ^ 63) ∧ Q .non (h3.set n (.lst (xs.take k.toNat ++ [d] ++ xs.drop k.toNat)))) E) E) E) : (insAt fo fi f env mh).wp Q E := by
  unfold insAt
  rw [wp_bind]
  refine Res.wp_mono h (fun o h q => ?_) fun _ _ q => q
  obtain ⟨n, rfl, ⟨ys, hy⟩, q⟩ := q
  simp only [hy]
  rw [wp_bind]
  refine Res.wp_mono q (fun i h2 q => ?_) fun _ _ q => q
  rw [wp_bind]
  refine Res.wp_mono q (fun d h3 q => ?_) fun _ _ q => q
  obtain ⟨k, xs, rfl, hx, hc, q⟩ := q
  simp only [hx]
  rw [if_pos hc]
  exact wp_ok.mpr q
section
variable {mh : MH}
theorem addX_l {u v : D} {xs ys : List D} (h1 : lstD mh u = some xs) (h2 : lstD mh v = some ys) (hu : (∃ zs, u = .rol zs) ∨ ∃ k, u = .ref k) (hl : xs.length + ys.length ≤ sizeLine) : oAddX u v mh = some (.ref mh.length, mh ++ [.lst (xs ++ ys)]) := by
  unfold oAddX
  rcases hu with ⟨zs, rfl⟩ | ⟨k, rfl⟩
  · simp only [h1, h2, if_pos hl]
  · simp only [h1, h2, if_pos hl]
theorem fq_next {Q : D → MH → Prop} {o : Ob} {xs : List D} : FQ mh Q (.ref (mh ++ [o]).length) (mh ++ [o] ++ [.lst xs]) ↔ D.blws mh.length xs = true ∧ Q (.rol xs) mh := by
  rw [fq_new (xs := xs) (by simp) (by simp)]
  simp

theorem o_sl_ref {n : Nat} {xs : List D} {lo hi : Option Int} (h : mh[n]? = some (.lst xs)) : oSl (.ref n) lo hi mh = some (.ref mh.length, mh ++ [.lst (cutD xs lo hi)]) := by
  simp [oSl, itemsD, h]
end
/-- a cut, what is wanted behind it out of simp's sight -/
theorem seq_cutJ {s t : MS} {O : Po} {env : Nv} {mh : MH} (I : Nv → MH → Prop) (h1 : ∀ J : Nv → MH → Prop, (∀ e h, I e h → J e h) → (s env mh).wp { O with nx := J }) (h2 : ∀ e h, I e h → (t e h).wp O) : (sq s t env mh).wp O :=
  seq_cut I (h1 I fun _ _ q => q) h2
/-- the same at the end of a stretch -/
theorem end_cutJ {s : MS} {O : Po} {env : Nv} {mh : MH} (I : Nv → MH → Prop) (h1 : ∀ J : Nv → MH → Prop, (∀ e h, I e h → J e h) → (s env mh).wp { O with nx := J }) (h2 : ∀ e h, I e h → O.nx e h) : (s env mh).wp O :=
  SRes.wp_mono (h1 I fun _ _ q => q) h2 (fun _ _ q => q) (fun _ _ q => q) (fun _ _ q => q) fun _ _ _ q => q
end Det
/-! Det, part Sg: the second kind of pool: [seed, place, digits..], one list. -/
namespace Det
open PySem
structure Pq where
  a : Int
  i : Nat
  ds : List Int
  h2 : 2 ≤ i
  hi : i ≤ ds.length + 2
  hl : ds.length ≤ 5000
def Pq.ob (p : Pq) : Ob := .lst (.int p.a :: .int (p.i : Nat) :: p.ds.map .int)
theorem Pq.blw (p : Pq) (n : Nat) : p.ob.blw n = true := by simp [Pq.ob]
theorem kept_pq {p p' : Pq} {loc : MH} : Kept (p.ob :: loc) (p'.ob :: loc) := Kept.head0 (p'.blw _)
theorem kept_pqs {p p' : Pq} {loc g : MH} : Kept (p.ob :: loc) (p'.ob :: (loc ++ g)) := Kept.head (p'.blw _)
theorem take_pq {o : Ob} {loc g : MH} : (o :: (loc ++ g)).take (loc.length + 1) = o :: loc := by simp
section
variable {p p' : Pq} {loc g : MH} {Q : D → MH → Prop} {d : D}
/-- what a def hands back over the pool, where it laid g for itself -/
theorem fq_pq (hd : ∀ n, d ≠ .ref n) (hb : d.blw (loc.length + 1) = true) (q : Q d (p'.ob :: loc)) : FQ (p.ob :: loc) Q d (p'.ob :: (loc ++ g)) := by
  rw [FQ.of_cut fun n e => absurd e (hd n)]
  refine ⟨hb, kept_pqs, ?_⟩
  rw [List.length_cons, take_pq]; exact q
theorem fq_pq0 (hd : ∀ n, d ≠ .ref n) (hb : d.blw (loc.length + 1) = true) (q : Q d (p'.ob :: loc)) : FQ (p.ob :: loc) Q d (p'.ob :: loc) := by
  have := fq_pq (p := p) (g := []) hd hb q
  simpa using this
theorem fq_pq_int {i : Int} (q : Q (.int i) (p'.ob :: loc)) : FQ (p.ob :: loc) Q (.int i) (p'.ob :: loc) := fq_pq0 (fun n => by simp) rfl q
theorem fq_pq_str {i : Str} (q : Q (.str i) (p'.ob :: loc)) : FQ (p.ob :: loc) Q (.str i) (p'.ob :: loc) := fq_pq0 (fun n => by simp) rfl q
theorem fq_pq_bl {i : Bool} (q : Q (.bl i) (p'.ob :: loc)) : FQ (p.ob :: loc) Q (.bl i) (p'.ob :: loc) := fq_pq0 (fun n => by simp) rfl q
/-- a new list -/
theorem fq_pq_lst {xs : List D} (hb : D.blws (loc.length + 1) xs = true) (q : Q (.rol xs) (p'.ob :: loc)) : FQ (p.ob :: loc) Q (.ref (loc.length + 1)) (p'.ob :: (loc ++ .lst xs :: g)) := by
  rw [fq_new (mh := p.ob :: loc) (n := loc.length + 1) (xs := xs) (by simp) (by simp)]
  refine ⟨by simpa using hb, kept_pqs, ?_⟩
  rw [List.length_cons, take_pq]; exact q
end
end Det
/-! Det, part Sh: signs of texts, draws from lists. -/
namespace Det
open PySem
abbrev tl (s : Str) : List Nat := s.cps.toList
theorem len_app (x y : Str) : (x ++ y).length = x.length + y.length := Str.length_append x y
theorem len_one (c : Nat) : (⟨#[c]⟩ : Str).length = 1 := rfl
theorem tl_app (x y : Str) : tl (x ++ y) = tl x ++ tl y := by
  show (x.cps ++ y.cps).toList = _
  rw [Array.toList_append]
theorem sign_ix {s : Str} {r : Int} {mh : MH} {Q : D → MH → Prop} (hl : s.length ≤ 100000) (h0 : 0 ≤ r) (h1 : r < s.length) (hq : ∀ c ∈ tl s, Q (.str ⟨#[c]⟩) mh) : owp (oIx (.str s) (.int r) mh) Q := by
  rw [ix_str]
  obtain ⟨c, hc, hm, _⟩ := atI_of (l := s.cps.toList) h0 (by simpa [Str.length] using h1)
  have hz : (100000 : Nat) ≤ sizeLine := by decide
  exact ⟨by omega, c, hc, hq c hm⟩
theorem nd_len {l xs : List Str} (h : l.Nodup) (hs : ∀ a ∈ l, a ∈ xs) : l.length ≤ xs.length := h.length_le_of_subset fun a ha => hs a ha
theorem get_loc {o : Ob} {loc g : MH} {x : Ob} : (o :: (loc ++ x :: g))[loc.length + 1]? = some x := by simp
@[simp] theorem blws_rows {n : Nat} {l : List Row} : D.blws n (l.map rowD) = true := blws_map fun l _ => by simp [rowD]
/-- an int drawn from a display of ints -/
theorem int_ix {l : List Int} {r : Int} {mh : MH} {Q : D → MH → Prop} (h0 : 0 ≤ r) (h1 : r < l.length) (hq : ∀ c ∈ l, Q (.int c) mh) : owp (oIx (.tup (l.map .int)) (.int r) mh) Q := by
  rw [ix_tup]
  obtain ⟨m, rfl⟩ := Int.eq_ofNat_of_zero_le h0
  have hm : m < l.length := by exact_mod_cast h1
  exact ⟨.int l[m], by rw [atI_nat, List.getElem?_map, List.getElem?_eq_getElem hm]; rfl, hq _ (List.getElem_mem hm)⟩
@[simp] theorem wp_par2 {i j : Nat} {fa : MA} {env : Nv} {mh : MH} {O : Po} : (par2 i j fa env mh).wp O ↔ (fa env mh).wp (fun ds h => ∃ d e, ds = [d, e] ∧ O.nx ((env.set i (some d)).set j (some e)) h) (fun x h => O.ex x env h) := wp_lift_iff fun ds h => by
  match ds with
  | [] => simp
  | [_] => simp
  | [a, b] => exact swp_nx.trans ⟨fun q => ⟨a, b, rfl, q⟩, fun ⟨_, _, e, q⟩ => by cases e; exact q⟩
  | _ :: _ :: _ :: _ => simp
end Det
namespace K09
open PySem PySem.Spec PyProof.Rows L2 Det
def top (i : Nat) : Stmt := PySem.Challenge.pw_endstell_k09_lots_gates_own_links.main.body.getD i (.Pass ⟨0, 0, 0, 0⟩)
abbrev st__law_pool : Stmt := top 13
abbrev st__law_round : Stmt := top 17
abbrev st__law_base : Stmt := top 18
abbrev st__law_pick : Stmt := top 14
abbrev st__law_name : Stmt := top 15
abbrev st__law_dress : Stmt := top 16
abbrev st__law_same : Stmt := top 23
abbrev st_own_links : Stmt := top 11
abbrev st_lots_of : Stmt := top 6
abbrev st_places_of : Stmt := top 1
abbrev st_near_lists : Stmt := top 3
abbrev st_node_marks : Stmt := top 4
abbrev st_named_lot : Stmt := top 5
abbrev st_lots_without : Stmt := top 7
abbrev st_hangs_together : Stmt := top 8
abbrev st_gates_of : Stmt := top 10
abbrev st__law_told : Stmt := top 31
abbrev st__law_near : Stmt := top 24
abbrev st__law_gates : Stmt := top 26
abbrev st__law_owns : Stmt := top 29
abbrev st__law_lots : Stmt := top 25
abbrev st__law_due : Stmt := top 30
abbrev st__law_row : Stmt := top 33
abbrev st__law_grown : Stmt := top 19
abbrev st__law_watch : Stmt := top 20
abbrev st__law_drawn : Stmt := top 21
abbrev st__law_some : Stmt := top 32
abbrev st__law_wide : Stmt := top 22
abbrev st_law : Stmt := top 34
/-! ### the mirrors -/
abbrev N__law_pool : List Str := ["script", "pool", "cell", "number", "turn"]
noncomputable def m__law_pool : Fn := runF 5 <|
    sq (sst 1 (dlst (acons (kn (.int 910913)) (acons (kn (.int 2)) (anil))))) <|
    sq (sfor (iter (sl (vr 0) (onone) (osome (kn (.int 63))))) (.nm 2) (sq (sst 3 (ap oInt (acons (vr 2) (anil)))) <|
    sq (sif (tb (bi oLt (vr 3) (kn (.int 0)))) (sst 3 (bi oSub (kn (.int 5)) (bi oMulX (kn (.int 2)) (vr 3)))) (nop)) <|
    sq (setIx (vr 1) (kn (.int 0)) (bi oMod (ap oInt (acons (bi oAdd (bi oAdd (bi oMulX (bi oIx (vr 1) (kn (.int 0))) (kn (.int 16807))) (bi oMod (ap oInt (acons (vr 3) (anil))) (kn (.int 2147483629)))) (kn (.int 29))) (anil))) (kn (.int 2147483647)))) <|
    sif (tb (bi oGe (vr 3) (bi oPow (kn (.int 10)) (kn (.int 18))))) (sfor (range1 (kn (.int 60))) (.nm 4) (sq (sif (tb (bi oEq (vr 3) (kn (.int 0)))) (brk) (nop)) <|
    sq (drp (app (vr 1) (bi oMod (ap oInt (acons (vr 3) (anil))) (kn (.int 5040))))) <|
    sst 3 (bi oFdiv (vr 3) (kn (.int 5040))))) (nop))) <|
    ret (vr 1)
abbrev N__law_round : List Str := ["many", "others", "half"]
noncomputable def m__law_round : Fn := zF <| runF 3 <|
    sq (sst 1 (fz (lrg2 (kn (.int 2)) (vr 0)))) <|
    sq (sst 2 (bi oSub (bi oFdiv (vr 0) (kn (.int 2))) (kn (.int 1)))) <|
    ret (fz (bi oAddX (fz (bi oAddX (fz (bi oAddX (dlst (acons (kn (.int 0)) (anil))) (fz (sl (vr 1) (onone) (osome (vr 2)))))) (dlst (acons (kn (.int 1)) (anil))))) (fz (sl (vr 1) (osome (vr 2)) (onone)))))
abbrev N__law_base : List Str := ["kind", "size", "ends", "order", "k", "wide", "tall", "j"]
noncomputable def m__law_base : Fn := runF 8 <|
    sq (sst 2 (dlst (anil))) <|
    sq (sif (tb (bi oEq (vr 0) (kn (.int 0)))) (sq (sst 3 (fz (bi oAddX (fz (bi oAddX (dlst (acons (kn (.int 0)) (anil))) (fz (lrg2 (kn (.int 2)) (bi oAdd (vr 1) (kn (.int 2))))))) (dlst (acons (kn (.int 1)) (anil)))))) <|
    ret (dlst (acons (bi oAdd (vr 1) (kn (.int 2))) (acons (fz (lc (range1 (bi oAdd (vr 1) (kn (.int 1)))) (.nm 4) (yes) (dtup (acons (bi oIx (vr 3) (vr 4)) (acons (bi oIx (vr 3) (bi oAdd (vr 4) (kn (.int 1)))) (anil)))) [4])) (anil))))) (nop)) <|
    sq (sif (tor (tb (bi oEq (vr 0) (kn (.int 1)))) (tb (bi oEq (vr 0) (kn (.int 2))))) (sq (sst 3 (cal 1 m__law_round (acons (bi oAdd (vr 1) (kn (.int 4))) (anil)))) <|
    sq (sst 2 (lc (range1 (bi oAdd (vr 1) (kn (.int 4)))) (.nm 4) (yes) (dtup (acons (bi oIx (vr 3) (vr 4)) (acons (bi oIx (vr 3) (bi oSub (vr 4) (kn (.int 1)))) (anil)))) [4])) <|
    sq (sif (tb (bi oEq (vr 0) (kn (.int 2)))) (sst 2 (bi oAddX (vr 2) (lc (range1 (bi oAdd (vr 1) (kn (.int 4)))) (.nm 4) (yes) (dtup (acons (vr 4) (acons (bi oAdd (vr 1) (kn (.int 4))) (anil)))) [4]))) (nop)) <|
    ret (dlst (acons (bi oAdd (bi oAdd (vr 1) (kn (.int 3))) (vr 0)) (acons (vr 2) (anil))))) (nop)) <|
    sq (sif (tb (bi oEq (vr 0) (kn (.int 3)))) (sq (sfor (range1 (bi oAdd (vr 1) (kn (.int 1)))) (.nm 4) (sq (drp (app (vr 2) (dtup (acons (bi oAdd (kn (.int 2)) (bi oMulX (kn (.int 2)) (vr 4))) (acons (bi oAdd (kn (.int 3)) (bi oMulX (kn (.int 2)) (vr 4))) (anil)))))) <|
    sif (tb (bi oGt (vr 4) (kn (.int 0)))) (sq (drp (app (vr 2) (dtup (acons (bi oMulX (kn (.int 2)) (vr 4)) (acons (bi oAdd (kn (.int 2)) (bi oMulX (kn (.int 2)) (vr 4))) (anil)))))) <|
    drp (app (vr 2) (dtup (acons (bi oAdd (kn (.int 1)) (bi oMulX (kn (.int 2)) (vr 4))) (acons (bi oAdd (kn (.int 3)) (bi oMulX (kn (.int 2)) (vr 4))) (anil)))))) (nop))) <|
    ret (dlst (acons (bi oAdd (bi oMulX (kn (.int 2)) (vr 1)) (kn (.int 4))) (acons (fz (bi oAddX (vr 2) (dlst (acons (dtup (acons (kn (.int 0)) (acons (kn (.int 2)) (anil)))) (acons (dtup (acons (kn (.int 0)) (acons (kn (.int 3)) (anil)))) (acons (dtup (acons (bi oAdd (bi oMulX (kn (.int 2)) (vr 1)) (kn (.int 2))) (acons (kn (.int 1)) (anil)))) (acons (dtup (acons (bi oAdd (bi oMulX (kn (.int 2)) (vr 1)) (kn (.int 3))) (acons (kn (.int 1)) (anil)))) (anil)))))))) (anil))))) (nop)) <|
    sq (sif (tb (bi oEq (vr 0) (kn (.int 4)))) (sq (sfor (range2 (kn (.int 1)) (bi oAdd (vr 1) (kn (.int 3)))) (.nm 4) (sst 2 (bi oAddX (vr 2) (lc (range1 (vr 4)) (.nm 7) (tor (tb (bi oGt (vr 4) (kn (.int 1)))) (tb (bi oGt (vr 1) (kn (.int 2))))) (dtup (acons (vr 7) (acons (vr 4) (anil)))) [7])))) <|
    ret (dlst (acons (bi oAdd (vr 1) (kn (.int 3))) (acons (vr 2) (anil))))) (nop)) <|
    sq (sif (tb (bi oEq (vr 0) (kn (.int 5)))) (ret (dlst (acons (kn (.int 6)) (acons (fz (dlst (acons (dtup (acons (kn (.int 0)) (acons (kn (.int 2)) (anil)))) (acons (dtup (acons (kn (.int 0)) (acons (kn (.int 3)) (anil)))) (acons (dtup (acons (kn (.int 2)) (acons (kn (.int 3)) (anil)))) (acons (dtup (acons (kn (.int 4)) (acons (kn (.int 5)) (anil)))) (acons (dtup (acons (kn (.int 1)) (acons (kn (.int 4)) (anil)))) (acons (dtup (acons (kn (.int 1)) (acons (kn (.int 5)) (anil)))) (acons (dtup (acons (kn (.int 0)) (acons (kn (.int 4)) (anil)))) (acons (dtup (acons (kn (.int 2)) (acons (kn (.int 5)) (anil)))) (acons (dtup (acons (kn (.int 3)) (acons (kn (.int 1)) (anil)))) (anil)))))))))))) (anil))))) (nop)) <|
    sq (sif (tb (bi oEq (vr 0) (kn (.int 6)))) (ret (dlst (acons (bi oAdd (vr 1) (kn (.int 3))) (acons (fz (lc (range1 (bi oAdd (vr 1) (kn (.int 3)))) (.nm 4) (tb (bi oNe (vr 4) (kn (.int 2)))) (dtup (acons (kn (.int 2)) (acons (vr 4) (anil)))) [4])) (anil))))) (nop)) <|
    sq (sif (tb (bi oEq (vr 0) (kn (.int 7)))) (sq (sst 5 (bi oAdd (kn (.int 2)) (bi oFdiv (vr 1) (kn (.int 2))))) <|
    sq (sst 6 (bi oAdd (kn (.int 2)) (bi oFdiv (bi oAdd (vr 1) (kn (.int 1))) (kn (.int 2))))) <|
    sq (sst 3 (fz (bi oAddX (fz (bi oAddX (dlst (acons (kn (.int 0)) (anil))) (fz (lrg2 (kn (.int 2)) (bi oMulX (vr 5) (vr 6)))))) (dlst (acons (kn (.int 1)) (anil)))))) <|
    sq (sfor (range1 (bi oMulX (vr 5) (vr 6))) (.nm 4) (sq (sif (tb (bi oGt (bi oMod (ap oInt (acons (vr 4) (anil))) (vr 5)) (kn (.int 0)))) (drp (app (vr 2) (dtup (acons (bi oIx (vr 3) (bi oSub (vr 4) (kn (.int 1)))) (acons (bi oIx (vr 3) (vr 4)) (anil)))))) (nop)) <|
    sif (tb (bi oGe (vr 4) (vr 5))) (drp (app (vr 2) (dtup (acons (bi oIx (vr 3) (bi oSub (vr 4) (vr 5))) (acons (bi oIx (vr 3) (vr 4)) (anil)))))) (nop))) <|
    ret (dlst (acons (bi oMulX (vr 5) (vr 6)) (acons (vr 2) (anil))))) (nop)) <|
    sq (sfor (range1 (bi oAdd (vr 1) (kn (.int 1)))) (.nm 4) (sq (drp (app (vr 2) (dtup (acons (kn (.int 0)) (acons (bi oAdd (kn (.int 2)) (vr 4)) (anil)))))) <|
    sq (drp (app (vr 2) (dtup (acons (kn (.int 1)) (acons (bi oAdd (kn (.int 2)) (vr 4)) (anil)))))) <|
    sif (tand (tb (bi oGt (vr 4) (kn (.int 0)))) (tb (bi oEq (vr 0) (kn (.int 8))))) (drp (app (vr 2) (dtup (acons (bi oAdd (kn (.int 1)) (vr 4)) (acons (bi oAdd (kn (.int 2)) (vr 4)) (anil)))))) (nop))) <|
    ret (dlst (acons (bi oAdd (vr 1) (kn (.int 3))) (acons (vr 2) (anil))))
abbrev N__law_pick : List Str := ["pool", "many"]
noncomputable def m__law_pick : Fn := zF <| runF 2 <|
    sq (sif (tb (bi oLt (bi oIx (vr 0) (kn (.int 1))) (ap oLen (acons (vr 0) (anil))))) (sq (setIx (vr 0) (kn (.int 1)) (bi oAdd (bi oIx (vr 0) (kn (.int 1))) (kn (.int 1)))) <|
    ret (bi oMod (ap oInt (acons (bi oIx (vr 0) (bi oSub (bi oIx (vr 0) (kn (.int 1))) (kn (.int 1)))) (anil))) (vr 1))) (nop)) <|
    sq (setIx (vr 0) (kn (.int 0)) (bi oMod (ap oInt (acons (bi oAdd (bi oMulX (bi oIx (vr 0) (kn (.int 0))) (kn (.int 48271))) (kn (.int 12345))) (anil))) (kn (.int 2147483647)))) <|
    ret (bi oMod (ap oInt (acons (bi oFdiv (bi oIx (vr 0) (kn (.int 0))) (kn (.int 8191))) (anil))) (vr 1))
abbrev N__law_name : List Str := ["pool", "taken", "signs", "name", "turn", "words"]
noncomputable def m__law_name : Fn := zF <| runF 6 <|
    sq (sst 2 (kn (.str "abcdefghijklmnopqrstuvwxyz0123456789"))) <|
    sq (sst 3 (bi oIx (vr 2) (cal 2 m__law_pick (acons (vr 0) (acons (kn (.int 26)) (anil)))))) <|
    sq (sfor (range1 (bi oIx (dtup (acons (kn (.int 0)) (acons (kn (.int 1)) (acons (kn (.int 1)) (acons (kn (.int 2)) (acons (kn (.int 3)) (acons (kn (.int 4)) (acons (kn (.int 6)) (acons (kn (.int 7)) (anil)))))))))) (cal 2 m__law_pick (acons (vr 0) (acons (kn (.int 8)) (anil)))))) (.nm 4) (sst 3 (bi oAdd (vr 3) (bi oIx (vr 2) (cal 2 m__law_pick (acons (vr 0) (acons (kn (.int 36)) (anil)))))))) <|
    sq (sif (tb (bi oEq (cal 2 m__law_pick (acons (vr 0) (acons (kn (.int 5)) (anil)))) (kn (.int 0)))) (sq (sst 3 (bi oAdd (vr 3) (kn (.str ".")))) <|
    sfor (range1 (bi oIx (dtup (acons (kn (.int 1)) (acons (kn (.int 1)) (acons (kn (.int 2)) (acons (kn (.int 3)) (acons (kn (.int 5)) (acons (kn (.int 8)) (anil)))))))) (cal 2 m__law_pick (acons (vr 0) (acons (kn (.int 6)) (anil)))))) (.nm 4) (sst 3 (bi oAdd (vr 3) (bi oIx (vr 2) (cal 2 m__law_pick (acons (vr 0) (acons (kn (.int 36)) (anil)))))))) (nop)) <|
    sq (sst 5 (dtup (acons (kn (.str "node")) (acons (kn (.str "link")) (acons (kn (.str "monitor")) (acons (kn (.str "given")) (acons (kn (.str "read")) (acons (kn (.str "row")) (acons (kn (.str "bundle")) (acons (kn (.str "free")) (acons (kn (.str "told")) (acons (kn (.str "tree")) (acons (kn (.str "o")) (acons (kn (.str "w")) (anil))))))))))))))) <|
    sq (sfor (range1 (kn (.int 200))) (.nm 4) (sq (sif (tand (tb (bi oNotIn (vr 3) (vr 1))) (tb (bi oNotIn (vr 3) (vr 5)))) (brk) (nop)) <|
    sst 3 (bi oAdd (bi oAdd (kn (.str "v")) (ap oStr (acons (vr 4) (anil)))) (kn (.str "ba"))))) <|
    ret (vr 3)
abbrev N__law_dress : List Str := ["pool", "shape", "nodes", "turn", "names", "name", "links", "place", "one", "two", "watch", "given", "at"]
noncomputable def m__law_dress : Fn := runF 13 <|
    sq (sst 2 (dlst (anil))) <|
    sq (sfor (range1 (bi oIx (vr 1) (kn (.int 0)))) (.nm 3) (drp (app (vr 2) (cal 2 m__law_name (acons (vr 0) (acons (vr 2) (anil))))))) <|
    sq (sst 4 (dlst (anil))) <|
    sq (sfor (range1 (ap oLen (acons (bi oIx (vr 1) (kn (.int 1))) (anil)))) (.nm 3) (sq (sst 5 (bi oIx (vr 2) (cal 2 m__law_pick (acons (vr 0) (acons (ap oLen (acons (vr 2) (anil))) (anil)))))) <|
    sq (sif (tor (tb (bi oGt (cal 2 m__law_pick (acons (vr 0) (acons (kn (.int 6)) (anil)))) (kn (.int 0)))) (tb (bi oIn (vr 5) (vr 4)))) (sst 5 (cal 2 m__law_name (acons (vr 0) (acons (vr 4) (anil))))) (nop)) <|
    drp (app (vr 4) (vr 5)))) <|
    sq (sst 6 (dlst (anil))) <|
    sq (sfor (range1 (ap oLen (acons (vr 4) (anil)))) (.nm 7) (sq (sst 8 (bi oIx (vr 2) (bi oIx (bi oIx (bi oIx (vr 1) (kn (.int 1))) (vr 7)) (kn (.int 0))))) <|
    sq (sst 9 (bi oIx (vr 2) (bi oIx (bi oIx (bi oIx (vr 1) (kn (.int 1))) (vr 7)) (kn (.int 1))))) <|
    drp (app (vr 6) (dtup (acons (bi oIx (vr 4) (vr 7)) (acons (ap oMin2 (acons (vr 8) (acons (vr 9) (anil)))) (acons (ap oMax2 (acons (vr 8) (acons (vr 9) (anil)))) (anil)))))))) <|
    sq (sst 10 (ap oTuple (acons (fz (ap oSorted (acons (fz (lc (iter (bi oIx (vr 1) (kn (.int 2)))) (.nm 12) (yes) (bi oIx (vr 2) (vr 12)) [12])) (anil)))) (anil)))) <|
    sq (sst 11 (ap oTuple (acons (fz (ap oSorted (acons (fz (lc (iter (bi oIx (vr 1) (kn (.int 3)))) (.nm 12) (yes) (bi oIx (vr 4) (vr 12)) [12])) (anil)))) (anil)))) <|
    ret (dlst (acons (dtup (acons (ap oTuple (acons (fz (ap oSorted (acons (vr 2) (anil)))) (anil))) (acons (ap oTuple (acons (fz (ap oSorted (acons (vr 6) (anil)))) (anil))) (acons (vr 10) (acons (vr 11) (anil)))))) (acons (vr 2) (acons (vr 4) (anil)))))
abbrev N__law_same : List Str := ["told", "due", "todo", "one", "two", "place"]
noncomputable def m__law_same : Fn := zF <| runF 6 <|
    sq (sst 2 (dlst (acons (dtup (acons (vr 0) (acons (vr 1) (anil)))) (anil)))) <|
    sq (whl (tru (vr 2)) (sq (asg (.tp [3, 4]) (pop0 (vr 2))) <|
    sif (tb (bi oIs (vr 4) (kn .non))) (sif (tb (bi oIsNot (vr 3) (kn .non))) (ret (kn (.bl false))) (nop)) (sif (tru (ap oIsi (acons (vr 4) (acons (kn (.ty "bool")) (anil))))) (sif (tor (tnot (tru (ap oIsi (acons (vr 3) (acons (kn (.ty "bool")) (anil)))))) (tnot (tb (bi oEq (vr 3) (vr 4))))) (ret (kn (.bl false))) (nop)) (sif (tru (ap oIsi (acons (vr 4) (acons (kn (.ty "int")) (anil))))) (sif (tor (tru (ap oIsi (acons (vr 3) (acons (kn (.ty "bool")) (anil))))) (tor (tnot (tru (ap oIsi (acons (vr 3) (acons (kn (.ty "int")) (anil)))))) (tnot (tb (bi oEq (vr 3) (vr 4)))))) (ret (kn (.bl false))) (nop)) (sif (tru (ap oIsi (acons (vr 4) (acons (kn (.ty "str")) (anil))))) (sif (tor (tnot (tru (ap oIsi (acons (vr 3) (acons (kn (.ty "str")) (anil)))))) (tnot (tb (bi oEq (vr 3) (vr 4))))) (ret (kn (.bl false))) (nop)) (sif (tru (ap oIsi (acons (vr 4) (acons (kn (.ty "tuple")) (anil))))) (sq (sif (tor (tnot (tru (ap oIsi (acons (vr 3) (acons (kn (.ty "tuple")) (anil)))))) (tb (bi oNe (ap oLen (acons (vr 3) (anil))) (ap oLen (acons (vr 4) (anil)))))) (ret (kn (.bl false))) (nop)) <|
    sfor (range1 (ap oLen (acons (vr 4) (anil)))) (.nm 5) (drp (app (vr 2) (dtup (acons (bi oIx (vr 3) (vr 5)) (acons (bi oIx (vr 4) (vr 5)) (anil))))))) (sif (tru (ap oIsi (acons (vr 4) (acons (kn (.ty "list")) (anil))))) (sq (sif (tor (tnot (tru (ap oIsi (acons (vr 3) (acons (kn (.ty "list")) (anil)))))) (tb (bi oNe (ap oLen (acons (vr 3) (anil))) (ap oLen (acons (vr 4) (anil)))))) (ret (kn (.bl false))) (nop)) <|
    sfor (range1 (ap oLen (acons (vr 4) (anil)))) (.nm 5) (drp (app (vr 2) (dtup (acons (bi oIx (vr 3) (vr 5)) (acons (bi oIx (vr 4) (vr 5)) (anil))))))) (ret (kn (.bl false))))))))) 100000) <|
    ret (kn (.bl true))
abbrev N_own_links : List Str := ["net", "nodes", "name", "one", "other"]
noncomputable def m_own_links : Fn := zF <| runF 5 <|
    ret (ap oTuple (acons (fz (lc (iter (bi oIx (vr 0) (kn (.int 1)))) (.tp [2, 3, 4]) (tor (tb (bi oIn (vr 3) (vr 1))) (tb (bi oIn (vr 4) (vr 1)))) (vr 2) [2, 3, 4])) (anil)))
abbrev N_lots_of : List Str := ["near", "gone", "seen", "lots", "start", "lot", "at", "around", "other", "_"]
noncomputable def m_lots_of : Fn := zF <| runF 10 <|
    sq (sst 2 (ap oList (acons (vr 1) (anil)))) <|
    sq (sst 3 (dlst (anil))) <|
    sq (sfor (range1 (ap oLen (acons (vr 0) (anil)))) (.nm 4) (sq (sif (tru (bi oIx (vr 2) (vr 4))) (cnt) (nop)) <|
    sq (setIx (vr 2) (vr 4) (kn (.bl true))) <|
    sq (sst 5 (dlst (acons (vr 4) (anil)))) <|
    sq (sst 6 (kn (.int 0))) <|
    sq (whl (tb (bi oLt (vr 6) (ap oLen (acons (vr 5) (anil))))) (sq (sst 7 (bi oIx (vr 0) (bi oIx (vr 5) (vr 6)))) <|
    sq (sfor (iter (vr 7)) (.tp [8, 9]) (sif (tnot (tru (bi oIx (vr 2) (vr 8)))) (sq (setIx (vr 2) (vr 8) (kn (.bl true))) <|
    drp (app (vr 5) (vr 8))) (nop))) <|
    sst 6 (bi oAddA (vr 6) (kn (.int 1)))) 100000) <|
    drp (app (vr 3) (fz (ap oSorted (acons (vr 5) (anil))))))) <|
    ret (vr 3)
abbrev N_places_of : List Str := ["net", "nodes", "names", "at", "node", "link"]
noncomputable def m_places_of : Fn := runF 6 <|
    sq (sst 1 (dcp (enm (bi oIx (vr 0) (kn (.int 0)))) (.tp [3, 4]) (yes) (vr 4) (vr 3) [3, 4])) <|
    sq (sst 2 (dcp (enm (bi oIx (vr 0) (kn (.int 1)))) (.tp [3, 5]) (yes) (bi oIx (vr 5) (kn (.int 0))) (vr 3) [3, 5])) <|
    ret (dtup (acons (vr 1) (acons (vr 2) (anil))))
abbrev N_near_lists : List Str := ["net", "spots", "near", "place", "link", "one", "other", "_"]
noncomputable def m_near_lists : Fn := runF 8 <|
    sq (sst 1 (bi oIx (cal 1 m_places_of (acons (vr 0) (anil))) (kn (.int 0)))) <|
    sq (sst 2 (lc (iter (bi oIx (vr 0) (kn (.int 0)))) (.nm 7) (yes) (dlst (anil)) [7])) <|
    sq (sfor (enm (bi oIx (vr 0) (kn (.int 1)))) (.tp [3, 4]) (sq (sst 5 (bi oIxX (vr 1) (bi oIx (vr 4) (kn (.int 1))))) <|
    sq (sst 6 (bi oIxX (vr 1) (bi oIx (vr 4) (kn (.int 2))))) <|
    sq (drp (app (bi oIx (vr 2) (vr 5)) (dtup (acons (vr 6) (acons (vr 3) (anil)))))) <|
    drp (app (bi oIx (vr 2) (vr 6)) (dtup (acons (vr 5) (acons (vr 3) (anil))))))) <|
    ret (vr 2)
abbrev N_node_marks : List Str := ["net", "nodes", "spots", "marks", "node"]
noncomputable def m_node_marks : Fn := zF <| runF 5 <|
    sq (sst 2 (bi oIx (cal 1 m_places_of (acons (vr 0) (anil))) (kn (.int 0)))) <|
    sq (sst 3 (bi oMulX (dlst (acons (kn (.bl false)) (anil))) (ap oLen (acons (bi oIx (vr 0) (kn (.int 0))) (anil))))) <|
    sq (sfor (iter (vr 1)) (.nm 4) (setIx (vr 3) (bi oIxX (vr 2) (vr 4)) (kn (.bl true)))) <|
    ret (vr 3)
abbrev N_named_lot : List Str := ["net", "lot", "place"]
noncomputable def m_named_lot : Fn := zF <| runF 3 <|
    ret (ap oTuple (acons (fz (lc (iter (vr 1)) (.nm 2) (yes) (bi oIx (bi oIx (vr 0) (kn (.int 0))) (vr 2)) [2])) (anil)))
abbrev N_lots_without : List Str := ["net", "nodes", "lots", "lot"]
noncomputable def m_lots_without : Fn := zF <| runF 4 <|
    sq (sst 2 (cal 2 m_lots_of (acons (cal 1 m_near_lists (acons (vr 0) (anil))) (acons (cal 2 m_node_marks (acons (vr 0) (acons (vr 1) (anil)))) (anil))))) <|
    ret (ap oTuple (acons (fz (lc (iter (vr 2)) (.nm 3) (yes) (cal 2 m_named_lot (acons (vr 0) (acons (vr 3) (anil)))) [3])) (anil)))
abbrev N_hangs_together : List Str := ["net", "nodes", "gone", "mark"]
noncomputable def m_hangs_together : Fn := zF <| runF 4 <|
    sq (sst 2 (fz (lc (iter (cal 2 m_node_marks (acons (vr 0) (acons (vr 1) (anil))))) (.nm 3) (yes) (enot (vr 3)) [3]))) <|
    ret (bi oEq (ap oLen (acons (cal 2 m_lots_of (acons (cal 1 m_near_lists (acons (vr 0) (anil))) (acons (vr 2) (anil)))) (anil))) (kn (.int 1)))
abbrev N_gates_of : List Str := ["net", "nodes", "found", "_", "one", "other"]
noncomputable def m_gates_of : Fn := zF <| runF 6 <|
    sq (sst 2 (dlst (anil))) <|
    sq (sfor (iter (bi oIx (vr 0) (kn (.int 1)))) (.tp [3, 4, 5]) (sq (sif (tand (tb (bi oIn (vr 4) (vr 1))) (tb (bi oNotIn (vr 5) (vr 1)))) (drp (app (vr 2) (vr 5))) (nop)) <|
    sif (tand (tb (bi oIn (vr 5) (vr 1))) (tb (bi oNotIn (vr 4) (vr 1)))) (drp (app (vr 2) (vr 4))) (nop))) <|
    ret (ap oTuple (acons (fz (un oSSet (vr 2))) (anil)))
abbrev N__law_told : List Str := ["net", "lot", "turn", "owns"]
noncomputable def m__law_told : Fn := zF <| runF 4 <|
    sq (sif (tb (bi oEq (bi oMod (ap oInt (acons (vr 2) (anil))) (kn (.int 2))) (kn (.int 0)))) (ret (dtup (acons (cal 2 m_lots_without (acons (vr 0) (acons (vr 1) (anil)))) (acons (cal 2 m_hangs_together (acons (vr 0) (acons (vr 1) (anil)))) (acons (cal 2 m_gates_of (acons (vr 0) (acons (vr 1) (anil)))) (acons (cal 2 m_own_links (acons (vr 0) (acons (vr 1) (anil)))) (anil))))))) (nop)) <|
    sq (sst 3 (calK 2 [1, 0] m_own_links (acons (vr 1) (acons (vr 0) (anil))))) <|
    ret (dtup (acons (calK 2 [1, 0] m_lots_without (acons (vr 1) (acons (vr 0) (anil)))) (acons (calK 2 [1, 0] m_hangs_together (acons (vr 1) (acons (vr 0) (anil)))) (acons (calK 2 [1, 0] m_gates_of (acons (vr 1) (acons (vr 0) (anil)))) (acons (vr 3) (anil))))))
abbrev N__law_near : List Str := ["nodes", "links", "near", "node", "link"]
noncomputable def m__law_near : Fn := runF 5 <|
    sq (sst 2 (dct0)) <|
    sq (sfor (iter (vr 0)) (.nm 3) (setX (vr 2) (vr 3) (dlst (anil)))) <|
    sq (sfor (iter (vr 1)) (.nm 4) (sif (tand (tb (bi oInX (bi oIx (vr 4) (kn (.int 1))) (vr 2))) (tb (bi oInX (bi oIx (vr 4) (kn (.int 2))) (vr 2)))) (sq (drp (app (bi oIxX (vr 2) (bi oIx (vr 4) (kn (.int 1)))) (bi oIx (vr 4) (kn (.int 2))))) <|
    drp (app (bi oIxX (vr 2) (bi oIx (vr 4) (kn (.int 2)))) (bi oIx (vr 4) (kn (.int 1))))) (nop))) <|
    ret (vr 2)
abbrev N__law_gates : List Str := ["near", "lot", "inside", "node", "found", "other"]
noncomputable def m__law_gates : Fn := zF <| runF 6 <|
    sq (sst 2 (dct0)) <|
    sq (sfor (iter (vr 1)) (.nm 3) (setX (vr 2) (vr 3) (kn (.bl true)))) <|
    sq (sst 4 (dlst (anil))) <|
    sq (sfor (iter (vr 1)) (.nm 3) (sfor (iter (bi oIxX (vr 0) (vr 3))) (.nm 5) (sif (tand (tb (bi oNotInX (vr 5) (vr 2))) (tb (bi oNotIn (vr 5) (vr 4)))) (drp (app (vr 4) (vr 5))) (nop)))) <|
    ret (ap oTuple (acons (fz (ap oSorted (acons (vr 4) (anil)))) (anil)))
abbrev N__law_owns : List Str := ["net", "lot", "link"]
noncomputable def m__law_owns : Fn := zF <| runF 3 <|
    ret (ap oTuple (acons (fz (lc (iter (bi oIx (vr 0) (kn (.int 1)))) (.nm 2) (tor (tb (bi oIn (bi oIx (vr 2) (kn (.int 1))) (vr 1))) (tb (bi oIn (bi oIx (vr 2) (kn (.int 2))) (vr 1)))) (bi oIx (vr 2) (kn (.int 0))) [2])) (anil)))
abbrev N__law_lots : List Str := ["near", "out", "seen", "lots", "first", "lot", "place", "around", "node"]
noncomputable def m__law_lots : Fn := zF <| runF 9 <|
    sq (sst 2 (dct0)) <|
    sq (sst 3 (dlst (anil))) <|
    sq (sfor (iter (fz (ap oSorted (acons (fz (ap oListX (acons (vr 0) (anil)))) (anil))))) (.nm 4) (sq (sif (tor (tb (bi oInX (vr 4) (vr 2))) (tb (bi oIn (vr 4) (vr 1)))) (cnt) (nop)) <|
    sq (sst 5 (dlst (acons (vr 4) (anil)))) <|
    sq (setX (vr 2) (vr 4) (kn (.bl true))) <|
    sq (sst 6 (kn (.int 0))) <|
    sq (whl (tb (bi oLt (vr 6) (ap oLen (acons (vr 5) (anil))))) (sq (sst 7 (bi oIxX (vr 0) (bi oIx (vr 5) (vr 6)))) <|
    sq (sfor (iter (vr 7)) (.nm 8) (sif (tand (tb (bi oNotInX (vr 8) (vr 2))) (tb (bi oNotIn (vr 8) (vr 1)))) (sq (setX (vr 2) (vr 8) (kn (.bl true))) <|
    drp (app (vr 5) (vr 8))) (nop))) <|
    sst 6 (bi oAdd (vr 6) (kn (.int 1)))) 100000) <|
    drp (app (vr 3) (ap oTuple (acons (fz (ap oSorted (acons (vr 5) (anil)))) (anil)))))) <|
    ret (vr 3)
abbrev N__law_due : List Str := ["net", "lot", "near", "rest", "one", "node"]
noncomputable def m__law_due : Fn := zF <| runF 6 <|
    sq (sst 2 (cal 2 m__law_near (acons (bi oIx (vr 0) (kn (.int 0))) (acons (bi oIx (vr 0) (kn (.int 1))) (anil))))) <|
    sq (sst 3 (ap oTuple (acons (fz (lc (iter (bi oIx (vr 0) (kn (.int 0)))) (.nm 5) (tb (bi oNotIn (vr 5) (vr 1))) (vr 5) [5])) (anil)))) <|
    sq (sst 4 (bi oEq (ap oLen (acons (cal 2 m__law_lots (acons (vr 2) (acons (vr 3) (anil)))) (anil))) (kn (.int 1)))) <|
    ret (dtup (acons (ap oTuple (acons (cal 2 m__law_lots (acons (vr 2) (acons (vr 1) (anil)))) (anil))) (acons (vr 4) (acons (cal 2 m__law_gates (acons (vr 2) (acons (vr 1) (anil)))) (acons (cal 2 m__law_owns (acons (vr 0) (acons (vr 1) (anil)))) (anil))))))
abbrev N__law_row : List Str := ["pool", "many", "made", "dressed", "net", "names", "lots", "place"]
noncomputable def m__law_row : Fn := zF <| runF 8 <|
    sq (sst 1 (bi oAdd (kn (.int 1)) (cal 2 m__law_pick (acons (vr 0) (acons (kn (.int 4)) (anil)))))) <|
    sq (sst 2 (cal 2 m__law_base (acons (kn (.int 0)) (acons (vr 1) (anil))))) <|
    sq (sst 3 (cal 2 m__law_dress (acons (vr 0) (acons (fz (dlst (acons (bi oIx (vr 2) (kn (.int 0))) (acons (bi oIx (vr 2) (kn (.int 1))) (acons (fz (dlst (acons (kn (.int 0)) (acons (kn (.int 1)) (anil))))) (acons (fz (dlst (anil))) (anil))))))) (anil))))) <|
    sq (sst 4 (bi oIx (vr 3) (kn (.int 0)))) <|
    sq (sst 5 (bi oIx (vr 3) (kn (.int 1)))) <|
    sq (sst 6 (fz (dlst (acons (bi oIx (vr 4) (kn (.int 0))) (acons (bi oIx (vr 4) (kn (.int 2))) (acons (dtup (acons (bi oIx (vr 5) (bi oAdd (kn (.int 2)) (cal 2 m__law_pick (acons (vr 0) (acons (vr 1) (anil)))))) (anil))) (acons (ap oTuple (acons (fz (ap oSorted (acons (sl (vr 5) (osome (kn (.int 1))) (onone)) (anil)))) (anil))) (acons (dtup (anil)) (anil))))))))) <|
    sq (sfor (range1 (ap oLen (acons (vr 6) (anil)))) (.nm 7) (sif (tnot (tru (cal 2 m__law_same (acons (cal 3 m__law_told (acons (vr 4) (acons (bi oIx (vr 6) (vr 7)) (acons (vr 7) (anil))))) (acons (cal 2 m__law_due (acons (vr 4) (acons (bi oIx (vr 6) (vr 7)) (anil)))) (anil)))))) (ret (kn (.bl false))) (nop))) <|
    ret (kn (.bl true))
abbrev N__law_grown : List Str := ["pool", "kind", "size", "turns", "most", "wires", "made", "turn", "what", "ends", "one", "two", "at", "more"]
noncomputable def m__law_grown : Fn := runF 14 <|
    sq (sst 6 (cal 2 m__law_base (acons (vr 1) (acons (vr 2) (anil))))) <|
    sq (sfor (range1 (vr 2)) (.nm 7) (sq (sif (tand (tb (bi oLe (bi oIx (vr 6) (kn (.int 0))) (vr 4))) (tb (bi oLe (ap oLen (acons (bi oIx (vr 6) (kn (.int 1))) (anil))) (vr 5)))) (brk) (nop)) <|
    sst 6 (cal 2 m__law_base (acons (vr 1) (acons (bi oSub (bi oSub (vr 2) (kn (.int 1))) (vr 7)) (anil)))))) <|
    sq (sfor (range1 (vr 3)) (.nm 7) (sq (sst 8 (cal 2 m__law_pick (acons (vr 0) (acons (kn (.int 9)) (anil))))) <|
    sq (sst 9 (bi oIx (vr 6) (kn (.int 1)))) <|
    sq (sst 10 (cal 2 m__law_pick (acons (vr 0) (acons (bi oIx (vr 6) (kn (.int 0))) (anil))))) <|
    sq (sst 11 (cal 2 m__law_pick (acons (vr 0) (acons (bi oIx (vr 6) (kn (.int 0))) (anil))))) <|
    sq (sst 12 (cal 2 m__law_pick (acons (vr 0) (acons (bi oAdd (ap oLen (acons (vr 9) (anil))) (kn (.int 1))) (anil))))) <|
    sq (sif (tand (tb (bi oLt (vr 8) (kn (.int 7)))) (tor (tb (bi oGe (ap oLen (acons (vr 9) (anil))) (vr 5))) (tb (bi oGe (vr 12) (ap oLen (acons (vr 9) (anil))))))) (cnt) (nop)) <|
    sq (sif (tand (tb (bi oIn (vr 8) (dtup (acons (kn (.int 1)) (acons (kn (.int 2)) (acons (kn (.int 4)) (acons (kn (.int 7)) (anil)))))))) (tb (bi oGe (bi oIx (vr 6) (kn (.int 0))) (vr 4)))) (cnt) (nop)) <|
    sif (tb (bi oIn (vr 8) (dtup (acons (kn (.int 0)) (acons (kn (.int 3)) (anil)))))) (sst 6 (fz (dlst (acons (bi oIx (vr 6) (kn (.int 0))) (acons (fz (bi oAddX (vr 9) (dlst (acons (bi oIx (vr 9) (vr 12)) (anil))))) (anil)))))) (sif (tb (bi oEq (vr 8) (kn (.int 1)))) (sst 6 (fz (dlst (acons (bi oAdd (bi oIx (vr 6) (kn (.int 0))) (kn (.int 1))) (acons (fz (bi oAddX (fz (bi oAddX (sl (vr 9) (onone) (osome (vr 12))) (dlst (acons (dtup (acons (bi oIx (bi oIx (vr 9) (vr 12)) (kn (.int 0))) (acons (bi oIx (vr 6) (kn (.int 0))) (anil)))) (acons (dtup (acons (bi oIx (vr 6) (kn (.int 0))) (acons (bi oIx (bi oIx (vr 9) (vr 12)) (kn (.int 1))) (anil)))) (anil)))))) (sl (vr 9) (osome (bi oAdd (vr 12) (kn (.int 1)))) (onone)))) (anil)))))) (sif (tand (tb (bi oEq (vr 8) (kn (.int 2)))) (tb (bi oLe (bi oAdd (ap oLen (acons (vr 9) (anil))) (kn (.int 2))) (vr 5)))) (sst 6 (fz (dlst (acons (bi oAdd (bi oIx (vr 6) (kn (.int 0))) (kn (.int 1))) (acons (fz (bi oAddX (vr 9) (dlst (acons (dtup (acons (bi oIx (bi oIx (vr 9) (vr 12)) (kn (.int 0))) (acons (bi oIx (vr 6) (kn (.int 0))) (anil)))) (acons (dtup (acons (bi oIx (vr 6) (kn (.int 0))) (acons (bi oIx (bi oIx (vr 9) (vr 12)) (kn (.int 1))) (anil)))) (anil)))))) (anil)))))) (sif (tb (bi oEq (vr 8) (kn (.int 4)))) (sst 6 (fz (dlst (acons (bi oAdd (bi oIx (vr 6) (kn (.int 0))) (kn (.int 1))) (acons (fz (bi oAddX (vr 9) (dlst (acons (dtup (acons (vr 10) (acons (bi oIx (vr 6) (kn (.int 0))) (anil)))) (anil))))) (anil)))))) (sif (tand (tb (bi oIn (vr 8) (dtup (acons (kn (.int 5)) (acons (kn (.int 6)) (anil)))))) (tb (bi oNe (vr 10) (vr 11)))) (sst 6 (fz (dlst (acons (bi oIx (vr 6) (kn (.int 0))) (acons (fz (bi oAddX (vr 9) (dlst (acons (dtup (acons (vr 10) (acons (vr 11) (anil)))) (anil))))) (anil)))))) (sif (tb (bi oEq (vr 8) (kn (.int 7)))) (sst 6 (fz (dlst (acons (bi oAdd (bi oIx (vr 6) (kn (.int 0))) (kn (.int 1))) (acons (vr 9) (anil)))))) (sif (tand (tb (bi oEq (vr 8) (kn (.int 8)))) (tand (tb (bi oLt (vr 12) (ap oLen (acons (vr 9) (anil))))) (tand (tb (bi oLe (bi oAdd (bi oIx (vr 6) (kn (.int 0))) (kn (.int 2))) (vr 4))) (tb (bi oLe (bi oAdd (ap oLen (acons (vr 9) (anil))) (kn (.int 4))) (vr 5)))))) (sq (sst 13 (fz (dlst (acons (dtup (acons (bi oIx (bi oIx (vr 9) (vr 12)) (kn (.int 0))) (acons (bi oIx (vr 6) (kn (.int 0))) (anil)))) (acons (dtup (acons (bi oIx (bi oIx (vr 9) (vr 12)) (kn (.int 0))) (acons (bi oAdd (bi oIx (vr 6) (kn (.int 0))) (kn (.int 1))) (anil)))) (acons (dtup (acons (bi oIx (vr 6) (kn (.int 0))) (acons (bi oAdd (bi oIx (vr 6) (kn (.int 0))) (kn (.int 1))) (anil)))) (anil))))))) <|
    sq (sst 13 (fz (bi oAddX (vr 13) (dlst (acons (dtup (acons (bi oIx (vr 6) (kn (.int 0))) (acons (bi oIx (bi oIx (vr 9) (vr 12)) (kn (.int 1))) (anil)))) (acons (dtup (acons (bi oAdd (bi oIx (vr 6) (kn (.int 0))) (kn (.int 1))) (acons (bi oIx (bi oIx (vr 9) (vr 12)) (kn (.int 1))) (anil)))) (anil))))))) <|
    sst 6 (fz (dlst (acons (bi oAdd (bi oIx (vr 6) (kn (.int 0))) (kn (.int 2))) (acons (fz (bi oAddX (fz (bi oAddX (sl (vr 9) (onone) (osome (vr 12))) (vr 13))) (sl (vr 9) (osome (bi oAdd (vr 12) (kn (.int 1)))) (onone)))) (anil)))))) (nop))))))))) <|
    ret (vr 6)
abbrev N__law_watch : List Str := ["pool", "many", "how", "at"]
noncomputable def m__law_watch : Fn := zF <| runF 4 <|
    sq (sst 2 (cal 2 m__law_pick (acons (vr 0) (acons (kn (.int 9)) (anil))))) <|
    sq (sif (tb (bi oLt (vr 2) (kn (.int 4)))) (ret (fz (dlst (acons (kn (.int 0)) (acons (kn (.int 1)) (anil)))))) (nop)) <|
    sq (sif (tb (bi oEq (vr 2) (kn (.int 4)))) (ret (fz (dlst (anil)))) (nop)) <|
    sq (sif (tb (bi oEq (vr 2) (kn (.int 5)))) (ret (fz (dlst (acons (cal 2 m__law_pick (acons (vr 0) (acons (vr 1) (anil)))) (anil))))) (nop)) <|
    sq (sif (tb (bi oEq (vr 2) (kn (.int 6)))) (ret (fz (un oSSet (fz (dlst (acons (kn (.int 0)) (acons (kn (.int 1)) (acons (cal 2 m__law_pick (acons (vr 0) (acons (vr 1) (anil)))) (anil))))))))) (nop)) <|
    ret (fz (lc (range1 (vr 1)) (.nm 3) (tb (bi oEq (cal 2 m__law_pick (acons (vr 0) (acons (kn (.int 3)) (anil)))) (kn (.int 0)))) (vr 3) [3]))
abbrev N__law_drawn : List Str := ["pool", "most", "wires", "kind", "many", "ends", "turn", "one", "two", "made", "watch", "given", "at"]
noncomputable def m__law_drawn : Fn := runF 13 <|
    sq (sst 3 (cal 2 m__law_pick (acons (vr 0) (acons (kn (.int 11)) (anil))))) <|
    sq (sif (tb (bi oEq (vr 3) (kn (.int 10)))) (sq (sst 4 (cal 2 m__law_pick (acons (vr 0) (acons (bi oAdd (vr 1) (kn (.int 1))) (anil))))) <|
    sq (sst 5 (dlst (anil))) <|
    sq (sfor (range1 (cal 2 m__law_pick (acons (vr 0) (acons (bi oAdd (vr 2) (kn (.int 1))) (anil))))) (.nm 6) (sq (sst 7 (cal 2 m__law_pick (acons (vr 0) (acons (ap oMax2 (acons (vr 4) (acons (kn (.int 1)) (anil)))) (anil))))) <|
    sq (sst 8 (cal 2 m__law_pick (acons (vr 0) (acons (ap oMax2 (acons (vr 4) (acons (kn (.int 1)) (anil)))) (anil))))) <|
    sif (tb (bi oNe (vr 7) (vr 8))) (drp (app (vr 5) (dtup (acons (vr 7) (acons (vr 8) (anil)))))) (nop))) <|
    sst 9 (fz (dlst (acons (vr 4) (acons (vr 5) (anil)))))) (sst 9 (cal 6 m__law_grown (acons (vr 0) (acons (vr 3) (acons (cal 2 m__law_pick (acons (vr 0) (acons (bi oSub (vr 1) (kn (.int 1))) (anil)))) (acons (cal 2 m__law_pick (acons (vr 0) (acons (kn (.int 6)) (anil)))) (acons (vr 1) (acons (vr 2) (anil)))))))))) <|
    sq (sst 10 (fz (dlst (anil)))) <|
    sq (sif (tb (bi oGt (bi oIx (vr 9) (kn (.int 0))) (kn (.int 1)))) (sst 10 (cal 2 m__law_watch (acons (vr 0) (acons (bi oIx (vr 9) (kn (.int 0))) (anil))))) (nop)) <|
    sq (sst 11 (fz (dlst (anil)))) <|
    sq (sif (tb (bi oEq (cal 2 m__law_pick (acons (vr 0) (acons (kn (.int 3)) (anil)))) (kn (.int 0)))) (sst 11 (fz (lc (range1 (ap oLen (acons (bi oIx (vr 9) (kn (.int 1))) (anil)))) (.nm 12) (tb (bi oEq (cal 2 m__law_pick (acons (vr 0) (acons (kn (.int 4)) (anil)))) (kn (.int 0)))) (vr 12) [12]))) (nop)) <|
    ret (cal 2 m__law_dress (acons (vr 0) (acons (fz (dlst (acons (bi oIx (vr 9) (kn (.int 0))) (acons (bi oIx (vr 9) (kn (.int 1))) (acons (vr 10) (acons (vr 11) (anil))))))) (anil))))
abbrev N__law_some : List Str := ["pool", "net", "nodes", "how", "first", "around", "share", "node"]
noncomputable def m__law_some : Fn := zF <| runF 8 <|
    sq (sst 2 (bi oIx (vr 1) (kn (.int 0)))) <|
    sq (sst 3 (cal 2 m__law_pick (acons (vr 0) (acons (kn (.int 8)) (anil))))) <|
    sq (sif (tor (tb (bi oEq (vr 3) (kn (.int 0)))) (tb (bi oEq (ap oLen (acons (vr 2) (anil))) (kn (.int 0))))) (ret (dtup (anil))) (nop)) <|
    sq (sif (tb (bi oEq (vr 3) (kn (.int 1)))) (ret (vr 2)) (nop)) <|
    sq (sif (tb (bi oEq (vr 3) (kn (.int 2)))) (ret (bi oIx (vr 1) (kn (.int 2)))) (nop)) <|
    sq (sst 4 (bi oIx (vr 2) (cal 2 m__law_pick (acons (vr 0) (acons (ap oLen (acons (vr 2) (anil))) (anil)))))) <|
    sq (sif (tb (bi oEq (vr 3) (kn (.int 3)))) (ret (dtup (acons (vr 4) (anil)))) (nop)) <|
    sq (sif (tb (bi oLt (vr 3) (kn (.int 6)))) (sq (sst 5 (bi oIxX (cal 2 m__law_near (acons (vr 2) (acons (bi oIx (vr 1) (kn (.int 1))) (anil)))) (vr 4))) <|
    ret (ap oTuple (acons (fz (un oSSet (fz (bi oAddX (dlst (acons (vr 4) (anil))) (lc (iter (vr 5)) (.nm 7) (tor (tb (bi oEq (vr 3) (kn (.int 4)))) (tb (bi oEq (cal 2 m__law_pick (acons (vr 0) (acons (kn (.int 2)) (anil)))) (kn (.int 0))))) (vr 7) [7]))))) (anil)))) (nop)) <|
    sq (sst 6 (cal 2 m__law_pick (acons (vr 0) (acons (kn (.int 3)) (anil))))) <|
    ret (ap oTuple (acons (fz (lc (iter (vr 2)) (.nm 7) (tb (bi oGt (cal 2 m__law_pick (acons (vr 0) (acons (kn (.int 4)) (anil)))) (vr 6))) (vr 7) [7])) (anil)))
abbrev N__law_wide : List Str := ["pool", "made", "ends", "turn", "given", "at"]
noncomputable def m__law_wide : Fn := runF 6 <|
    sq (sst 1 (cal 6 m__law_grown (acons (vr 0) (acons (cal 2 m__law_pick (acons (vr 0) (acons (kn (.int 10)) (anil)))) (acons (kn (.int 27)) (acons (kn (.int 80)) (acons (kn (.int 30)) (acons (kn (.int 60)) (anil))))))))) <|
    sq (sst 2 (bi oIx (vr 1) (kn (.int 1)))) <|
    sq (sfor (range1 (kn (.int 60))) (.nm 3) (sq (sif (tb (bi oGe (ap oLen (acons (vr 2) (anil))) (kn (.int 60)))) (brk) (nop)) <|
    sst 2 (fz (bi oAddX (vr 2) (dlst (acons (bi oIx (vr 2) (cal 2 m__law_pick (acons (vr 0) (acons (ap oLen (acons (vr 2) (anil))) (anil))))) (anil))))))) <|
    sq (sst 4 (fz (lc (range1 (kn (.int 60))) (.nm 5) (tb (bi oEq (cal 2 m__law_pick (acons (vr 0) (acons (kn (.int 9)) (anil)))) (kn (.int 0)))) (vr 5) [5]))) <|
    ret (cal 2 m__law_dress (acons (vr 0) (acons (fz (dlst (acons (bi oIx (vr 1) (kn (.int 0))) (acons (vr 2) (acons (cal 2 m__law_watch (acons (vr 0) (acons (bi oIx (vr 1) (kn (.int 0))) (anil)))) (acons (vr 4) (anil))))))) (anil))))
abbrev N_law : List Str := ["script", "pool", "scenes", "asked", "net", "turn", "lot", "due"]
noncomputable def m_law : Fn := zF <| runF 8 <|
    sq (sst 1 (cal 1 m__law_pool (acons (vr 0) (anil)))) <|
    sq (sst 2 (dlst (acons (bi oIx (cal 3 m__law_drawn (acons (vr 1) (acons (kn (.int 6)) (acons (kn (.int 9)) (anil))))) (kn (.int 0))) (acons (bi oIx (cal 3 m__law_drawn (acons (vr 1) (acons (kn (.int 10)) (acons (kn (.int 16)) (anil))))) (kn (.int 0))) (acons (bi oIx (cal 3 m__law_drawn (acons (vr 1) (acons (kn (.int 6)) (acons (kn (.int 9)) (anil))))) (kn (.int 0))) (acons (bi oIx (cal 3 m__law_drawn (acons (vr 1) (acons (kn (.int 16)) (acons (kn (.int 24)) (anil))))) (kn (.int 0))) (anil))))))) <|
    sq (sif (tb (bi oEq (cal 2 m__law_pick (acons (vr 1) (acons (kn (.int 5)) (anil)))) (kn (.int 0)))) (drp (app (vr 2) (bi oIx (cal 1 m__law_wide (acons (vr 1) (anil))) (kn (.int 0))))) (nop)) <|
    sq (sif (tnot (tru (cal 1 m__law_row (acons (vr 1) (anil))))) (ret (kn (.bl false))) (nop)) <|
    sq (sst 3 (dlst (anil))) <|
    sq (sfor (iter (vr 2)) (.nm 4) (sfor (range1 (kn (.int 4))) (.nm 5) (sq (sst 6 (cal 2 m__law_some (acons (vr 1) (acons (vr 4) (anil))))) <|
    sq (sst 7 (cal 2 m__law_due (acons (vr 4) (acons (vr 6) (anil))))) <|
    sq (drp (app (vr 3) (dtup (acons (vr 4) (acons (vr 6) (acons (vr 7) (anil))))))) <|
    sif (tnot (tru (cal 2 m__law_same (acons (cal 3 m__law_told (acons (vr 4) (acons (vr 6) (acons (vr 5) (anil))))) (acons (vr 7) (anil)))))) (ret (kn (.bl false))) (nop)))) <|
    sq (sfor (iter (fz (sl (vr 3) (onone) (osome (kn (.int 3)))))) (.tp [4, 6, 7]) (sif (tnot (tru (cal 2 m__law_same (acons (cal 3 m__law_told (acons (vr 4) (acons (vr 6) (acons (kn (.int 1)) (anil))))) (acons (vr 7) (anil)))))) (ret (kn (.bl false))) (nop))) <|
    ret (cal 1 m__law_row (acons (vr 1) (anil)))
/-! ### what the top has made -/
structure Pk (K : PySem.W.Frag) (mg : MGl) where
  d__law_pool : DefAt K mg "_law_pool" "_law_pool" st__law_pool ["script"]
  d__law_round : DefAt K mg "_law_round" "_law_round" st__law_round ["many"]
  d__law_base : DefAt K mg "_law_base" "_law_base" st__law_base ["kind", "size"]
  d__law_pick : DefAt K mg "_law_pick" "_law_pick" st__law_pick ["pool", "many"]
  d__law_name : DefAt K mg "_law_name" "_law_name" st__law_name ["pool", "taken"]
  d__law_dress : DefAt K mg "_law_dress" "_law_dress" st__law_dress ["pool", "shape"]
  d__law_same : DefAt K mg "_law_same" "_law_same" st__law_same ["told", "due"]
  d_own_links : DefAt K mg "own_links" "own_links" st_own_links ["net", "nodes"]
  d_lots_of : DefAt K mg "lots_of" "lots_of" st_lots_of ["near", "gone"]
  d_places_of : DefAt K mg "places_of" "places_of" st_places_of ["net"]
  d_near_lists : DefAt K mg "near_lists" "near_lists" st_near_lists ["net"]
  d_node_marks : DefAt K mg "node_marks" "node_marks" st_node_marks ["net", "nodes"]
  d_named_lot : DefAt K mg "named_lot" "named_lot" st_named_lot ["net", "lot"]
  d_lots_without : DefAt K mg "lots_without" "lots_without" st_lots_without ["net", "nodes"]
  d_hangs_together : DefAt K mg "hangs_together" "hangs_together" st_hangs_together ["net", "nodes"]
  d_gates_of : DefAt K mg "gates_of" "gates_of" st_gates_of ["net", "nodes"]
  d__law_told : DefAt K mg "_law_told" "_law_told" st__law_told ["net", "lot", "turn"]
  d__law_near : DefAt K mg "_law_near" "_law_near" st__law_near ["nodes", "links"]
  d__law_gates : DefAt K mg "_law_gates" "_law_gates" st__law_gates ["near", "lot"]
  d__law_owns : DefAt K mg "_law_owns" "_law_owns" st__law_owns ["net", "lot"]
  d__law_lots : DefAt K mg "_law_lots" "_law_lots" st__law_lots ["near", "out"]
  d__law_due : DefAt K mg "_law_due" "_law_due" st__law_due ["net", "lot"]
  d__law_row : DefAt K mg "_law_row" "_law_row" st__law_row ["pool"]
  d__law_grown : DefAt K mg "_law_grown" "_law_grown" st__law_grown ["pool", "kind", "size", "turns", "most", "wires"]
  d__law_watch : DefAt K mg "_law_watch" "_law_watch" st__law_watch ["pool", "many"]
  d__law_drawn : DefAt K mg "_law_drawn" "_law_drawn" st__law_drawn ["pool", "most", "wires"]
  d__law_some : DefAt K mg "_law_some" "_law_some" st__law_some ["pool", "net"]
  d__law_wide : DefAt K mg "_law_wide" "_law_wide" st__law_wide ["pool"]
  d_law : DefAt K mg "law" "law" st_law ["script"]
  z_bool : mg "bool" = none
  z_enumerate : mg "enumerate" = none
  z_int : mg "int" = none
  z_isinstance : mg "isinstance" = none
  z_len : mg "len" = none
  z_list : mg "list" = none
  z_max : mg "max" = none
  z_min : mg "min" = none
  z_range : mg "range" = none
  z_set : mg "set" = none
  z_sorted : mg "sorted" = none
  z_str : mg "str" = none
  z_tuple : mg "tuple" = none
section
variable {P : Program} {w : World} {K : PySem.W.Frag} {mg : MGl} {base : Heap}
theorem kb_gates_of_1_0 (T : Pk K mg) : ∀ (s : Shared) (ws : List Value), ws.length = (["nodes", "net"] : List Str).length → BindsTo s T.d_gates_of.fd ⟨[], (["nodes", "net"] : List Str).zip ws⟩ ((["net", "nodes"] : List Str).zip (([1, 0] : List Nat).map fun i => ws.getD i .none)) := by
  obtain ⟨oc, od, kV, doc, pmm, an, cdv, ct, osl, e, lk, hcd⟩ := T.d_gates_of.fn.ex
  rw [e]
  intro s ws hl
  match ws, hl with
  | [u0, u1], _ => exact .of_eq rfl
theorem kb_hangs_together_1_0 (T : Pk K mg) : ∀ (s : Shared) (ws : List Value), ws.length = (["nodes", "net"] : List Str).length → BindsTo s T.d_hangs_together.fd ⟨[], (["nodes", "net"] : List Str).zip ws⟩ ((["net", "nodes"] : List Str).zip (([1, 0] : List Nat).map fun i => ws.getD i .none)) := by
  obtain ⟨oc, od, kV, doc, pmm, an, cdv, ct, osl, e, lk, hcd⟩ := T.d_hangs_together.fn.ex
  rw [e]
  intro s ws hl
  match ws, hl with
  | [u0, u1], _ => exact .of_eq rfl
theorem kb_lots_without_1_0 (T : Pk K mg) : ∀ (s : Shared) (ws : List Value), ws.length = (["nodes", "net"] : List Str).length → BindsTo s T.d_lots_without.fd ⟨[], (["nodes", "net"] : List Str).zip ws⟩ ((["net", "nodes"] : List Str).zip (([1, 0] : List Nat).map fun i => ws.getD i .none)) := by
  obtain ⟨oc, od, kV, doc, pmm, an, cdv, ct, osl, e, lk, hcd⟩ := T.d_lots_without.fn.ex
  rw [e]
  intro s ws hl
  match ws, hl with
  | [u0, u1], _ => exact .of_eq rfl
theorem kb_own_links_1_0 (T : Pk K mg) : ∀ (s : Shared) (ws : List Value), ws.length = (["nodes", "net"] : List Str).length → BindsTo s T.d_own_links.fd ⟨[], (["nodes", "net"] : List Str).zip ws⟩ ((["net", "nodes"] : List Str).zip (([1, 0] : List Nat).map fun i => ws.getD i .none)) := by
  obtain ⟨oc, od, kV, doc, pmm, an, cdv, ct, osl, e, lk, hcd⟩ := T.d_own_links.fn.ex
  rw [e]
  intro s ws hl
  match ws, hl with
  | [u0, u1], _ => exact .of_eq rfl
theorem sc__law_pool : FnScope N__law_pool ["script"] (defScope st__law_pool) := ⟨rfl, rfl, rfl, by decide +kernel, rfl, by decide +kernel, by decide +kernel⟩
theorem ok__law_pool (T : Pk K mg) : DOk P w K mg base 1 T.d__law_pool.a T.d__law_pool.fd ["script"] m__law_pool := by
  refine okF T.d__law_pool.fn sc__law_pool (by decide) fun cdv A outer s H E hr => ?_
  have hu : (A.deeper (envOfC "_law_pool" (defScope st__law_pool) s.heap.objs.size T.d__law_pool.a cdv)).units + 64 < cLine := by have := hr.un; omega
  have hu5 : (A.deeper (envOfC "_law_pool" (defScope st__law_pool) s.heap.objs.size T.d__law_pool.a cdv)).units + 65 < cLine := by have := hr.un; omega
  have tk := takes_of (X := cxOf (L2.CX P w) P w K mg base N__law_pool "_law_pool" (defScope st__law_pool) T.d__law_pool.a cdv A outer s H E) rfl rfl rfl rfl
  exact ss_cons (ss_set (i := 1) (se_lst (sa_cons (sint) (sa_cons (sint) (sa_nil)))) sc__law_pool.nd) (
    ss_cons (ss_for (passes_of rfl) rfl (si_any (se_sl (sv 0) (so_none) (so_some (sint)))) (sg_name (i := 2) sc__law_pool.nd) (ss_cons (ss_set (i := 3) (se_typ r_intc T.z_int (sa_cons (sv 2) (sa_nil))) sc__law_pool.nd) (
    ss_cons (ss_if (tcmp r_lt (fun _ _ _ _ h => h) (sv 3) (sint) (nomark _)) (ss_one (ss_set (i := 3) (sbin r_sub (fun _ _ _ _ h => h) (sint) (sbin r_mulX (fun _ _ _ _ h => h) (sint) (sv 3))) sc__law_pool.nd)) (ss_nil)) (
    ss_cons (ss_setIx (sbin r_mod (fun _ _ _ _ h => h) (se_typ r_intc T.z_int (sa_cons (sbin r_add (fun _ _ _ _ h => h) (sbin r_add (fun _ _ _ _ h => h) (sbin r_mulX (fun _ _ _ _ h => h) (se_ix (sv 1) (sint)) (sint)) (sbin r_mod (fun _ _ _ _ h => h) (se_typ r_intc T.z_int (sa_cons (sv 3) (sa_nil))) (sint))) (sint)) (sa_nil))) (sint)) (sv 1) (sint)) (
    ss_one (ss_if (tcmp r_ge (fun _ _ _ _ h => h) (sv 3) (sbin r_pow (fun _ _ _ _ h => h) (sint) (sint)) (nomark _)) (ss_one (ss_for (passes_of rfl) rfl (si_range1 T.z_range (sint)) (sg_name (i := 4) sc__law_pool.nd) (ss_cons (ss_if (tcmp (r_eq hu) (fun _ _ _ _ h => h) (sv 3) (sint) (nomark _)) (ss_one (ss_brk)) (ss_nil)) (
    ss_cons (ss_drop (se_app (sv 1) (sbin r_mod (fun _ _ _ _ h => h) (se_typ r_intc T.z_int (sa_cons (sv 3) (sa_nil))) (sint)))) (
    ss_one (ss_set (i := 3) (sbin r_fdiv (fun _ _ _ _ h => h) (sv 3) (sint)) sc__law_pool.nd)))))) (ss_nil))))))) (
    ss_one (ss_ret (sv 1))))
theorem sc__law_round : FnScope N__law_round ["many"] (defScope st__law_round) := ⟨rfl, rfl, rfl, by decide +kernel, rfl, by decide +kernel, by decide +kernel⟩
theorem ok__law_round (T : Pk K mg) : DOk P w K mg base 1 T.d__law_round.a T.d__law_round.fd ["many"] m__law_round := by
  refine okZ <| okF T.d__law_round.fn sc__law_round (by decide) fun cdv A outer s H E hr => ?_
  have hu : (A.deeper (envOfC "_law_round" (defScope st__law_round) s.heap.objs.size T.d__law_round.a cdv)).units + 64 < cLine := by have := hr.un; omega
  have hu5 : (A.deeper (envOfC "_law_round" (defScope st__law_round) s.heap.objs.size T.d__law_round.a cdv)).units + 65 < cLine := by have := hr.un; omega
  have tk := takes_of (X := cxOf (L2.CX P w) P w K mg base N__law_round "_law_round" (defScope st__law_round) T.d__law_round.a cdv A outer s H E) rfl rfl rfl rfl
  exact ss_cons (ss_set (i := 1) (se_fz (se_lrg2 rfl T.z_list T.z_range (sint) (sv 0))) sc__law_round.nd) (
    ss_cons (ss_set (i := 2) (sbin r_sub (fun _ _ _ _ h => h) (sbin r_fdiv (fun _ _ _ _ h => h) (sv 0) (sint)) (sint)) sc__law_round.nd) (
    ss_one (ss_ret (se_fz (sbin r_addX (fun _ _ _ _ h => h) (se_fz (sbin r_addX (fun _ _ _ _ h => h) (se_fz (sbin r_addX (fun _ _ _ _ h => h) (se_lst (sa_cons (sint) (sa_nil))) (se_fz (se_sl (sv 1) (so_none) (so_some (sv 2)))))) (se_lst (sa_cons (sint) (sa_nil))))) (se_fz (se_sl (sv 1) (so_some (sv 2)) (so_none))))))))
theorem sc__law_base : FnScope N__law_base ["kind", "size"] (defScope st__law_base) := ⟨rfl, rfl, rfl, by decide +kernel, rfl, by decide +kernel, by decide +kernel⟩
theorem ok__law_base (T : Pk K mg) : DOk P w K mg base 2 T.d__law_base.a T.d__law_base.fd ["kind", "size"] m__law_base := by
  refine okF T.d__law_base.fn sc__law_base (by decide) fun cdv A outer s H E hr => ?_
  have hu : (A.deeper (envOfC "_law_base" (defScope st__law_base) s.heap.objs.size T.d__law_base.a cdv)).units + 64 < cLine := by have := hr.un; omega
  have hu5 : (A.deeper (envOfC "_law_base" (defScope st__law_base) s.heap.objs.size T.d__law_base.a cdv)).units + 65 < cLine := by have := hr.un; omega
  have tk := takes_of (X := cxOf (L2.CX P w) P w K mg base N__law_base "_law_base" (defScope st__law_base) T.d__law_base.a cdv A outer s H E) rfl rfl rfl rfl
  exact ss_cons (ss_set (i := 2) (se_lst (sa_nil)) sc__law_base.nd) (
    ss_cons (ss_if (tcmp (r_eq hu) (fun _ _ _ _ h => h) (sv 0) (sint) (nomark _)) (ss_cons (ss_set (i := 3) (se_fz (sbin r_addX (fun _ _ _ _ h => h) (se_fz (sbin r_addX (fun _ _ _ _ h => h) (se_lst (sa_cons (sint) (sa_nil))) (se_fz (se_lrg2 rfl T.z_list T.z_range (sint) (sbin r_add (fun _ _ _ _ h => h) (sv 1) (sint)))))) (se_lst (sa_cons (sint) (sa_nil))))) sc__law_base.nd) (
    ss_one (ss_ret (se_lst (sa_cons (sbin r_add (fun _ _ _ _ h => h) (sv 1) (sint)) (sa_cons (se_fz (se_lc (own := [("k", 4)]) rfl sc__law_base.nd (si_range1 T.z_range (sbin r_add (fun _ _ _ _ h => h) (sv 1) (sint))) (blkOk_of (show blkB N__law_base (defScope st__law_base) _ [("k", 4)] = true by decide +kernel)) (by decide) (fun s1 H1 C1 cl1 fp1 => sg_name (i := 4) sc__law_base.nd) (fun s1 H1 C1 cl1 fp1 => sts_nil) (fun s1 H1 C1 cl1 fp1 => se_tup (sa_cons (se_ix (sv 3) (sv 4)) (sa_cons (se_ix (sv 3) (sbin r_add (fun _ _ _ _ h => h) (sv 4) (sint))) (sa_nil)))))) (sa_nil))))))) (ss_nil)) (
    ss_cons (ss_if ((sw_or (tcmp (r_eq hu) (fun _ _ _ _ h => h) (sv 0) (sint) (nomark _)) (sw_or1 (tcmp (r_eq hu) (fun _ _ _ _ h => h) (sv 0) (sint) (nomark _)))).pt) (ss_cons (ss_set (i := 3) (se_call tk ((ok__law_round T).mono (by decide)) hr T.d__law_round.hm T.d__law_round.hk T.d__law_round.bi (sa_cons (sbin r_add (fun _ _ _ _ h => h) (sv 1) (sint)) (sa_nil))) sc__law_base.nd) (
    ss_cons (ss_setLc (i := 2) (own := [("k", 4)]) rfl sc__law_base.nd (si_range1 T.z_range (sbin r_add (fun _ _ _ _ h => h) (sv 1) (sint))) (blkOk_of (show blkB N__law_base (defScope st__law_base) _ [("k", 4)] = true by decide +kernel)) (by decide) (fun s1 H1 C1 cl1 fp1 => sg_name (i := 4) sc__law_base.nd) (fun s1 H1 C1 cl1 fp1 => sts_nil) (fun s1 H1 C1 cl1 fp1 => se_tup (sa_cons (se_ix (sv 3) (sv 4)) (sa_cons (se_ix (sv 3) (sbin r_sub (fun _ _ _ _ h => h) (sv 4) (sint))) (sa_nil)))) (hsw := by rfl)) (
    ss_cons (ss_if (tcmp (r_eq hu) (fun _ _ _ _ h => h) (sv 0) (sint) (nomark _)) (ss_one (ss_set (i := 2) (sbin r_addX (fun _ _ _ _ h => h) (sv 2) (se_lc (own := [("k", 4)]) rfl sc__law_base.nd (si_range1 T.z_range (sbin r_add (fun _ _ _ _ h => h) (sv 1) (sint))) (blkOk_of (show blkB N__law_base (defScope st__law_base) _ [("k", 4)] = true by decide +kernel)) (by decide) (fun s1 H1 C1 cl1 fp1 => sg_name (i := 4) sc__law_base.nd) (fun s1 H1 C1 cl1 fp1 => sts_nil) (fun s1 H1 C1 cl1 fp1 => se_tup (sa_cons (sv 4) (sa_cons (sbin r_add (fun _ _ _ _ h => h) (sv 1) (sint)) (sa_nil)))))) sc__law_base.nd)) (ss_nil)) (
    ss_one (ss_ret (se_lst (sa_cons (sbin r_add (fun _ _ _ _ h => h) (sbin r_add (fun _ _ _ _ h => h) (sv 1) (sint)) (sv 0)) (sa_cons (sv 2) (sa_nil))))))))) (ss_nil)) (
    ss_cons (ss_if (tcmp (r_eq hu) (fun _ _ _ _ h => h) (sv 0) (sint) (nomark _)) (ss_cons (ss_for (passes_of rfl) rfl (si_range1 T.z_range (sbin r_add (fun _ _ _ _ h => h) (sv 1) (sint))) (sg_name (i := 4) sc__law_base.nd) (ss_cons (ss_drop (se_app (sv 2) (se_tup (sa_cons (sbin r_add (fun _ _ _ _ h => h) (sint) (sbin r_mulX (fun _ _ _ _ h => h) (sint) (sv 4))) (sa_cons (sbin r_add (fun _ _ _ _ h => h) (sint) (sbin r_mulX (fun _ _ _ _ h => h) (sint) (sv 4))) (sa_nil)))))) (
    ss_one (ss_if (tcmp r_gt (fun _ _ _ _ h => h) (sv 4) (sint) (nomark _)) (ss_cons (ss_drop (se_app (sv 2) (se_tup (sa_cons (sbin r_mulX (fun _ _ _ _ h => h) (sint) (sv 4)) (sa_cons (sbin r_add (fun _ _ _ _ h => h) (sint) (sbin r_mulX (fun _ _ _ _ h => h) (sint) (sv 4))) (sa_nil)))))) (
    ss_one (ss_drop (se_app (sv 2) (se_tup (sa_cons (sbin r_add (fun _ _ _ _ h => h) (sint) (sbin r_mulX (fun _ _ _ _ h => h) (sint) (sv 4))) (sa_cons (sbin r_add (fun _ _ _ _ h => h) (sint) (sbin r_mulX (fun _ _ _ _ h => h) (sint) (sv 4))) (sa_nil)))))))) (ss_nil))))) (
    ss_one (ss_ret (se_lst (sa_cons (sbin r_add (fun _ _ _ _ h => h) (sbin r_mulX (fun _ _ _ _ h => h) (sint) (sv 1)) (sint)) (sa_cons (se_fz (sbin r_addX (fun _ _ _ _ h => h) (sv 2) (se_lst (sa_cons (se_tup (sa_cons (sint) (sa_cons (sint) (sa_nil)))) (sa_cons (se_tup (sa_cons (sint) (sa_cons (sint) (sa_nil)))) (sa_cons (se_tup (sa_cons (sbin r_add (fun _ _ _ _ h => h) (sbin r_mulX (fun _ _ _ _ h => h) (sint) (sv 1)) (sint)) (sa_cons (sint) (sa_nil)))) (sa_cons (se_tup (sa_cons (sbin r_add (fun _ _ _ _ h => h) (sbin r_mulX (fun _ _ _ _ h => h) (sint) (sv 1)) (sint)) (sa_cons (sint) (sa_nil)))) (sa_nil)))))))) (sa_nil))))))) (ss_nil)) (
    ss_cons (ss_if (tcmp (r_eq hu) (fun _ _ _ _ h => h) (sv 0) (sint) (nomark _)) (ss_cons (ss_for (passes_of rfl) rfl (si_range2 T.z_range (sint) (sbin r_add (fun _ _ _ _ h => h) (sv 1) (sint))) (sg_name (i := 4) sc__law_base.nd) (ss_one (ss_set (i := 2) (sbin r_addX (fun _ _ _ _ h => h) (sv 2) (se_lc (own := [("j", 7)]) rfl sc__law_base.nd (si_range1 T.z_range (sv 4)) (blkOk_of (show blkB N__law_base (defScope st__law_base) _ [("j", 7)] = true by decide +kernel)) (by decide) (fun s1 H1 C1 cl1 fp1 => sg_name (i := 7) sc__law_base.nd) (fun s1 H1 C1 cl1 fp1 => sts_one ((sw_or (tcmp r_gt (fun _ _ _ _ h => h) (sv 4) (sint) (nomark _)) (sw_or1 (tcmp r_gt (fun _ _ _ _ h => h) (sv 1) (sint) (nomark _)))).pt)) (fun s1 H1 C1 cl1 fp1 => se_tup (sa_cons (sv 7) (sa_cons (sv 4) (sa_nil)))))) sc__law_base.nd))) (
    ss_one (ss_ret (se_lst (sa_cons (sbin r_add (fun _ _ _ _ h => h) (sv 1) (sint)) (sa_cons (sv 2) (sa_nil))))))) (ss_nil)) (
    ss_cons (ss_if (tcmp (r_eq hu) (fun _ _ _ _ h => h) (sv 0) (sint) (nomark _)) (ss_one (ss_ret (se_lst (sa_cons (sint) (sa_cons (se_fz (se_lst (sa_cons (se_tup (sa_cons (sint) (sa_cons (sint) (sa_nil)))) (sa_cons (se_tup (sa_cons (sint) (sa_cons (sint) (sa_nil)))) (sa_cons (se_tup (sa_cons (sint) (sa_cons (sint) (sa_nil)))) (sa_cons (se_tup (sa_cons (sint) (sa_cons (sint) (sa_nil)))) (sa_cons (se_tup (sa_cons (sint) (sa_cons (sint) (sa_nil)))) (sa_cons (se_tup (sa_cons (sint) (sa_cons (sint) (sa_nil)))) (sa_cons (se_tup (sa_cons (sint) (sa_cons (sint) (sa_nil)))) (sa_cons (se_tup (sa_cons (sint) (sa_cons (sint) (sa_nil)))) (sa_cons (se_tup (sa_cons (sint) (sa_cons (sint) (sa_nil)))) (sa_nil)))))))))))) (sa_nil)))))) (ss_nil)) (
    ss_cons (ss_if (tcmp (r_eq hu) (fun _ _ _ _ h => h) (sv 0) (sint) (nomark _)) (ss_one (ss_ret (se_lst (sa_cons (sbin r_add (fun _ _ _ _ h => h) (sv 1) (sint)) (sa_cons (se_fz (se_lc (own := [("k", 4)]) rfl sc__law_base.nd (si_range1 T.z_range (sbin r_add (fun _ _ _ _ h => h) (sv 1) (sint))) (blkOk_of (show blkB N__law_base (defScope st__law_base) _ [("k", 4)] = true by decide +kernel)) (by decide) (fun s1 H1 C1 cl1 fp1 => sg_name (i := 4) sc__law_base.nd) (fun s1 H1 C1 cl1 fp1 => sts_one (tcmp (r_ne hu) (fun _ _ _ _ h => h) (sv 4) (sint) (nomark _))) (fun s1 H1 C1 cl1 fp1 => se_tup (sa_cons (sint) (sa_cons (sv 4) (sa_nil)))))) (sa_nil)))))) (ss_nil)) (
    ss_cons (ss_if (tcmp (r_eq hu) (fun _ _ _ _ h => h) (sv 0) (sint) (nomark _)) (ss_cons (ss_set (i := 5) (sbin r_add (fun _ _ _ _ h => h) (sint) (sbin r_fdiv (fun _ _ _ _ h => h) (sv 1) (sint))) sc__law_base.nd) (
    ss_cons (ss_set (i := 6) (sbin r_add (fun _ _ _ _ h => h) (sint) (sbin r_fdiv (fun _ _ _ _ h => h) (sbin r_add (fun _ _ _ _ h => h) (sv 1) (sint)) (sint))) sc__law_base.nd) (
    ss_cons (ss_set (i := 3) (se_fz (sbin r_addX (fun _ _ _ _ h => h) (se_fz (sbin r_addX (fun _ _ _ _ h => h) (se_lst (sa_cons (sint) (sa_nil))) (se_fz (se_lrg2 rfl T.z_list T.z_range (sint) (sbin r_mulX (fun _ _ _ _ h => h) (sv 5) (sv 6)))))) (se_lst (sa_cons (sint) (sa_nil))))) sc__law_base.nd) (
    ss_cons (ss_for (passes_of rfl) rfl (si_range1 T.z_range (sbin r_mulX (fun _ _ _ _ h => h) (sv 5) (sv 6))) (sg_name (i := 4) sc__law_base.nd) (ss_cons (ss_if (tcmp r_gt (fun _ _ _ _ h => h) (sbin r_mod (fun _ _ _ _ h => h) (se_typ r_intc T.z_int (sa_cons (sv 4) (sa_nil))) (sv 5)) (sint) (nomark _)) (ss_one (ss_drop (se_app (sv 2) (se_tup (sa_cons (se_ix (sv 3) (sbin r_sub (fun _ _ _ _ h => h) (sv 4) (sint))) (sa_cons (se_ix (sv 3) (sv 4)) (sa_nil))))))) (ss_nil)) (
    ss_one (ss_if (tcmp r_ge (fun _ _ _ _ h => h) (sv 4) (sv 5) (nomark _)) (ss_one (ss_drop (se_app (sv 2) (se_tup (sa_cons (se_ix (sv 3) (sbin r_sub (fun _ _ _ _ h => h) (sv 4) (sv 5))) (sa_cons (se_ix (sv 3) (sv 4)) (sa_nil))))))) (ss_nil))))) (
    ss_one (ss_ret (se_lst (sa_cons (sbin r_mulX (fun _ _ _ _ h => h) (sv 5) (sv 6)) (sa_cons (sv 2) (sa_nil)))))))))) (ss_nil)) (
    ss_cons (ss_for (passes_of rfl) rfl (si_range1 T.z_range (sbin r_add (fun _ _ _ _ h => h) (sv 1) (sint))) (sg_name (i := 4) sc__law_base.nd) (ss_cons (ss_drop (se_app (sv 2) (se_tup (sa_cons (sint) (sa_cons (sbin r_add (fun _ _ _ _ h => h) (sint) (sv 4)) (sa_nil)))))) (
    ss_cons (ss_drop (se_app (sv 2) (se_tup (sa_cons (sint) (sa_cons (sbin r_add (fun _ _ _ _ h => h) (sint) (sv 4)) (sa_nil)))))) (
    ss_one (ss_if ((sw_and (tcmp r_gt (fun _ _ _ _ h => h) (sv 4) (sint) (nomark _)) (sw_and1 (tcmp (r_eq hu) (fun _ _ _ _ h => h) (sv 0) (sint) (nomark _)))).pt) (ss_one (ss_drop (se_app (sv 2) (se_tup (sa_cons (sbin r_add (fun _ _ _ _ h => h) (sint) (sv 4)) (sa_cons (sbin r_add (fun _ _ _ _ h => h) (sint) (sv 4)) (sa_nil))))))) (ss_nil)))))) (
    ss_one (ss_ret (se_lst (sa_cons (sbin r_add (fun _ _ _ _ h => h) (sv 1) (sint)) (sa_cons (sv 2) (sa_nil))))))))))))))
theorem sc__law_pick : FnScope N__law_pick ["pool", "many"] (defScope st__law_pick) := ⟨rfl, rfl, rfl, by decide +kernel, rfl, by decide +kernel, by decide +kernel⟩
theorem ok__law_pick (T : Pk K mg) : DOk P w K mg base 1 T.d__law_pick.a T.d__law_pick.fd ["pool", "many"] m__law_pick := by
  refine okZ <| okF T.d__law_pick.fn sc__law_pick (by decide) fun cdv A outer s H E hr => ?_
  have hu : (A.deeper (envOfC "_law_pick" (defScope st__law_pick) s.heap.objs.size T.d__law_pick.a cdv)).units + 64 < cLine := by have := hr.un; omega
  have hu5 : (A.deeper (envOfC "_law_pick" (defScope st__law_pick) s.heap.objs.size T.d__law_pick.a cdv)).units + 65 < cLine := by have := hr.un; omega
  have tk := takes_of (X := cxOf (L2.CX P w) P w K mg base N__law_pick "_law_pick" (defScope st__law_pick) T.d__law_pick.a cdv A outer s H E) rfl rfl rfl rfl
  exact ss_cons (ss_if (tcmp r_lt (fun _ _ _ _ h => h) (se_ix (sv 0) (sint)) (se_blt r_len T.z_len (sa_cons (sv 0) (sa_nil))) (nomark _)) (ss_cons (ss_setIx (sbin r_add (fun _ _ _ _ h => h) (se_ix (sv 0) (sint)) (sint)) (sv 0) (sint)) (
    ss_one (ss_ret (sbin r_mod (fun _ _ _ _ h => h) (se_typ r_intc T.z_int (sa_cons (se_ix (sv 0) (sbin r_sub (fun _ _ _ _ h => h) (se_ix (sv 0) (sint)) (sint))) (sa_nil))) (sv 1))))) (ss_nil)) (
    ss_cons (ss_setIx (sbin r_mod (fun _ _ _ _ h => h) (se_typ r_intc T.z_int (sa_cons (sbin r_add (fun _ _ _ _ h => h) (sbin r_mulX (fun _ _ _ _ h => h) (se_ix (sv 0) (sint)) (sint)) (sint)) (sa_nil))) (sint)) (sv 0) (sint)) (
    ss_one (ss_ret (sbin r_mod (fun _ _ _ _ h => h) (se_typ r_intc T.z_int (sa_cons (sbin r_fdiv (fun _ _ _ _ h => h) (se_ix (sv 0) (sint)) (sint)) (sa_nil))) (sv 1)))))
theorem sc__law_name : FnScope N__law_name ["pool", "taken"] (defScope st__law_name) := ⟨rfl, rfl, rfl, by decide +kernel, rfl, by decide +kernel, by decide +kernel⟩
theorem ok__law_name (T : Pk K mg) : DOk P w K mg base 2 T.d__law_name.a T.d__law_name.fd ["pool", "taken"] m__law_name := by
  refine okZ <| okF T.d__law_name.fn sc__law_name (by decide) fun cdv A outer s H E hr => ?_
  have hu : (A.deeper (envOfC "_law_name" (defScope st__law_name) s.heap.objs.size T.d__law_name.a cdv)).units + 64 < cLine := by have := hr.un; omega
  have hu5 : (A.deeper (envOfC "_law_name" (defScope st__law_name) s.heap.objs.size T.d__law_name.a cdv)).units + 65 < cLine := by have := hr.un; omega
  have tk := takes_of (X := cxOf (L2.CX P w) P w K mg base N__law_name "_law_name" (defScope st__law_name) T.d__law_name.a cdv A outer s H E) rfl rfl rfl rfl
  exact ss_cons (ss_set (i := 2) (sstr) sc__law_name.nd) (
    ss_cons (ss_set (i := 3) (se_ix (sv 2) (se_call tk ((ok__law_pick T).mono (by decide)) hr T.d__law_pick.hm T.d__law_pick.hk T.d__law_pick.bi (sa_cons (sv 0) (sa_cons (sint) (sa_nil))))) sc__law_name.nd) (
    ss_cons (ss_for (passes_of rfl) rfl (si_range1 T.z_range (se_ix (se_tup (sa_cons (sint) (sa_cons (sint) (sa_cons (sint) (sa_cons (sint) (sa_cons (sint) (sa_cons (sint) (sa_cons (sint) (sa_cons (sint) (sa_nil)))))))))) (se_call tk ((ok__law_pick T).mono (by decide)) hr T.d__law_pick.hm T.d__law_pick.hk T.d__law_pick.bi (sa_cons (sv 0) (sa_cons (sint) (sa_nil)))))) (sg_name (i := 4) sc__law_name.nd) (ss_one (ss_set (i := 3) (sbin r_add (fun _ _ _ _ h => h) (sv 3) (se_ix (sv 2) (se_call tk ((ok__law_pick T).mono (by decide)) hr T.d__law_pick.hm T.d__law_pick.hk T.d__law_pick.bi (sa_cons (sv 0) (sa_cons (sint) (sa_nil)))))) sc__law_name.nd))) (
    ss_cons (ss_if (tcmp (r_eq hu) (fun _ _ _ _ h => h) (se_call tk ((ok__law_pick T).mono (by decide)) hr T.d__law_pick.hm T.d__law_pick.hk T.d__law_pick.bi (sa_cons (sv 0) (sa_cons (sint) (sa_nil)))) (sint) (nomark _)) (ss_cons (ss_set (i := 3) (sbin r_add (fun _ _ _ _ h => h) (sv 3) (sstr)) sc__law_name.nd) (
    ss_one (ss_for (passes_of rfl) rfl (si_range1 T.z_range (se_ix (se_tup (sa_cons (sint) (sa_cons (sint) (sa_cons (sint) (sa_cons (sint) (sa_cons (sint) (sa_cons (sint) (sa_nil)))))))) (se_call tk ((ok__law_pick T).mono (by decide)) hr T.d__law_pick.hm T.d__law_pick.hk T.d__law_pick.bi (sa_cons (sv 0) (sa_cons (sint) (sa_nil)))))) (sg_name (i := 4) sc__law_name.nd) (ss_one (ss_set (i := 3) (sbin r_add (fun _ _ _ _ h => h) (sv 3) (se_ix (sv 2) (se_call tk ((ok__law_pick T).mono (by decide)) hr T.d__law_pick.hm T.d__law_pick.hk T.d__law_pick.bi (sa_cons (sv 0) (sa_cons (sint) (sa_nil)))))) sc__law_name.nd))))) (ss_nil)) (
    ss_cons (ss_set (i := 5) (se_tup (sa_cons (sstr) (sa_cons (sstr) (sa_cons (sstr) (sa_cons (sstr) (sa_cons (sstr) (sa_cons (sstr) (sa_cons (sstr) (sa_cons (sstr) (sa_cons (sstr) (sa_cons (sstr) (sa_cons (sstr) (sa_cons (sstr) (sa_nil)))))))))))))) sc__law_name.nd) (
    ss_cons (ss_for (passes_of rfl) rfl (si_range1 T.z_range (sint)) (sg_name (i := 4) sc__law_name.nd) (ss_cons (ss_if ((sw_and (tcmp (r_notIn hu5) (fun _ _ _ _ h => h) (sv 3) (sv 1) (by rfl)) (sw_and1 (tcmp (r_notIn hu5) (fun _ _ _ _ h => h) (sv 3) (sv 5) (by rfl)))).pt) (ss_one (ss_brk)) (ss_nil)) (
    ss_one (ss_set (i := 3) (sbin r_add (fun _ _ _ _ h => h) (sbin r_add (fun _ _ _ _ h => h) (sstr) (se_typ r_strc T.z_str (sa_cons (sv 4) (sa_nil)))) (sstr)) sc__law_name.nd)))) (
    ss_one (ss_ret (sv 3))))))))
theorem sc__law_dress : FnScope N__law_dress ["pool", "shape"] (defScope st__law_dress) := ⟨rfl, rfl, rfl, by decide +kernel, rfl, by decide +kernel, by decide +kernel⟩
theorem ok__law_dress (T : Pk K mg) : DOk P w K mg base 3 T.d__law_dress.a T.d__law_dress.fd ["pool", "shape"] m__law_dress := by
  refine okF T.d__law_dress.fn sc__law_dress (by decide) fun cdv A outer s H E hr => ?_
  have hu : (A.deeper (envOfC "_law_dress" (defScope st__law_dress) s.heap.objs.size T.d__law_dress.a cdv)).units + 64 < cLine := by have := hr.un; omega
  have hu5 : (A.deeper (envOfC "_law_dress" (defScope st__law_dress) s.heap.objs.size T.d__law_dress.a cdv)).units + 65 < cLine := by have := hr.un; omega
  have tk := takes_of (X := cxOf (L2.CX P w) P w K mg base N__law_dress "_law_dress" (defScope st__law_dress) T.d__law_dress.a cdv A outer s H E) rfl rfl rfl rfl
  exact ss_cons (ss_set (i := 2) (se_lst (sa_nil)) sc__law_dress.nd) (
    ss_cons (ss_for (passes_of rfl) rfl (si_range1 T.z_range (se_ix (sv 1) (sint))) (sg_name (i := 3) sc__law_dress.nd) (ss_one (ss_drop (se_app (sv 2) (se_call tk ((ok__law_name T).mono (by decide)) hr T.d__law_name.hm T.d__law_name.hk T.d__law_name.bi (sa_cons (sv 0) (sa_cons (sv 2) (sa_nil)))))))) (
    ss_cons (ss_set (i := 4) (se_lst (sa_nil)) sc__law_dress.nd) (
    ss_cons (ss_for (passes_of rfl) rfl (si_range1 T.z_range (se_blt r_len T.z_len (sa_cons (se_ix (sv 1) (sint)) (sa_nil)))) (sg_name (i := 3) sc__law_dress.nd) (ss_cons (ss_set (i := 5) (se_ix (sv 2) (se_call tk ((ok__law_pick T).mono (by decide)) hr T.d__law_pick.hm T.d__law_pick.hk T.d__law_pick.bi (sa_cons (sv 0) (sa_cons (se_blt r_len T.z_len (sa_cons (sv 2) (sa_nil))) (sa_nil))))) sc__law_dress.nd) (
    ss_cons (ss_if ((sw_or (tcmp r_gt (fun _ _ _ _ h => h) (se_call tk ((ok__law_pick T).mono (by decide)) hr T.d__law_pick.hm T.d__law_pick.hk T.d__law_pick.bi (sa_cons (sv 0) (sa_cons (sint) (sa_nil)))) (sint) (nomark _)) (sw_or1 (tcmp (r_in hu5) (fun _ _ _ _ h => h) (sv 5) (sv 4) (by rfl)))).pt) (ss_one (ss_set (i := 5) (se_call tk ((ok__law_name T).mono (by decide)) hr T.d__law_name.hm T.d__law_name.hk T.d__law_name.bi (sa_cons (sv 0) (sa_cons (sv 4) (sa_nil)))) sc__law_dress.nd)) (ss_nil)) (
    ss_one (ss_drop (se_app (sv 4) (sv 5))))))) (
    ss_cons (ss_set (i := 6) (se_lst (sa_nil)) sc__law_dress.nd) (
    ss_cons (ss_for (passes_of rfl) rfl (si_range1 T.z_range (se_blt r_len T.z_len (sa_cons (sv 4) (sa_nil)))) (sg_name (i := 7) sc__law_dress.nd) (ss_cons (ss_set (i := 8) (se_ix (sv 2) (se_ix (se_ix (se_ix (sv 1) (sint)) (sv 7)) (sint))) sc__law_dress.nd) (
    ss_cons (ss_set (i := 9) (se_ix (sv 2) (se_ix (se_ix (se_ix (sv 1) (sint)) (sv 7)) (sint))) sc__law_dress.nd) (
    ss_one (ss_drop (se_app (sv 6) (se_tup (sa_cons (se_ix (sv 4) (sv 7)) (sa_cons (se_blt (r_min2 rfl) T.z_min (sa_cons (sv 8) (sa_cons (sv 9) (sa_nil)))) (sa_cons (se_blt (r_max2 rfl) T.z_max (sa_cons (sv 8) (sa_cons (sv 9) (sa_nil)))) (sa_nil))))))))))) (
    ss_cons (ss_set (i := 10) (se_typ r_tuple T.z_tuple (sa_cons (se_fz (se_blt (r_sorted hu) T.z_sorted (sa_cons (se_fz (se_lc (own := [("at", 12)]) rfl sc__law_dress.nd (si_any (se_ix (sv 1) (sint))) (blkOk_of (show blkB N__law_dress (defScope st__law_dress) _ [("at", 12)] = true by decide +kernel)) (by decide) (fun s1 H1 C1 cl1 fp1 => sg_name (i := 12) sc__law_dress.nd) (fun s1 H1 C1 cl1 fp1 => sts_nil) (fun s1 H1 C1 cl1 fp1 => se_ix (sv 2) (sv 12)))) (sa_nil)))) (sa_nil))) sc__law_dress.nd) (
    ss_cons (ss_set (i := 11) (se_typ r_tuple T.z_tuple (sa_cons (se_fz (se_blt (r_sorted hu) T.z_sorted (sa_cons (se_fz (se_lc (own := [("at", 12)]) rfl sc__law_dress.nd (si_any (se_ix (sv 1) (sint))) (blkOk_of (show blkB N__law_dress (defScope st__law_dress) _ [("at", 12)] = true by decide +kernel)) (by decide) (fun s1 H1 C1 cl1 fp1 => sg_name (i := 12) sc__law_dress.nd) (fun s1 H1 C1 cl1 fp1 => sts_nil) (fun s1 H1 C1 cl1 fp1 => se_ix (sv 4) (sv 12)))) (sa_nil)))) (sa_nil))) sc__law_dress.nd) (
    ss_one (ss_ret (se_lst (sa_cons (se_tup (sa_cons (se_typ r_tuple T.z_tuple (sa_cons (se_fz (se_blt (r_sorted hu) T.z_sorted (sa_cons (sv 2) (sa_nil)))) (sa_nil))) (sa_cons (se_typ r_tuple T.z_tuple (sa_cons (se_fz (se_blt (r_sorted hu) T.z_sorted (sa_cons (sv 6) (sa_nil)))) (sa_nil))) (sa_cons (sv 10) (sa_cons (sv 11) (sa_nil)))))) (sa_cons (sv 2) (sa_cons (sv 4) (sa_nil))))))))))))))
theorem sc__law_same : FnScope N__law_same ["told", "due"] (defScope st__law_same) := ⟨rfl, rfl, rfl, by decide +kernel, rfl, by decide +kernel, by decide +kernel⟩
theorem ok__law_same (T : Pk K mg) : DOk P w K mg base 1 T.d__law_same.a T.d__law_same.fd ["told", "due"] m__law_same := by
  refine okZ <| okF T.d__law_same.fn sc__law_same (by decide) fun cdv A outer s H E hr => ?_
  have hu : (A.deeper (envOfC "_law_same" (defScope st__law_same) s.heap.objs.size T.d__law_same.a cdv)).units + 64 < cLine := by have := hr.un; omega
  have hu5 : (A.deeper (envOfC "_law_same" (defScope st__law_same) s.heap.objs.size T.d__law_same.a cdv)).units + 65 < cLine := by have := hr.un; omega
  have tk := takes_of (X := cxOf (L2.CX P w) P w K mg base N__law_same "_law_same" (defScope st__law_same) T.d__law_same.a cdv A outer s H E) rfl rfl rfl rfl
  exact ss_cons (ss_set (i := 2) (se_lst (sa_cons (se_tup (sa_cons (sv 0) (sa_cons (sv 1) (sa_nil)))) (sa_nil))) sc__law_same.nd) (
    ss_cons (ss_while 100000 (passes_of rfl) (stru (sv 2)) (ss_cons (ss_asg (se_pop0 (sv 2)) (sg_tup rfl (sgs_cons (i := 3) (sgs_cons (i := 4) (sgs_nil) sc__law_same.nd) sc__law_same.nd))) (
    ss_one (ss_if (tcmp r_is (fun _ _ _ _ h => h) (sv 4) (snon) (nomark _)) (ss_one (ss_if (tcmp r_isNot (fun _ _ _ _ h => h) (sv 3) (snon) (nomark _)) (ss_one (ss_ret (sbl))) (ss_nil))) (ss_one (ss_if (stru (se_blt r_isi T.z_isinstance (sa_cons (sv 4) (sa_cons (s_ty T.z_bool) (sa_nil))))) (ss_one (ss_if ((sw_or (st_not (stru (se_blt r_isi T.z_isinstance (sa_cons (sv 3) (sa_cons (s_ty T.z_bool) (sa_nil)))))) (sw_or1 (st_not (tcmp (r_eq hu) (fun _ _ _ _ h => h) (sv 3) (sv 4) (nomark _))))).pt) (ss_one (ss_ret (sbl))) (ss_nil))) (ss_one (ss_if (stru (se_blt r_isi T.z_isinstance (sa_cons (sv 4) (sa_cons (s_ty T.z_int) (sa_nil))))) (ss_one (ss_if ((sw_or (stru (se_blt r_isi T.z_isinstance (sa_cons (sv 3) (sa_cons (s_ty T.z_bool) (sa_nil))))) (sw_or (st_not (stru (se_blt r_isi T.z_isinstance (sa_cons (sv 3) (sa_cons (s_ty T.z_int) (sa_nil)))))) (sw_or1 (st_not (tcmp (r_eq hu) (fun _ _ _ _ h => h) (sv 3) (sv 4) (nomark _)))))).pt) (ss_one (ss_ret (sbl))) (ss_nil))) (ss_one (ss_if (stru (se_blt r_isi T.z_isinstance (sa_cons (sv 4) (sa_cons (s_ty T.z_str) (sa_nil))))) (ss_one (ss_if ((sw_or (st_not (stru (se_blt r_isi T.z_isinstance (sa_cons (sv 3) (sa_cons (s_ty T.z_str) (sa_nil)))))) (sw_or1 (st_not (tcmp (r_eq hu) (fun _ _ _ _ h => h) (sv 3) (sv 4) (nomark _))))).pt) (ss_one (ss_ret (sbl))) (ss_nil))) (ss_one (ss_if (stru (se_blt r_isi T.z_isinstance (sa_cons (sv 4) (sa_cons (s_ty T.z_tuple) (sa_nil))))) (ss_cons (ss_if ((sw_or (st_not (stru (se_blt r_isi T.z_isinstance (sa_cons (sv 3) (sa_cons (s_ty T.z_tuple) (sa_nil)))))) (sw_or1 (tcmp (r_ne hu) (fun _ _ _ _ h => h) (se_blt r_len T.z_len (sa_cons (sv 3) (sa_nil))) (se_blt r_len T.z_len (sa_cons (sv 4) (sa_nil))) (nomark _)))).pt) (ss_one (ss_ret (sbl))) (ss_nil)) (
    ss_one (ss_for (passes_of rfl) rfl (si_range1 T.z_range (se_blt r_len T.z_len (sa_cons (sv 4) (sa_nil)))) (sg_name (i := 5) sc__law_same.nd) (ss_one (ss_drop (se_app (sv 2) (se_tup (sa_cons (se_ix (sv 3) (sv 5)) (sa_cons (se_ix (sv 4) (sv 5)) (sa_nil)))))))))) (ss_one (ss_if (stru (se_blt r_isi T.z_isinstance (sa_cons (sv 4) (sa_cons (s_ty T.z_list) (sa_nil))))) (ss_cons (ss_if ((sw_or (st_not (stru (se_blt r_isi T.z_isinstance (sa_cons (sv 3) (sa_cons (s_ty T.z_list) (sa_nil)))))) (sw_or1 (tcmp (r_ne hu) (fun _ _ _ _ h => h) (se_blt r_len T.z_len (sa_cons (sv 3) (sa_nil))) (se_blt r_len T.z_len (sa_cons (sv 4) (sa_nil))) (nomark _)))).pt) (ss_one (ss_ret (sbl))) (ss_nil)) (
    ss_one (ss_for (passes_of rfl) rfl (si_range1 T.z_range (se_blt r_len T.z_len (sa_cons (sv 4) (sa_nil)))) (sg_name (i := 5) sc__law_same.nd) (ss_one (ss_drop (se_app (sv 2) (se_tup (sa_cons (se_ix (sv 3) (sv 5)) (sa_cons (se_ix (sv 4) (sv 5)) (sa_nil)))))))))) (ss_one (ss_ret (sbl))))))))))))))))) (
    ss_one (ss_ret (sbl))))
theorem sc_own_links : FnScope N_own_links ["net", "nodes"] (defScope st_own_links) := ⟨rfl, rfl, rfl, by decide +kernel, rfl, by decide +kernel, by decide +kernel⟩
theorem ok_own_links (T : Pk K mg) : DOk P w K mg base 1 T.d_own_links.a T.d_own_links.fd ["net", "nodes"] m_own_links := by
  refine okZ <| okF T.d_own_links.fn sc_own_links (by decide) fun cdv A outer s H E hr => ?_
  have hu : (A.deeper (envOfC "own_links" (defScope st_own_links) s.heap.objs.size T.d_own_links.a cdv)).units + 64 < cLine := by have := hr.un; omega
  have hu5 : (A.deeper (envOfC "own_links" (defScope st_own_links) s.heap.objs.size T.d_own_links.a cdv)).units + 65 < cLine := by have := hr.un; omega
  have tk := takes_of (X := cxOf (L2.CX P w) P w K mg base N_own_links "own_links" (defScope st_own_links) T.d_own_links.a cdv A outer s H E) rfl rfl rfl rfl
  exact ss_one (ss_ret (se_typ r_tuple T.z_tuple (sa_cons (se_fz (se_lc (own := [("name", 2), ("one", 3), ("other", 4)]) rfl sc_own_links.nd (si_any (se_ix (sv 0) (sint))) (blkOk_of (show blkB N_own_links (defScope st_own_links) _ [("name", 2), ("one", 3), ("other", 4)] = true by decide +kernel)) (by decide) (fun s1 H1 C1 cl1 fp1 => sg_tup rfl (sgs_cons (i := 2) (sgs_cons (i := 3) (sgs_cons (i := 4) (sgs_nil) sc_own_links.nd) sc_own_links.nd) sc_own_links.nd)) (fun s1 H1 C1 cl1 fp1 => sts_one ((sw_or (tcmp (r_in hu5) (fun _ _ _ _ h => h) (sv 3) (sv 1) (by rfl)) (sw_or1 (tcmp (r_in hu5) (fun _ _ _ _ h => h) (sv 4) (sv 1) (by rfl)))).pt)) (fun s1 H1 C1 cl1 fp1 => sv 2))) (sa_nil))))
theorem sc_lots_of : FnScope N_lots_of ["near", "gone"] (defScope st_lots_of) := ⟨rfl, rfl, rfl, by decide +kernel, rfl, by decide +kernel, by decide +kernel⟩
theorem ok_lots_of (T : Pk K mg) : DOk P w K mg base 1 T.d_lots_of.a T.d_lots_of.fd ["near", "gone"] m_lots_of := by
  refine okZ <| okF T.d_lots_of.fn sc_lots_of (by decide) fun cdv A outer s H E hr => ?_
  have hu : (A.deeper (envOfC "lots_of" (defScope st_lots_of) s.heap.objs.size T.d_lots_of.a cdv)).units + 64 < cLine := by have := hr.un; omega
  have hu5 : (A.deeper (envOfC "lots_of" (defScope st_lots_of) s.heap.objs.size T.d_lots_of.a cdv)).units + 65 < cLine := by have := hr.un; omega
  have tk := takes_of (X := cxOf (L2.CX P w) P w K mg base N_lots_of "lots_of" (defScope st_lots_of) T.d_lots_of.a cdv A outer s H E) rfl rfl rfl rfl
  exact ss_cons (ss_set (i := 2) (se_typ r_list T.z_list (sa_cons (sv 1) (sa_nil))) sc_lots_of.nd) (
    ss_cons (ss_set (i := 3) (se_lst (sa_nil)) sc_lots_of.nd) (
    ss_cons (ss_for (passes_of rfl) rfl (si_range1 T.z_range (se_blt r_len T.z_len (sa_cons (sv 0) (sa_nil)))) (sg_name (i := 4) sc_lots_of.nd) (ss_cons (ss_if (stru (se_ix (sv 2) (sv 4))) (ss_one (ss_cnt)) (ss_nil)) (
    ss_cons (ss_setIx (sbl) (sv 2) (sv 4)) (
    ss_cons (ss_set (i := 5) (se_lst (sa_cons (sv 4) (sa_nil))) sc_lots_of.nd) (
    ss_cons (ss_set (i := 6) (sint) sc_lots_of.nd) (
    ss_cons (ss_while 100000 (passes_of rfl) (tcmp r_lt (fun _ _ _ _ h => h) (sv 6) (se_blt r_len T.z_len (sa_cons (sv 5) (sa_nil))) (nomark _)) (ss_cons (ss_set (i := 7) (se_ix (sv 0) (se_ix (sv 5) (sv 6))) sc_lots_of.nd) (
    ss_cons (ss_for (passes_of rfl) rfl (si_any (sv 7)) (sg_tup rfl (sgs_cons (i := 8) (sgs_cons (i := 9) (sgs_nil) sc_lots_of.nd) sc_lots_of.nd)) (ss_one (ss_if (st_not (stru (se_ix (sv 2) (sv 8)))) (ss_cons (ss_setIx (sbl) (sv 2) (sv 8)) (
    ss_one (ss_drop (se_app (sv 5) (sv 8))))) (ss_nil)))) (
    ss_one (ss_aug (i := 6) r_addA (sint) sc_lots_of.nd))))) (
    ss_one (ss_drop (se_app (sv 3) (se_fz (se_blt (r_sorted hu) T.z_sorted (sa_cons (sv 5) (sa_nil))))))))))))) (
    ss_one (ss_ret (sv 3)))))
theorem sc_places_of : FnScope N_places_of ["net"] (defScope st_places_of) := ⟨rfl, rfl, rfl, by decide +kernel, rfl, by decide +kernel, by decide +kernel⟩
theorem ok_places_of (T : Pk K mg) : DOk P w K mg base 1 T.d_places_of.a T.d_places_of.fd ["net"] m_places_of := by
  refine okF T.d_places_of.fn sc_places_of (by decide) fun cdv A outer s H E hr => ?_
  have hu : (A.deeper (envOfC "places_of" (defScope st_places_of) s.heap.objs.size T.d_places_of.a cdv)).units + 64 < cLine := by have := hr.un; omega
  have hu5 : (A.deeper (envOfC "places_of" (defScope st_places_of) s.heap.objs.size T.d_places_of.a cdv)).units + 65 < cLine := by have := hr.un; omega
  have tk := takes_of (X := cxOf (L2.CX P w) P w K mg base N_places_of "places_of" (defScope st_places_of) T.d_places_of.a cdv A outer s H E) rfl rfl rfl rfl
  exact ss_cons (ss_setDc (i := 1) (own := [("at", 3), ("node", 4)]) rfl sc_places_of.nd (si_enum T.z_enumerate (se_ix (sv 0) (sint))) (blkOk_of (show blkB N_places_of (defScope st_places_of) _ [("at", 3), ("node", 4)] = true by decide +kernel)) (by decide) (fun s1 H1 C1 cl1 fp1 => sg_tup rfl (sgs_cons (i := 3) (sgs_cons (i := 4) (sgs_nil) sc_places_of.nd) sc_places_of.nd)) (fun s1 H1 C1 cl1 fp1 => sts_nil) (fun s1 H1 C1 cl1 fp1 => sv 4) (fun s1 H1 C1 cl1 fp1 => sv 3) (hsw := by rfl)) (
    ss_cons (ss_setDc (i := 2) (own := [("at", 3), ("link", 5)]) rfl sc_places_of.nd (si_enum T.z_enumerate (se_ix (sv 0) (sint))) (blkOk_of (show blkB N_places_of (defScope st_places_of) _ [("at", 3), ("link", 5)] = true by decide +kernel)) (by decide) (fun s1 H1 C1 cl1 fp1 => sg_tup rfl (sgs_cons (i := 3) (sgs_cons (i := 5) (sgs_nil) sc_places_of.nd) sc_places_of.nd)) (fun s1 H1 C1 cl1 fp1 => sts_nil) (fun s1 H1 C1 cl1 fp1 => se_ix (sv 5) (sint)) (fun s1 H1 C1 cl1 fp1 => sv 3) (hsw := by rfl)) (
    ss_one (ss_ret (se_tup (sa_cons (sv 1) (sa_cons (sv 2) (sa_nil)))))))
theorem sc_near_lists : FnScope N_near_lists ["net"] (defScope st_near_lists) := ⟨rfl, rfl, rfl, by decide +kernel, rfl, by decide +kernel, by decide +kernel⟩
theorem ok_near_lists (T : Pk K mg) : DOk P w K mg base 2 T.d_near_lists.a T.d_near_lists.fd ["net"] m_near_lists := by
  refine okF T.d_near_lists.fn sc_near_lists (by decide) fun cdv A outer s H E hr => ?_
  have hu : (A.deeper (envOfC "near_lists" (defScope st_near_lists) s.heap.objs.size T.d_near_lists.a cdv)).units + 64 < cLine := by have := hr.un; omega
  have hu5 : (A.deeper (envOfC "near_lists" (defScope st_near_lists) s.heap.objs.size T.d_near_lists.a cdv)).units + 65 < cLine := by have := hr.un; omega
  have tk := takes_of (X := cxOf (L2.CX P w) P w K mg base N_near_lists "near_lists" (defScope st_near_lists) T.d_near_lists.a cdv A outer s H E) rfl rfl rfl rfl
  exact ss_cons (ss_set (i := 1) (se_ix (se_call tk ((ok_places_of T).mono (by decide)) hr T.d_places_of.hm T.d_places_of.hk T.d_places_of.bi (sa_cons (sv 0) (sa_nil))) (sint)) sc_near_lists.nd) (
    ss_cons (ss_setLc (i := 2) (own := [("_", 7)]) rfl sc_near_lists.nd (si_any (se_ix (sv 0) (sint))) (blkOk_of (show blkB N_near_lists (defScope st_near_lists) _ [("_", 7)] = true by decide +kernel)) (by decide) (fun s1 H1 C1 cl1 fp1 => sg_name (i := 7) sc_near_lists.nd) (fun s1 H1 C1 cl1 fp1 => sts_nil) (fun s1 H1 C1 cl1 fp1 => se_lst (sa_nil)) (hsw := by rfl)) (
    ss_cons (ss_for (passes_of rfl) rfl (si_enum T.z_enumerate (se_ix (sv 0) (sint))) (sg_tup rfl (sgs_cons (i := 3) (sgs_cons (i := 4) (sgs_nil) sc_near_lists.nd) sc_near_lists.nd)) (ss_cons (ss_set (i := 5) (se_ixX hu (sv 1) (se_ix (sv 4) (sint))) sc_near_lists.nd) (
    ss_cons (ss_set (i := 6) (se_ixX hu (sv 1) (se_ix (sv 4) (sint))) sc_near_lists.nd) (
    ss_cons (ss_drop (se_app (se_ix (sv 2) (sv 5)) (se_tup (sa_cons (sv 6) (sa_cons (sv 3) (sa_nil)))))) (
    ss_one (ss_drop (se_app (se_ix (sv 2) (sv 6)) (se_tup (sa_cons (sv 5) (sa_cons (sv 3) (sa_nil))))))))))) (
    ss_one (ss_ret (sv 2)))))
theorem sc_node_marks : FnScope N_node_marks ["net", "nodes"] (defScope st_node_marks) := ⟨rfl, rfl, rfl, by decide +kernel, rfl, by decide +kernel, by decide +kernel⟩
theorem ok_node_marks (T : Pk K mg) : DOk P w K mg base 2 T.d_node_marks.a T.d_node_marks.fd ["net", "nodes"] m_node_marks := by
  refine okZ <| okF T.d_node_marks.fn sc_node_marks (by decide) fun cdv A outer s H E hr => ?_
  have hu : (A.deeper (envOfC "node_marks" (defScope st_node_marks) s.heap.objs.size T.d_node_marks.a cdv)).units + 64 < cLine := by have := hr.un; omega
  have hu5 : (A.deeper (envOfC "node_marks" (defScope st_node_marks) s.heap.objs.size T.d_node_marks.a cdv)).units + 65 < cLine := by have := hr.un; omega
  have tk := takes_of (X := cxOf (L2.CX P w) P w K mg base N_node_marks "node_marks" (defScope st_node_marks) T.d_node_marks.a cdv A outer s H E) rfl rfl rfl rfl
  exact ss_cons (ss_set (i := 2) (se_ix (se_call tk ((ok_places_of T).mono (by decide)) hr T.d_places_of.hm T.d_places_of.hk T.d_places_of.bi (sa_cons (sv 0) (sa_nil))) (sint)) sc_node_marks.nd) (
    ss_cons (ss_set (i := 3) (sbin r_mulX (fun _ _ _ _ h => h) (se_lst (sa_cons (sbl) (sa_nil))) (se_blt r_len T.z_len (sa_cons (se_ix (sv 0) (sint)) (sa_nil)))) sc_node_marks.nd) (
    ss_cons (ss_for (passes_of rfl) rfl (si_any (sv 1)) (sg_name (i := 4) sc_node_marks.nd) (ss_one (ss_setIx (sbl) (sv 3) (se_ixX hu (sv 2) (sv 4))))) (
    ss_one (ss_ret (sv 3)))))
theorem sc_named_lot : FnScope N_named_lot ["net", "lot"] (defScope st_named_lot) := ⟨rfl, rfl, rfl, by decide +kernel, rfl, by decide +kernel, by decide +kernel⟩
theorem ok_named_lot (T : Pk K mg) : DOk P w K mg base 1 T.d_named_lot.a T.d_named_lot.fd ["net", "lot"] m_named_lot := by
  refine okZ <| okF T.d_named_lot.fn sc_named_lot (by decide) fun cdv A outer s H E hr => ?_
  have hu : (A.deeper (envOfC "named_lot" (defScope st_named_lot) s.heap.objs.size T.d_named_lot.a cdv)).units + 64 < cLine := by have := hr.un; omega
  have hu5 : (A.deeper (envOfC "named_lot" (defScope st_named_lot) s.heap.objs.size T.d_named_lot.a cdv)).units + 65 < cLine := by have := hr.un; omega
  have tk := takes_of (X := cxOf (L2.CX P w) P w K mg base N_named_lot "named_lot" (defScope st_named_lot) T.d_named_lot.a cdv A outer s H E) rfl rfl rfl rfl
  exact ss_one (ss_ret (se_typ r_tuple T.z_tuple (sa_cons (se_fz (se_lc (own := [("place", 2)]) rfl sc_named_lot.nd (si_any (sv 1)) (blkOk_of (show blkB N_named_lot (defScope st_named_lot) _ [("place", 2)] = true by decide +kernel)) (by decide) (fun s1 H1 C1 cl1 fp1 => sg_name (i := 2) sc_named_lot.nd) (fun s1 H1 C1 cl1 fp1 => sts_nil) (fun s1 H1 C1 cl1 fp1 => se_ix (se_ix (sv 0) (sint)) (sv 2)))) (sa_nil))))
theorem sc_lots_without : FnScope N_lots_without ["net", "nodes"] (defScope st_lots_without) := ⟨rfl, rfl, rfl, by decide +kernel, rfl, by decide +kernel, by decide +kernel⟩
theorem ok_lots_without (T : Pk K mg) : DOk P w K mg base 3 T.d_lots_without.a T.d_lots_without.fd ["net", "nodes"] m_lots_without := by
  refine okZ <| okF T.d_lots_without.fn sc_lots_without (by decide) fun cdv A outer s H E hr => ?_
  have hu : (A.deeper (envOfC "lots_without" (defScope st_lots_without) s.heap.objs.size T.d_lots_without.a cdv)).units + 64 < cLine := by have := hr.un; omega
  have hu5 : (A.deeper (envOfC "lots_without" (defScope st_lots_without) s.heap.objs.size T.d_lots_without.a cdv)).units + 65 < cLine := by have := hr.un; omega
  have tk := takes_of (X := cxOf (L2.CX P w) P w K mg base N_lots_without "lots_without" (defScope st_lots_without) T.d_lots_without.a cdv A outer s H E) rfl rfl rfl rfl
  exact ss_cons (ss_set (i := 2) (se_call tk ((ok_lots_of T).mono (by decide)) hr T.d_lots_of.hm T.d_lots_of.hk T.d_lots_of.bi (sa_cons (se_call tk ((ok_near_lists T).mono (by decide)) hr T.d_near_lists.hm T.d_near_lists.hk T.d_near_lists.bi (sa_cons (sv 0) (sa_nil))) (sa_cons (se_call tk ((ok_node_marks T).mono (by decide)) hr T.d_node_marks.hm T.d_node_marks.hk T.d_node_marks.bi (sa_cons (sv 0) (sa_cons (sv 1) (sa_nil)))) (sa_nil)))) sc_lots_without.nd) (
    ss_one (ss_ret (se_typ r_tuple T.z_tuple (sa_cons (se_fz (se_lc (own := [("lot", 3)]) rfl sc_lots_without.nd (si_any (sv 2)) (blkOk_of (show blkB N_lots_without (defScope st_lots_without) _ [("lot", 3)] = true by decide +kernel)) (by decide) (fun s1 H1 C1 cl1 fp1 => sg_name (i := 3) sc_lots_without.nd) (fun s1 H1 C1 cl1 fp1 => sts_nil) (fun s1 H1 C1 cl1 fp1 => se_call (takesN (X := Cx.blk (cxOf (L2.CX P w) P w K mg base N_lots_without "lots_without" (defScope st_lots_without) T.d_lots_without.a cdv A outer s H E) s1 H1 _ (compEnvC _ cl1 C1 (cxOf (L2.CX P w) P w K mg base N_lots_without "lots_without" (defScope st_lots_without) T.d_lots_without.a cdv A outer s H E).env) fp1)) ((ok_named_lot T).mono (by decide)) hr T.d_named_lot.hm T.d_named_lot.hk T.d_named_lot.bi (sa_cons (sv 0) (sa_cons (sv 3) (sa_nil)))))) (sa_nil)))))
theorem sc_hangs_together : FnScope N_hangs_together ["net", "nodes"] (defScope st_hangs_together) := ⟨rfl, rfl, rfl, by decide +kernel, rfl, by decide +kernel, by decide +kernel⟩
theorem ok_hangs_together (T : Pk K mg) : DOk P w K mg base 3 T.d_hangs_together.a T.d_hangs_together.fd ["net", "nodes"] m_hangs_together := by
  refine okZ <| okF T.d_hangs_together.fn sc_hangs_together (by decide) fun cdv A outer s H E hr => ?_
  have hu : (A.deeper (envOfC "hangs_together" (defScope st_hangs_together) s.heap.objs.size T.d_hangs_together.a cdv)).units + 64 < cLine := by have := hr.un; omega
  have hu5 : (A.deeper (envOfC "hangs_together" (defScope st_hangs_together) s.heap.objs.size T.d_hangs_together.a cdv)).units + 65 < cLine := by have := hr.un; omega
  have tk := takes_of (X := cxOf (L2.CX P w) P w K mg base N_hangs_together "hangs_together" (defScope st_hangs_together) T.d_hangs_together.a cdv A outer s H E) rfl rfl rfl rfl
  exact ss_cons (ss_setLcF (i := 2) (own := [("mark", 3)]) rfl sc_hangs_together.nd (si_any (se_call tk ((ok_node_marks T).mono (by decide)) hr T.d_node_marks.hm T.d_node_marks.hk T.d_node_marks.bi (sa_cons (sv 0) (sa_cons (sv 1) (sa_nil))))) (blkOk_of (show blkB N_hangs_together (defScope st_hangs_together) _ [("mark", 3)] = true by decide +kernel)) (by decide) (fun s1 H1 C1 cl1 fp1 => sg_name (i := 3) sc_hangs_together.nd) (fun s1 H1 C1 cl1 fp1 => sts_nil) (fun s1 H1 C1 cl1 fp1 => se_not (sv 3)) (hsw := by rfl)) (
    ss_one (ss_ret (scmp (r_eq hu) (fun _ _ _ _ h => h) (se_blt r_len T.z_len (sa_cons (se_call tk ((ok_lots_of T).mono (by decide)) hr T.d_lots_of.hm T.d_lots_of.hk T.d_lots_of.bi (sa_cons (se_call tk ((ok_near_lists T).mono (by decide)) hr T.d_near_lists.hm T.d_near_lists.hk T.d_near_lists.bi (sa_cons (sv 0) (sa_nil))) (sa_cons (sv 2) (sa_nil)))) (sa_nil))) (sint) (nomark _))))
theorem sc_gates_of : FnScope N_gates_of ["net", "nodes"] (defScope st_gates_of) := ⟨rfl, rfl, rfl, by decide +kernel, rfl, by decide +kernel, by decide +kernel⟩
theorem ok_gates_of (T : Pk K mg) : DOk P w K mg base 1 T.d_gates_of.a T.d_gates_of.fd ["net", "nodes"] m_gates_of := by
  refine okZ <| okF T.d_gates_of.fn sc_gates_of (by decide) fun cdv A outer s H E hr => ?_
  have hu : (A.deeper (envOfC "gates_of" (defScope st_gates_of) s.heap.objs.size T.d_gates_of.a cdv)).units + 64 < cLine := by have := hr.un; omega
  have hu5 : (A.deeper (envOfC "gates_of" (defScope st_gates_of) s.heap.objs.size T.d_gates_of.a cdv)).units + 65 < cLine := by have := hr.un; omega
  have tk := takes_of (X := cxOf (L2.CX P w) P w K mg base N_gates_of "gates_of" (defScope st_gates_of) T.d_gates_of.a cdv A outer s H E) rfl rfl rfl rfl
  exact ss_cons (ss_set (i := 2) (se_lst (sa_nil)) sc_gates_of.nd) (
    ss_cons (ss_for (passes_of rfl) rfl (si_any (se_ix (sv 0) (sint))) (sg_tup rfl (sgs_cons (i := 3) (sgs_cons (i := 4) (sgs_cons (i := 5) (sgs_nil) sc_gates_of.nd) sc_gates_of.nd) sc_gates_of.nd)) (ss_cons (ss_if ((sw_and (tcmp (r_in hu5) (fun _ _ _ _ h => h) (sv 4) (sv 1) (by rfl)) (sw_and1 (tcmp (r_notIn hu5) (fun _ _ _ _ h => h) (sv 5) (sv 1) (by rfl)))).pt) (ss_one (ss_drop (se_app (sv 2) (sv 5)))) (ss_nil)) (
    ss_one (ss_if ((sw_and (tcmp (r_in hu5) (fun _ _ _ _ h => h) (sv 5) (sv 1) (by rfl)) (sw_and1 (tcmp (r_notIn hu5) (fun _ _ _ _ h => h) (sv 4) (sv 1) (by rfl)))).pt) (ss_one (ss_drop (se_app (sv 2) (sv 4)))) (ss_nil))))) (
    ss_one (ss_ret (se_typ r_tuple T.z_tuple (sa_cons (se_fz (se_sset rfl hu T.z_sorted T.z_set (sv 2))) (sa_nil))))))
theorem sc__law_told : FnScope N__law_told ["net", "lot", "turn"] (defScope st__law_told) := ⟨rfl, rfl, rfl, by decide +kernel, rfl, by decide +kernel, by decide +kernel⟩
theorem ok__law_told (T : Pk K mg) : DOk P w K mg base 4 T.d__law_told.a T.d__law_told.fd ["net", "lot", "turn"] m__law_told := by
  refine okZ <| okF T.d__law_told.fn sc__law_told (by decide) fun cdv A outer s H E hr => ?_
  have hu : (A.deeper (envOfC "_law_told" (defScope st__law_told) s.heap.objs.size T.d__law_told.a cdv)).units + 64 < cLine := by have := hr.un; omega
  have hu5 : (A.deeper (envOfC "_law_told" (defScope st__law_told) s.heap.objs.size T.d__law_told.a cdv)).units + 65 < cLine := by have := hr.un; omega
  have tk := takes_of (X := cxOf (L2.CX P w) P w K mg base N__law_told "_law_told" (defScope st__law_told) T.d__law_told.a cdv A outer s H E) rfl rfl rfl rfl
  exact ss_cons (ss_if (tcmp (r_eq hu) (fun _ _ _ _ h => h) (sbin r_mod (fun _ _ _ _ h => h) (se_typ r_intc T.z_int (sa_cons (sv 2) (sa_nil))) (sint)) (sint) (nomark _)) (ss_one (ss_ret (se_tup (sa_cons (se_call tk ((ok_lots_without T).mono (by decide)) hr T.d_lots_without.hm T.d_lots_without.hk T.d_lots_without.bi (sa_cons (sv 0) (sa_cons (sv 1) (sa_nil)))) (sa_cons (se_call tk ((ok_hangs_together T).mono (by decide)) hr T.d_hangs_together.hm T.d_hangs_together.hk T.d_hangs_together.bi (sa_cons (sv 0) (sa_cons (sv 1) (sa_nil)))) (sa_cons (se_call tk ((ok_gates_of T).mono (by decide)) hr T.d_gates_of.hm T.d_gates_of.hk T.d_gates_of.bi (sa_cons (sv 0) (sa_cons (sv 1) (sa_nil)))) (sa_cons (se_call tk ((ok_own_links T).mono (by decide)) hr T.d_own_links.hm T.d_own_links.hk T.d_own_links.bi (sa_cons (sv 0) (sa_cons (sv 1) (sa_nil)))) (sa_nil)))))))) (ss_nil)) (
    ss_cons (ss_set (i := 3) (se_callK0 (ks := ["nodes", "net"]) (pm := [1, 0]) tk ((ok_own_links T).mono (by decide)) hr T.d_own_links.hm T.d_own_links.hk (kb_own_links_1_0 T) rfl (sk_cons (sv 1) (sk_cons (sv 0) (sk_nil)))) sc__law_told.nd) (
    ss_one (ss_ret (se_tup (sa_cons (se_callK0 (ks := ["nodes", "net"]) (pm := [1, 0]) tk ((ok_lots_without T).mono (by decide)) hr T.d_lots_without.hm T.d_lots_without.hk (kb_lots_without_1_0 T) rfl (sk_cons (sv 1) (sk_cons (sv 0) (sk_nil)))) (sa_cons (se_callK0 (ks := ["nodes", "net"]) (pm := [1, 0]) tk ((ok_hangs_together T).mono (by decide)) hr T.d_hangs_together.hm T.d_hangs_together.hk (kb_hangs_together_1_0 T) rfl (sk_cons (sv 1) (sk_cons (sv 0) (sk_nil)))) (sa_cons (se_callK0 (ks := ["nodes", "net"]) (pm := [1, 0]) tk ((ok_gates_of T).mono (by decide)) hr T.d_gates_of.hm T.d_gates_of.hk (kb_gates_of_1_0 T) rfl (sk_cons (sv 1) (sk_cons (sv 0) (sk_nil)))) (sa_cons (sv 3) (sa_nil)))))))))
theorem sc__law_near : FnScope N__law_near ["nodes", "links"] (defScope st__law_near) := ⟨rfl, rfl, rfl, by decide +kernel, rfl, by decide +kernel, by decide +kernel⟩
theorem ok__law_near (T : Pk K mg) : DOk P w K mg base 1 T.d__law_near.a T.d__law_near.fd ["nodes", "links"] m__law_near := by
  refine okF T.d__law_near.fn sc__law_near (by decide) fun cdv A outer s H E hr => ?_
  have hu : (A.deeper (envOfC "_law_near" (defScope st__law_near) s.heap.objs.size T.d__law_near.a cdv)).units + 64 < cLine := by have := hr.un; omega
  have hu5 : (A.deeper (envOfC "_law_near" (defScope st__law_near) s.heap.objs.size T.d__law_near.a cdv)).units + 65 < cLine := by have := hr.un; omega
  have tk := takes_of (X := cxOf (L2.CX P w) P w K mg base N__law_near "_law_near" (defScope st__law_near) T.d__law_near.a cdv A outer s H E) rfl rfl rfl rfl
  exact ss_cons (ss_set (i := 2) (se_dct0) sc__law_near.nd) (
    ss_cons (ss_for (passes_of rfl) rfl (si_any (sv 0)) (sg_name (i := 3) sc__law_near.nd) (ss_one (ss_setX hu (se_lst (sa_nil)) (sv 2) (sv 3)))) (
    ss_cons (ss_for (passes_of rfl) rfl (si_any (sv 1)) (sg_name (i := 4) sc__law_near.nd) (ss_one (ss_if ((sw_and (tcmp (r_inX hu5) (fun _ _ _ _ h => h) (se_ix (sv 4) (sint)) (sv 2) (by rfl)) (sw_and1 (tcmp (r_inX hu5) (fun _ _ _ _ h => h) (se_ix (sv 4) (sint)) (sv 2) (by rfl)))).pt) (ss_cons (ss_drop (se_app (se_ixX hu (sv 2) (se_ix (sv 4) (sint))) (se_ix (sv 4) (sint)))) (
    ss_one (ss_drop (se_app (se_ixX hu (sv 2) (se_ix (sv 4) (sint))) (se_ix (sv 4) (sint)))))) (ss_nil)))) (
    ss_one (ss_ret (sv 2)))))
theorem sc__law_gates : FnScope N__law_gates ["near", "lot"] (defScope st__law_gates) := ⟨rfl, rfl, rfl, by decide +kernel, rfl, by decide +kernel, by decide +kernel⟩
theorem ok__law_gates (T : Pk K mg) : DOk P w K mg base 1 T.d__law_gates.a T.d__law_gates.fd ["near", "lot"] m__law_gates := by
  refine okZ <| okF T.d__law_gates.fn sc__law_gates (by decide) fun cdv A outer s H E hr => ?_
  have hu : (A.deeper (envOfC "_law_gates" (defScope st__law_gates) s.heap.objs.size T.d__law_gates.a cdv)).units + 64 < cLine := by have := hr.un; omega
  have hu5 : (A.deeper (envOfC "_law_gates" (defScope st__law_gates) s.heap.objs.size T.d__law_gates.a cdv)).units + 65 < cLine := by have := hr.un; omega
  have tk := takes_of (X := cxOf (L2.CX P w) P w K mg base N__law_gates "_law_gates" (defScope st__law_gates) T.d__law_gates.a cdv A outer s H E) rfl rfl rfl rfl
  exact ss_cons (ss_set (i := 2) (se_dct0) sc__law_gates.nd) (
    ss_cons (ss_for (passes_of rfl) rfl (si_any (sv 1)) (sg_name (i := 3) sc__law_gates.nd) (ss_one (ss_setX hu (sbl) (sv 2) (sv 3)))) (
    ss_cons (ss_set (i := 4) (se_lst (sa_nil)) sc__law_gates.nd) (
    ss_cons (ss_for (passes_of rfl) rfl (si_any (sv 1)) (sg_name (i := 3) sc__law_gates.nd) (ss_one (ss_for (passes_of rfl) rfl (si_any (se_ixX hu (sv 0) (sv 3))) (sg_name (i := 5) sc__law_gates.nd) (ss_one (ss_if ((sw_and (tcmp (r_notInX hu5) (fun _ _ _ _ h => h) (sv 5) (sv 2) (by rfl)) (sw_and1 (tcmp (r_notIn hu5) (fun _ _ _ _ h => h) (sv 5) (sv 4) (by rfl)))).pt) (ss_one (ss_drop (se_app (sv 4) (sv 5)))) (ss_nil)))))) (
    ss_one (ss_ret (se_typ r_tuple T.z_tuple (sa_cons (se_fz (se_blt (r_sorted hu) T.z_sorted (sa_cons (sv 4) (sa_nil)))) (sa_nil))))))))
theorem sc__law_owns : FnScope N__law_owns ["net", "lot"] (defScope st__law_owns) := ⟨rfl, rfl, rfl, by decide +kernel, rfl, by decide +kernel, by decide +kernel⟩
theorem ok__law_owns (T : Pk K mg) : DOk P w K mg base 1 T.d__law_owns.a T.d__law_owns.fd ["net", "lot"] m__law_owns := by
  refine okZ <| okF T.d__law_owns.fn sc__law_owns (by decide) fun cdv A outer s H E hr => ?_
  have hu : (A.deeper (envOfC "_law_owns" (defScope st__law_owns) s.heap.objs.size T.d__law_owns.a cdv)).units + 64 < cLine := by have := hr.un; omega
  have hu5 : (A.deeper (envOfC "_law_owns" (defScope st__law_owns) s.heap.objs.size T.d__law_owns.a cdv)).units + 65 < cLine := by have := hr.un; omega
  have tk := takes_of (X := cxOf (L2.CX P w) P w K mg base N__law_owns "_law_owns" (defScope st__law_owns) T.d__law_owns.a cdv A outer s H E) rfl rfl rfl rfl
  exact ss_one (ss_ret (se_typ r_tuple T.z_tuple (sa_cons (se_fz (se_lc (own := [("link", 2)]) rfl sc__law_owns.nd (si_any (se_ix (sv 0) (sint))) (blkOk_of (show blkB N__law_owns (defScope st__law_owns) _ [("link", 2)] = true by decide +kernel)) (by decide) (fun s1 H1 C1 cl1 fp1 => sg_name (i := 2) sc__law_owns.nd) (fun s1 H1 C1 cl1 fp1 => sts_one ((sw_or (tcmp (r_in hu5) (fun _ _ _ _ h => h) (se_ix (sv 2) (sint)) (sv 1) (by rfl)) (sw_or1 (tcmp (r_in hu5) (fun _ _ _ _ h => h) (se_ix (sv 2) (sint)) (sv 1) (by rfl)))).pt)) (fun s1 H1 C1 cl1 fp1 => se_ix (sv 2) (sint)))) (sa_nil))))
theorem sc__law_lots : FnScope N__law_lots ["near", "out"] (defScope st__law_lots) := ⟨rfl, rfl, rfl, by decide +kernel, rfl, by decide +kernel, by decide +kernel⟩
theorem ok__law_lots (T : Pk K mg) : DOk P w K mg base 1 T.d__law_lots.a T.d__law_lots.fd ["near", "out"] m__law_lots := by
  refine okZ <| okF T.d__law_lots.fn sc__law_lots (by decide) fun cdv A outer s H E hr => ?_
  have hu : (A.deeper (envOfC "_law_lots" (defScope st__law_lots) s.heap.objs.size T.d__law_lots.a cdv)).units + 64 < cLine := by have := hr.un; omega
  have hu5 : (A.deeper (envOfC "_law_lots" (defScope st__law_lots) s.heap.objs.size T.d__law_lots.a cdv)).units + 65 < cLine := by have := hr.un; omega
  have tk := takes_of (X := cxOf (L2.CX P w) P w K mg base N__law_lots "_law_lots" (defScope st__law_lots) T.d__law_lots.a cdv A outer s H E) rfl rfl rfl rfl
  exact ss_cons (ss_set (i := 2) (se_dct0) sc__law_lots.nd) (
    ss_cons (ss_set (i := 3) (se_lst (sa_nil)) sc__law_lots.nd) (
    ss_cons (ss_for (passes_of rfl) rfl (si_any (se_fz (se_blt (r_sorted hu) T.z_sorted (sa_cons (se_fz (se_typ (r_listX rfl) T.z_list (sa_cons (sv 0) (sa_nil)))) (sa_nil))))) (sg_name (i := 4) sc__law_lots.nd) (ss_cons (ss_if ((sw_or (tcmp (r_inX hu5) (fun _ _ _ _ h => h) (sv 4) (sv 2) (by rfl)) (sw_or1 (tcmp (r_in hu5) (fun _ _ _ _ h => h) (sv 4) (sv 1) (by rfl)))).pt) (ss_one (ss_cnt)) (ss_nil)) (
    ss_cons (ss_set (i := 5) (se_lst (sa_cons (sv 4) (sa_nil))) sc__law_lots.nd) (
    ss_cons (ss_setX hu (sbl) (sv 2) (sv 4)) (
    ss_cons (ss_set (i := 6) (sint) sc__law_lots.nd) (
    ss_cons (ss_while 100000 (passes_of rfl) (tcmp r_lt (fun _ _ _ _ h => h) (sv 6) (se_blt r_len T.z_len (sa_cons (sv 5) (sa_nil))) (nomark _)) (ss_cons (ss_set (i := 7) (se_ixX hu (sv 0) (se_ix (sv 5) (sv 6))) sc__law_lots.nd) (
    ss_cons (ss_for (passes_of rfl) rfl (si_any (sv 7)) (sg_name (i := 8) sc__law_lots.nd) (ss_one (ss_if ((sw_and (tcmp (r_notInX hu5) (fun _ _ _ _ h => h) (sv 8) (sv 2) (by rfl)) (sw_and1 (tcmp (r_notIn hu5) (fun _ _ _ _ h => h) (sv 8) (sv 1) (by rfl)))).pt) (ss_cons (ss_setX hu (sbl) (sv 2) (sv 8)) (
    ss_one (ss_drop (se_app (sv 5) (sv 8))))) (ss_nil)))) (
    ss_one (ss_set (i := 6) (sbin r_add (fun _ _ _ _ h => h) (sv 6) (sint)) sc__law_lots.nd))))) (
    ss_one (ss_drop (se_app (sv 3) (se_typ r_tuple T.z_tuple (sa_cons (se_fz (se_blt (r_sorted hu) T.z_sorted (sa_cons (sv 5) (sa_nil)))) (sa_nil)))))))))))) (
    ss_one (ss_ret (sv 3)))))
theorem sc__law_due : FnScope N__law_due ["net", "lot"] (defScope st__law_due) := ⟨rfl, rfl, rfl, by decide +kernel, rfl, by decide +kernel, by decide +kernel⟩
theorem ok__law_due (T : Pk K mg) : DOk P w K mg base 2 T.d__law_due.a T.d__law_due.fd ["net", "lot"] m__law_due := by
  refine okZ <| okF T.d__law_due.fn sc__law_due (by decide) fun cdv A outer s H E hr => ?_
  have hu : (A.deeper (envOfC "_law_due" (defScope st__law_due) s.heap.objs.size T.d__law_due.a cdv)).units + 64 < cLine := by have := hr.un; omega
  have hu5 : (A.deeper (envOfC "_law_due" (defScope st__law_due) s.heap.objs.size T.d__law_due.a cdv)).units + 65 < cLine := by have := hr.un; omega
  have tk := takes_of (X := cxOf (L2.CX P w) P w K mg base N__law_due "_law_due" (defScope st__law_due) T.d__law_due.a cdv A outer s H E) rfl rfl rfl rfl
  exact ss_cons (ss_set (i := 2) (se_call tk ((ok__law_near T).mono (by decide)) hr T.d__law_near.hm T.d__law_near.hk T.d__law_near.bi (sa_cons (se_ix (sv 0) (sint)) (sa_cons (se_ix (sv 0) (sint)) (sa_nil)))) sc__law_due.nd) (
    ss_cons (ss_set (i := 3) (se_typ r_tuple T.z_tuple (sa_cons (se_fz (se_lc (own := [("node", 5)]) rfl sc__law_due.nd (si_any (se_ix (sv 0) (sint))) (blkOk_of (show blkB N__law_due (defScope st__law_due) _ [("node", 5)] = true by decide +kernel)) (by decide) (fun s1 H1 C1 cl1 fp1 => sg_name (i := 5) sc__law_due.nd) (fun s1 H1 C1 cl1 fp1 => sts_one (tcmp (r_notIn hu5) (fun _ _ _ _ h => h) (sv 5) (sv 1) (by rfl))) (fun s1 H1 C1 cl1 fp1 => sv 5))) (sa_nil))) sc__law_due.nd) (
    ss_cons (ss_set (i := 4) (scmp (r_eq hu) (fun _ _ _ _ h => h) (se_blt r_len T.z_len (sa_cons (se_call tk ((ok__law_lots T).mono (by decide)) hr T.d__law_lots.hm T.d__law_lots.hk T.d__law_lots.bi (sa_cons (sv 2) (sa_cons (sv 3) (sa_nil)))) (sa_nil))) (sint) (nomark _)) sc__law_due.nd) (
    ss_one (ss_ret (se_tup (sa_cons (se_typ r_tuple T.z_tuple (sa_cons (se_call tk ((ok__law_lots T).mono (by decide)) hr T.d__law_lots.hm T.d__law_lots.hk T.d__law_lots.bi (sa_cons (sv 2) (sa_cons (sv 1) (sa_nil)))) (sa_nil))) (sa_cons (sv 4) (sa_cons (se_call tk ((ok__law_gates T).mono (by decide)) hr T.d__law_gates.hm T.d__law_gates.hk T.d__law_gates.bi (sa_cons (sv 2) (sa_cons (sv 1) (sa_nil)))) (sa_cons (se_call tk ((ok__law_owns T).mono (by decide)) hr T.d__law_owns.hm T.d__law_owns.hk T.d__law_owns.bi (sa_cons (sv 0) (sa_cons (sv 1) (sa_nil)))) (sa_nil))))))))))
theorem sc__law_row : FnScope N__law_row ["pool"] (defScope st__law_row) := ⟨rfl, rfl, rfl, by decide +kernel, rfl, by decide +kernel, by decide +kernel⟩
theorem ok__law_row (T : Pk K mg) : DOk P w K mg base 5 T.d__law_row.a T.d__law_row.fd ["pool"] m__law_row := by
  refine okZ <| okF T.d__law_row.fn sc__law_row (by decide) fun cdv A outer s H E hr => ?_
  have hu : (A.deeper (envOfC "_law_row" (defScope st__law_row) s.heap.objs.size T.d__law_row.a cdv)).units + 64 < cLine := by have := hr.un; omega
  have hu5 : (A.deeper (envOfC "_law_row" (defScope st__law_row) s.heap.objs.size T.d__law_row.a cdv)).units + 65 < cLine := by have := hr.un; omega
  have tk := takes_of (X := cxOf (L2.CX P w) P w K mg base N__law_row "_law_row" (defScope st__law_row) T.d__law_row.a cdv A outer s H E) rfl rfl rfl rfl
  exact ss_cons (ss_set (i := 1) (sbin r_add (fun _ _ _ _ h => h) (sint) (se_call tk ((ok__law_pick T).mono (by decide)) hr T.d__law_pick.hm T.d__law_pick.hk T.d__law_pick.bi (sa_cons (sv 0) (sa_cons (sint) (sa_nil))))) sc__law_row.nd) (
    ss_cons (ss_set (i := 2) (se_call tk ((ok__law_base T).mono (by decide)) hr T.d__law_base.hm T.d__law_base.hk T.d__law_base.bi (sa_cons (sint) (sa_cons (sv 1) (sa_nil)))) sc__law_row.nd) (
    ss_cons (ss_set (i := 3) (se_call tk ((ok__law_dress T).mono (by decide)) hr T.d__law_dress.hm T.d__law_dress.hk T.d__law_dress.bi (sa_cons (sv 0) (sa_cons (se_fz (se_lst (sa_cons (se_ix (sv 2) (sint)) (sa_cons (se_ix (sv 2) (sint)) (sa_cons (se_fz (se_lst (sa_cons (sint) (sa_cons (sint) (sa_nil))))) (sa_cons (se_fz (se_lst (sa_nil))) (sa_nil))))))) (sa_nil)))) sc__law_row.nd) (
    ss_cons (ss_set (i := 4) (se_ix (sv 3) (sint)) sc__law_row.nd) (
    ss_cons (ss_set (i := 5) (se_ix (sv 3) (sint)) sc__law_row.nd) (
    ss_cons (ss_set (i := 6) (se_fz (se_lst (sa_cons (se_ix (sv 4) (sint)) (sa_cons (se_ix (sv 4) (sint)) (sa_cons (se_tup (sa_cons (se_ix (sv 5) (sbin r_add (fun _ _ _ _ h => h) (sint) (se_call tk ((ok__law_pick T).mono (by decide)) hr T.d__law_pick.hm T.d__law_pick.hk T.d__law_pick.bi (sa_cons (sv 0) (sa_cons (sv 1) (sa_nil)))))) (sa_nil))) (sa_cons (se_typ r_tuple T.z_tuple (sa_cons (se_fz (se_blt (r_sorted hu) T.z_sorted (sa_cons (se_sl (sv 5) (so_some (sint)) (so_none)) (sa_nil)))) (sa_nil))) (sa_cons (se_tup (sa_nil)) (sa_nil)))))))) sc__law_row.nd) (
    ss_cons (ss_for (passes_of rfl) rfl (si_range1 T.z_range (se_blt r_len T.z_len (sa_cons (sv 6) (sa_nil)))) (sg_name (i := 7) sc__law_row.nd) (ss_one (ss_if (st_not (stru (se_call tk ((ok__law_same T).mono (by decide)) hr T.d__law_same.hm T.d__law_same.hk T.d__law_same.bi (sa_cons (se_call tk ((ok__law_told T).mono (by decide)) hr T.d__law_told.hm T.d__law_told.hk T.d__law_told.bi (sa_cons (sv 4) (sa_cons (se_ix (sv 6) (sv 7)) (sa_cons (sv 7) (sa_nil))))) (sa_cons (se_call tk ((ok__law_due T).mono (by decide)) hr T.d__law_due.hm T.d__law_due.hk T.d__law_due.bi (sa_cons (sv 4) (sa_cons (se_ix (sv 6) (sv 7)) (sa_nil)))) (sa_nil)))))) (ss_one (ss_ret (sbl))) (ss_nil)))) (
    ss_one (ss_ret (sbl)))))))))
theorem sc__law_grown : FnScope N__law_grown ["pool", "kind", "size", "turns", "most", "wires"] (defScope st__law_grown) := ⟨rfl, rfl, rfl, by decide +kernel, rfl, by decide +kernel, by decide +kernel⟩
theorem ok__law_grown (T : Pk K mg) : DOk P w K mg base 3 T.d__law_grown.a T.d__law_grown.fd ["pool", "kind", "size", "turns", "most", "wires"] m__law_grown := by
  refine okF T.d__law_grown.fn sc__law_grown (by decide) fun cdv A outer s H E hr => ?_
  have hu : (A.deeper (envOfC "_law_grown" (defScope st__law_grown) s.heap.objs.size T.d__law_grown.a cdv)).units + 64 < cLine := by have := hr.un; omega
  have hu5 : (A.deeper (envOfC "_law_grown" (defScope st__law_grown) s.heap.objs.size T.d__law_grown.a cdv)).units + 65 < cLine := by have := hr.un; omega
  have tk := takes_of (X := cxOf (L2.CX P w) P w K mg base N__law_grown "_law_grown" (defScope st__law_grown) T.d__law_grown.a cdv A outer s H E) rfl rfl rfl rfl
  exact ss_cons (ss_set (i := 6) (se_call tk ((ok__law_base T).mono (by decide)) hr T.d__law_base.hm T.d__law_base.hk T.d__law_base.bi (sa_cons (sv 1) (sa_cons (sv 2) (sa_nil)))) sc__law_grown.nd) (
    ss_cons (ss_for (passes_of rfl) rfl (si_range1 T.z_range (sv 2)) (sg_name (i := 7) sc__law_grown.nd) (ss_cons (ss_if ((sw_and (tcmp r_le (fun _ _ _ _ h => h) (se_ix (sv 6) (sint)) (sv 4) (nomark _)) (sw_and1 (tcmp r_le (fun _ _ _ _ h => h) (se_blt r_len T.z_len (sa_cons (se_ix (sv 6) (sint)) (sa_nil))) (sv 5) (nomark _)))).pt) (ss_one (ss_brk)) (ss_nil)) (
    ss_one (ss_set (i := 6) (se_call tk ((ok__law_base T).mono (by decide)) hr T.d__law_base.hm T.d__law_base.hk T.d__law_base.bi (sa_cons (sv 1) (sa_cons (sbin r_sub (fun _ _ _ _ h => h) (sbin r_sub (fun _ _ _ _ h => h) (sv 2) (sint)) (sv 7)) (sa_nil)))) sc__law_grown.nd)))) (
    ss_cons (ss_for (passes_of rfl) rfl (si_range1 T.z_range (sv 3)) (sg_name (i := 7) sc__law_grown.nd) (ss_cons (ss_set (i := 8) (se_call tk ((ok__law_pick T).mono (by decide)) hr T.d__law_pick.hm T.d__law_pick.hk T.d__law_pick.bi (sa_cons (sv 0) (sa_cons (sint) (sa_nil)))) sc__law_grown.nd) (
    ss_cons (ss_set (i := 9) (se_ix (sv 6) (sint)) sc__law_grown.nd) (
    ss_cons (ss_set (i := 10) (se_call tk ((ok__law_pick T).mono (by decide)) hr T.d__law_pick.hm T.d__law_pick.hk T.d__law_pick.bi (sa_cons (sv 0) (sa_cons (se_ix (sv 6) (sint)) (sa_nil)))) sc__law_grown.nd) (
    ss_cons (ss_set (i := 11) (se_call tk ((ok__law_pick T).mono (by decide)) hr T.d__law_pick.hm T.d__law_pick.hk T.d__law_pick.bi (sa_cons (sv 0) (sa_cons (se_ix (sv 6) (sint)) (sa_nil)))) sc__law_grown.nd) (
    ss_cons (ss_set (i := 12) (se_call tk ((ok__law_pick T).mono (by decide)) hr T.d__law_pick.hm T.d__law_pick.hk T.d__law_pick.bi (sa_cons (sv 0) (sa_cons (sbin r_add (fun _ _ _ _ h => h) (se_blt r_len T.z_len (sa_cons (sv 9) (sa_nil))) (sint)) (sa_nil)))) sc__law_grown.nd) (
    ss_cons (ss_if ((sw_and (tcmp r_lt (fun _ _ _ _ h => h) (sv 8) (sint) (nomark _)) (sw_and1 ((sw_or (tcmp r_ge (fun _ _ _ _ h => h) (se_blt r_len T.z_len (sa_cons (sv 9) (sa_nil))) (sv 5) (nomark _)) (sw_or1 (tcmp r_ge (fun _ _ _ _ h => h) (sv 12) (se_blt r_len T.z_len (sa_cons (sv 9) (sa_nil))) (nomark _)))).pt))).pt) (ss_one (ss_cnt)) (ss_nil)) (
    ss_cons (ss_if ((sw_and (tcmp (r_in hu5) (fun _ _ _ _ h => h) (sv 8) (se_tup (sa_cons (sint) (sa_cons (sint) (sa_cons (sint) (sa_cons (sint) (sa_nil)))))) (by rfl)) (sw_and1 (tcmp r_ge (fun _ _ _ _ h => h) (se_ix (sv 6) (sint)) (sv 4) (nomark _)))).pt) (ss_one (ss_cnt)) (ss_nil)) (
    ss_one (ss_if (tcmp (r_in hu5) (fun _ _ _ _ h => h) (sv 8) (se_tup (sa_cons (sint) (sa_cons (sint) (sa_nil)))) (by rfl)) (ss_one (ss_set (i := 6) (se_fz (se_lst (sa_cons (se_ix (sv 6) (sint)) (sa_cons (se_fz (sbin r_addX (fun _ _ _ _ h => h) (sv 9) (se_lst (sa_cons (se_ix (sv 9) (sv 12)) (sa_nil))))) (sa_nil))))) sc__law_grown.nd)) (ss_one (ss_if (tcmp (r_eq hu) (fun _ _ _ _ h => h) (sv 8) (sint) (nomark _)) (ss_one (ss_set (i := 6) (se_fz (se_lst (sa_cons (sbin r_add (fun _ _ _ _ h => h) (se_ix (sv 6) (sint)) (sint)) (sa_cons (se_fz (sbin r_addX (fun _ _ _ _ h => h) (se_fz (sbin r_addX (fun _ _ _ _ h => h) (se_sl (sv 9) (so_none) (so_some (sv 12))) (se_lst (sa_cons (se_tup (sa_cons (se_ix (se_ix (sv 9) (sv 12)) (sint)) (sa_cons (se_ix (sv 6) (sint)) (sa_nil)))) (sa_cons (se_tup (sa_cons (se_ix (sv 6) (sint)) (sa_cons (se_ix (se_ix (sv 9) (sv 12)) (sint)) (sa_nil)))) (sa_nil)))))) (se_sl (sv 9) (so_some (sbin r_add (fun _ _ _ _ h => h) (sv 12) (sint))) (so_none)))) (sa_nil))))) sc__law_grown.nd)) (ss_one (ss_if ((sw_and (tcmp (r_eq hu) (fun _ _ _ _ h => h) (sv 8) (sint) (nomark _)) (sw_and1 (tcmp r_le (fun _ _ _ _ h => h) (sbin r_add (fun _ _ _ _ h => h) (se_blt r_len T.z_len (sa_cons (sv 9) (sa_nil))) (sint)) (sv 5) (nomark _)))).pt) (ss_one (ss_set (i := 6) (se_fz (se_lst (sa_cons (sbin r_add (fun _ _ _ _ h => h) (se_ix (sv 6) (sint)) (sint)) (sa_cons (se_fz (sbin r_addX (fun _ _ _ _ h => h) (sv 9) (se_lst (sa_cons (se_tup (sa_cons (se_ix (se_ix (sv 9) (sv 12)) (sint)) (sa_cons (se_ix (sv 6) (sint)) (sa_nil)))) (sa_cons (se_tup (sa_cons (se_ix (sv 6) (sint)) (sa_cons (se_ix (se_ix (sv 9) (sv 12)) (sint)) (sa_nil)))) (sa_nil)))))) (sa_nil))))) sc__law_grown.nd)) (ss_one (ss_if (tcmp (r_eq hu) (fun _ _ _ _ h => h) (sv 8) (sint) (nomark _)) (ss_one (ss_set (i := 6) (se_fz (se_lst (sa_cons (sbin r_add (fun _ _ _ _ h => h) (se_ix (sv 6) (sint)) (sint)) (sa_cons (se_fz (sbin r_addX (fun _ _ _ _ h => h) (sv 9) (se_lst (sa_cons (se_tup (sa_cons (sv 10) (sa_cons (se_ix (sv 6) (sint)) (sa_nil)))) (sa_nil))))) (sa_nil))))) sc__law_grown.nd)) (ss_one (ss_if ((sw_and (tcmp (r_in hu5) (fun _ _ _ _ h => h) (sv 8) (se_tup (sa_cons (sint) (sa_cons (sint) (sa_nil)))) (by rfl)) (sw_and1 (tcmp (r_ne hu) (fun _ _ _ _ h => h) (sv 10) (sv 11) (nomark _)))).pt) (ss_one (ss_set (i := 6) (se_fz (se_lst (sa_cons (se_ix (sv 6) (sint)) (sa_cons (se_fz (sbin r_addX (fun _ _ _ _ h => h) (sv 9) (se_lst (sa_cons (se_tup (sa_cons (sv 10) (sa_cons (sv 11) (sa_nil)))) (sa_nil))))) (sa_nil))))) sc__law_grown.nd)) (ss_one (ss_if (tcmp (r_eq hu) (fun _ _ _ _ h => h) (sv 8) (sint) (nomark _)) (ss_one (ss_set (i := 6) (se_fz (se_lst (sa_cons (sbin r_add (fun _ _ _ _ h => h) (se_ix (sv 6) (sint)) (sint)) (sa_cons (sv 9) (sa_nil))))) sc__law_grown.nd)) (ss_one (ss_if ((sw_and (tcmp (r_eq hu) (fun _ _ _ _ h => h) (sv 8) (sint) (nomark _)) (sw_and (tcmp r_lt (fun _ _ _ _ h => h) (sv 12) (se_blt r_len T.z_len (sa_cons (sv 9) (sa_nil))) (nomark _)) (sw_and (tcmp r_le (fun _ _ _ _ h => h) (sbin r_add (fun _ _ _ _ h => h) (se_ix (sv 6) (sint)) (sint)) (sv 4) (nomark _)) (sw_and1 (tcmp r_le (fun _ _ _ _ h => h) (sbin r_add (fun _ _ _ _ h => h) (se_blt r_len T.z_len (sa_cons (sv 9) (sa_nil))) (sint)) (sv 5) (nomark _)))))).pt) (ss_cons (ss_set (i := 13) (se_fz (se_lst (sa_cons (se_tup (sa_cons (se_ix (se_ix (sv 9) (sv 12)) (sint)) (sa_cons (se_ix (sv 6) (sint)) (sa_nil)))) (sa_cons (se_tup (sa_cons (se_ix (se_ix (sv 9) (sv 12)) (sint)) (sa_cons (sbin r_add (fun _ _ _ _ h => h) (se_ix (sv 6) (sint)) (sint)) (sa_nil)))) (sa_cons (se_tup (sa_cons (se_ix (sv 6) (sint)) (sa_cons (sbin r_add (fun _ _ _ _ h => h) (se_ix (sv 6) (sint)) (sint)) (sa_nil)))) (sa_nil)))))) sc__law_grown.nd) (
    ss_cons (ss_set (i := 13) (se_fz (sbin r_addX (fun _ _ _ _ h => h) (sv 13) (se_lst (sa_cons (se_tup (sa_cons (se_ix (sv 6) (sint)) (sa_cons (se_ix (se_ix (sv 9) (sv 12)) (sint)) (sa_nil)))) (sa_cons (se_tup (sa_cons (sbin r_add (fun _ _ _ _ h => h) (se_ix (sv 6) (sint)) (sint)) (sa_cons (se_ix (se_ix (sv 9) (sv 12)) (sint)) (sa_nil)))) (sa_nil)))))) sc__law_grown.nd) (
    ss_one (ss_set (i := 6) (se_fz (se_lst (sa_cons (sbin r_add (fun _ _ _ _ h => h) (se_ix (sv 6) (sint)) (sint)) (sa_cons (se_fz (sbin r_addX (fun _ _ _ _ h => h) (se_fz (sbin r_addX (fun _ _ _ _ h => h) (se_sl (sv 9) (so_none) (so_some (sv 12))) (sv 13))) (se_sl (sv 9) (so_some (sbin r_add (fun _ _ _ _ h => h) (sv 12) (sint))) (so_none)))) (sa_nil))))) sc__law_grown.nd)))) (ss_nil))))))))))))))))))))))) (
    ss_one (ss_ret (sv 6)))))
theorem sc__law_watch : FnScope N__law_watch ["pool", "many"] (defScope st__law_watch) := ⟨rfl, rfl, rfl, by decide +kernel, rfl, by decide +kernel, by decide +kernel⟩
theorem ok__law_watch (T : Pk K mg) : DOk P w K mg base 2 T.d__law_watch.a T.d__law_watch.fd ["pool", "many"] m__law_watch := by
  refine okZ <| okF T.d__law_watch.fn sc__law_watch (by decide) fun cdv A outer s H E hr => ?_
  have hu : (A.deeper (envOfC "_law_watch" (defScope st__law_watch) s.heap.objs.size T.d__law_watch.a cdv)).units + 64 < cLine := by have := hr.un; omega
  have hu5 : (A.deeper (envOfC "_law_watch" (defScope st__law_watch) s.heap.objs.size T.d__law_watch.a cdv)).units + 65 < cLine := by have := hr.un; omega
  have tk := takes_of (X := cxOf (L2.CX P w) P w K mg base N__law_watch "_law_watch" (defScope st__law_watch) T.d__law_watch.a cdv A outer s H E) rfl rfl rfl rfl
  exact ss_cons (ss_set (i := 2) (se_call tk ((ok__law_pick T).mono (by decide)) hr T.d__law_pick.hm T.d__law_pick.hk T.d__law_pick.bi (sa_cons (sv 0) (sa_cons (sint) (sa_nil)))) sc__law_watch.nd) (
    ss_cons (ss_if (tcmp r_lt (fun _ _ _ _ h => h) (sv 2) (sint) (nomark _)) (ss_one (ss_ret (se_fz (se_lst (sa_cons (sint) (sa_cons (sint) (sa_nil))))))) (ss_nil)) (
    ss_cons (ss_if (tcmp (r_eq hu) (fun _ _ _ _ h => h) (sv 2) (sint) (nomark _)) (ss_one (ss_ret (se_fz (se_lst (sa_nil))))) (ss_nil)) (
    ss_cons (ss_if (tcmp (r_eq hu) (fun _ _ _ _ h => h) (sv 2) (sint) (nomark _)) (ss_one (ss_ret (se_fz (se_lst (sa_cons (se_call tk ((ok__law_pick T).mono (by decide)) hr T.d__law_pick.hm T.d__law_pick.hk T.d__law_pick.bi (sa_cons (sv 0) (sa_cons (sv 1) (sa_nil)))) (sa_nil)))))) (ss_nil)) (
    ss_cons (ss_if (tcmp (r_eq hu) (fun _ _ _ _ h => h) (sv 2) (sint) (nomark _)) (ss_one (ss_ret (se_fz (se_sset rfl hu T.z_sorted T.z_set (se_fz (se_lst (sa_cons (sint) (sa_cons (sint) (sa_cons (se_call tk ((ok__law_pick T).mono (by decide)) hr T.d__law_pick.hm T.d__law_pick.hk T.d__law_pick.bi (sa_cons (sv 0) (sa_cons (sv 1) (sa_nil)))) (sa_nil)))))))))) (ss_nil)) (
    ss_one (ss_ret (se_fz (se_lc (own := [("at", 3)]) rfl sc__law_watch.nd (si_range1 T.z_range (sv 1)) (blkOk_of (show blkB N__law_watch (defScope st__law_watch) _ [("at", 3)] = true by decide +kernel)) (by decide) (fun s1 H1 C1 cl1 fp1 => sg_name (i := 3) sc__law_watch.nd) (fun s1 H1 C1 cl1 fp1 => sts_one (tcmp (r_eq hu) (fun _ _ _ _ h => h) (se_call (takesN (X := Cx.blk (cxOf (L2.CX P w) P w K mg base N__law_watch "_law_watch" (defScope st__law_watch) T.d__law_watch.a cdv A outer s H E) s1 H1 _ (compEnvC _ cl1 C1 (cxOf (L2.CX P w) P w K mg base N__law_watch "_law_watch" (defScope st__law_watch) T.d__law_watch.a cdv A outer s H E).env) fp1)) ((ok__law_pick T).mono (by decide)) hr T.d__law_pick.hm T.d__law_pick.hk T.d__law_pick.bi (sa_cons (sv 0) (sa_cons (sint) (sa_nil)))) (sint) (nomark _))) (fun s1 H1 C1 cl1 fp1 => sv 3)))))))))
theorem sc__law_drawn : FnScope N__law_drawn ["pool", "most", "wires"] (defScope st__law_drawn) := ⟨rfl, rfl, rfl, by decide +kernel, rfl, by decide +kernel, by decide +kernel⟩
theorem ok__law_drawn (T : Pk K mg) : DOk P w K mg base 4 T.d__law_drawn.a T.d__law_drawn.fd ["pool", "most", "wires"] m__law_drawn := by
  refine okF T.d__law_drawn.fn sc__law_drawn (by decide) fun cdv A outer s H E hr => ?_
  have hu : (A.deeper (envOfC "_law_drawn" (defScope st__law_drawn) s.heap.objs.size T.d__law_drawn.a cdv)).units + 64 < cLine := by have := hr.un; omega
  have hu5 : (A.deeper (envOfC "_law_drawn" (defScope st__law_drawn) s.heap.objs.size T.d__law_drawn.a cdv)).units + 65 < cLine := by have := hr.un; omega
  have tk := takes_of (X := cxOf (L2.CX P w) P w K mg base N__law_drawn "_law_drawn" (defScope st__law_drawn) T.d__law_drawn.a cdv A outer s H E) rfl rfl rfl rfl
  exact ss_cons (ss_set (i := 3) (se_call tk ((ok__law_pick T).mono (by decide)) hr T.d__law_pick.hm T.d__law_pick.hk T.d__law_pick.bi (sa_cons (sv 0) (sa_cons (sint) (sa_nil)))) sc__law_drawn.nd) (
    ss_cons (ss_if (tcmp (r_eq hu) (fun _ _ _ _ h => h) (sv 3) (sint) (nomark _)) (ss_cons (ss_set (i := 4) (se_call tk ((ok__law_pick T).mono (by decide)) hr T.d__law_pick.hm T.d__law_pick.hk T.d__law_pick.bi (sa_cons (sv 0) (sa_cons (sbin r_add (fun _ _ _ _ h => h) (sv 1) (sint)) (sa_nil)))) sc__law_drawn.nd) (
    ss_cons (ss_set (i := 5) (se_lst (sa_nil)) sc__law_drawn.nd) (
    ss_cons (ss_for (passes_of rfl) rfl (si_range1 T.z_range (se_call tk ((ok__law_pick T).mono (by decide)) hr T.d__law_pick.hm T.d__law_pick.hk T.d__law_pick.bi (sa_cons (sv 0) (sa_cons (sbin r_add (fun _ _ _ _ h => h) (sv 2) (sint)) (sa_nil))))) (sg_name (i := 6) sc__law_drawn.nd) (ss_cons (ss_set (i := 7) (se_call tk ((ok__law_pick T).mono (by decide)) hr T.d__law_pick.hm T.d__law_pick.hk T.d__law_pick.bi (sa_cons (sv 0) (sa_cons (se_blt (r_max2 rfl) T.z_max (sa_cons (sv 4) (sa_cons (sint) (sa_nil)))) (sa_nil)))) sc__law_drawn.nd) (
    ss_cons (ss_set (i := 8) (se_call tk ((ok__law_pick T).mono (by decide)) hr T.d__law_pick.hm T.d__law_pick.hk T.d__law_pick.bi (sa_cons (sv 0) (sa_cons (se_blt (r_max2 rfl) T.z_max (sa_cons (sv 4) (sa_cons (sint) (sa_nil)))) (sa_nil)))) sc__law_drawn.nd) (
    ss_one (ss_if (tcmp (r_ne hu) (fun _ _ _ _ h => h) (sv 7) (sv 8) (nomark _)) (ss_one (ss_drop (se_app (sv 5) (se_tup (sa_cons (sv 7) (sa_cons (sv 8) (sa_nil))))))) (ss_nil)))))) (
    ss_one (ss_set (i := 9) (se_fz (se_lst (sa_cons (sv 4) (sa_cons (sv 5) (sa_nil))))) sc__law_drawn.nd))))) (ss_one (ss_set (i := 9) (se_call tk ((ok__law_grown T).mono (by decide)) hr T.d__law_grown.hm T.d__law_grown.hk T.d__law_grown.bi (sa_cons (sv 0) (sa_cons (sv 3) (sa_cons (se_call tk ((ok__law_pick T).mono (by decide)) hr T.d__law_pick.hm T.d__law_pick.hk T.d__law_pick.bi (sa_cons (sv 0) (sa_cons (sbin r_sub (fun _ _ _ _ h => h) (sv 1) (sint)) (sa_nil)))) (sa_cons (se_call tk ((ok__law_pick T).mono (by decide)) hr T.d__law_pick.hm T.d__law_pick.hk T.d__law_pick.bi (sa_cons (sv 0) (sa_cons (sint) (sa_nil)))) (sa_cons (sv 1) (sa_cons (sv 2) (sa_nil)))))))) sc__law_drawn.nd))) (
    ss_cons (ss_set (i := 10) (se_fz (se_lst (sa_nil))) sc__law_drawn.nd) (
    ss_cons (ss_if (tcmp r_gt (fun _ _ _ _ h => h) (se_ix (sv 9) (sint)) (sint) (nomark _)) (ss_one (ss_set (i := 10) (se_call tk ((ok__law_watch T).mono (by decide)) hr T.d__law_watch.hm T.d__law_watch.hk T.d__law_watch.bi (sa_cons (sv 0) (sa_cons (se_ix (sv 9) (sint)) (sa_nil)))) sc__law_drawn.nd)) (ss_nil)) (
    ss_cons (ss_set (i := 11) (se_fz (se_lst (sa_nil))) sc__law_drawn.nd) (
    ss_cons (ss_if (tcmp (r_eq hu) (fun _ _ _ _ h => h) (se_call tk ((ok__law_pick T).mono (by decide)) hr T.d__law_pick.hm T.d__law_pick.hk T.d__law_pick.bi (sa_cons (sv 0) (sa_cons (sint) (sa_nil)))) (sint) (nomark _)) (ss_one (ss_setLcF (i := 11) (own := [("at", 12)]) rfl sc__law_drawn.nd (si_range1 T.z_range (se_blt r_len T.z_len (sa_cons (se_ix (sv 9) (sint)) (sa_nil)))) (blkOk_of (show blkB N__law_drawn (defScope st__law_drawn) _ [("at", 12)] = true by decide +kernel)) (by decide) (fun s1 H1 C1 cl1 fp1 => sg_name (i := 12) sc__law_drawn.nd) (fun s1 H1 C1 cl1 fp1 => sts_one (tcmp (r_eq hu) (fun _ _ _ _ h => h) (se_call (takesN (X := Cx.blk (cxOf (L2.CX P w) P w K mg base N__law_drawn "_law_drawn" (defScope st__law_drawn) T.d__law_drawn.a cdv A outer s H E) s1 H1 _ (compEnvC _ cl1 C1 (cxOf (L2.CX P w) P w K mg base N__law_drawn "_law_drawn" (defScope st__law_drawn) T.d__law_drawn.a cdv A outer s H E).env) fp1)) ((ok__law_pick T).mono (by decide)) hr T.d__law_pick.hm T.d__law_pick.hk T.d__law_pick.bi (sa_cons (sv 0) (sa_cons (sint) (sa_nil)))) (sint) (nomark _))) (fun s1 H1 C1 cl1 fp1 => sv 12) (hsw := by rfl))) (ss_nil)) (
    ss_one (ss_ret (se_call tk ((ok__law_dress T).mono (by decide)) hr T.d__law_dress.hm T.d__law_dress.hk T.d__law_dress.bi (sa_cons (sv 0) (sa_cons (se_fz (se_lst (sa_cons (se_ix (sv 9) (sint)) (sa_cons (se_ix (sv 9) (sint)) (sa_cons (sv 10) (sa_cons (sv 11) (sa_nil))))))) (sa_nil)))))))))))
theorem sc__law_some : FnScope N__law_some ["pool", "net"] (defScope st__law_some) := ⟨rfl, rfl, rfl, by decide +kernel, rfl, by decide +kernel, by decide +kernel⟩
theorem ok__law_some (T : Pk K mg) : DOk P w K mg base 2 T.d__law_some.a T.d__law_some.fd ["pool", "net"] m__law_some := by
  refine okZ <| okF T.d__law_some.fn sc__law_some (by decide) fun cdv A outer s H E hr => ?_
  have hu : (A.deeper (envOfC "_law_some" (defScope st__law_some) s.heap.objs.size T.d__law_some.a cdv)).units + 64 < cLine := by have := hr.un; omega
  have hu5 : (A.deeper (envOfC "_law_some" (defScope st__law_some) s.heap.objs.size T.d__law_some.a cdv)).units + 65 < cLine := by have := hr.un; omega
  have tk := takes_of (X := cxOf (L2.CX P w) P w K mg base N__law_some "_law_some" (defScope st__law_some) T.d__law_some.a cdv A outer s H E) rfl rfl rfl rfl
  exact ss_cons (ss_set (i := 2) (se_ix (sv 1) (sint)) sc__law_some.nd) (
    ss_cons (ss_set (i := 3) (se_call tk ((ok__law_pick T).mono (by decide)) hr T.d__law_pick.hm T.d__law_pick.hk T.d__law_pick.bi (sa_cons (sv 0) (sa_cons (sint) (sa_nil)))) sc__law_some.nd) (
    ss_cons (ss_if ((sw_or (tcmp (r_eq hu) (fun _ _ _ _ h => h) (sv 3) (sint) (nomark _)) (sw_or1 (tcmp (r_eq hu) (fun _ _ _ _ h => h) (se_blt r_len T.z_len (sa_cons (sv 2) (sa_nil))) (sint) (nomark _)))).pt) (ss_one (ss_ret (se_tup (sa_nil)))) (ss_nil)) (
    ss_cons (ss_if (tcmp (r_eq hu) (fun _ _ _ _ h => h) (sv 3) (sint) (nomark _)) (ss_one (ss_ret (sv 2))) (ss_nil)) (
    ss_cons (ss_if (tcmp (r_eq hu) (fun _ _ _ _ h => h) (sv 3) (sint) (nomark _)) (ss_one (ss_ret (se_ix (sv 1) (sint)))) (ss_nil)) (
    ss_cons (ss_set (i := 4) (se_ix (sv 2) (se_call tk ((ok__law_pick T).mono (by decide)) hr T.d__law_pick.hm T.d__law_pick.hk T.d__law_pick.bi (sa_cons (sv 0) (sa_cons (se_blt r_len T.z_len (sa_cons (sv 2) (sa_nil))) (sa_nil))))) sc__law_some.nd) (
    ss_cons (ss_if (tcmp (r_eq hu) (fun _ _ _ _ h => h) (sv 3) (sint) (nomark _)) (ss_one (ss_ret (se_tup (sa_cons (sv 4) (sa_nil))))) (ss_nil)) (
    ss_cons (ss_if (tcmp r_lt (fun _ _ _ _ h => h) (sv 3) (sint) (nomark _)) (ss_cons (ss_set (i := 5) (se_ixX hu (se_call tk ((ok__law_near T).mono (by decide)) hr T.d__law_near.hm T.d__law_near.hk T.d__law_near.bi (sa_cons (sv 2) (sa_cons (se_ix (sv 1) (sint)) (sa_nil)))) (sv 4)) sc__law_some.nd) (
    ss_one (ss_ret (se_typ r_tuple T.z_tuple (sa_cons (se_fz (se_sset rfl hu T.z_sorted T.z_set (se_fz (sbin r_addX (fun _ _ _ _ h => h) (se_lst (sa_cons (sv 4) (sa_nil))) (se_lc (own := [("node", 7)]) rfl sc__law_some.nd (si_any (sv 5)) (blkOk_of (show blkB N__law_some (defScope st__law_some) _ [("node", 7)] = true by decide +kernel)) (by decide) (fun s1 H1 C1 cl1 fp1 => sg_name (i := 7) sc__law_some.nd) (fun s1 H1 C1 cl1 fp1 => sts_one ((sw_or (tcmp (r_eq hu) (fun _ _ _ _ h => h) (sv 3) (sint) (nomark _)) (sw_or1 (tcmp (r_eq hu) (fun _ _ _ _ h => h) (se_call (takesN (X := Cx.blk (cxOf (L2.CX P w) P w K mg base N__law_some "_law_some" (defScope st__law_some) T.d__law_some.a cdv A outer s H E) s1 H1 _ (compEnvC _ cl1 C1 (cxOf (L2.CX P w) P w K mg base N__law_some "_law_some" (defScope st__law_some) T.d__law_some.a cdv A outer s H E).env) fp1)) ((ok__law_pick T).mono (by decide)) hr T.d__law_pick.hm T.d__law_pick.hk T.d__law_pick.bi (sa_cons (sv 0) (sa_cons (sint) (sa_nil)))) (sint) (nomark _)))).pt)) (fun s1 H1 C1 cl1 fp1 => sv 7)))))) (sa_nil)))))) (ss_nil)) (
    ss_cons (ss_set (i := 6) (se_call tk ((ok__law_pick T).mono (by decide)) hr T.d__law_pick.hm T.d__law_pick.hk T.d__law_pick.bi (sa_cons (sv 0) (sa_cons (sint) (sa_nil)))) sc__law_some.nd) (
    ss_one (ss_ret (se_typ r_tuple T.z_tuple (sa_cons (se_fz (se_lc (own := [("node", 7)]) rfl sc__law_some.nd (si_any (sv 2)) (blkOk_of (show blkB N__law_some (defScope st__law_some) _ [("node", 7)] = true by decide +kernel)) (by decide) (fun s1 H1 C1 cl1 fp1 => sg_name (i := 7) sc__law_some.nd) (fun s1 H1 C1 cl1 fp1 => sts_one (tcmp r_gt (fun _ _ _ _ h => h) (se_call (takesN (X := Cx.blk (cxOf (L2.CX P w) P w K mg base N__law_some "_law_some" (defScope st__law_some) T.d__law_some.a cdv A outer s H E) s1 H1 _ (compEnvC _ cl1 C1 (cxOf (L2.CX P w) P w K mg base N__law_some "_law_some" (defScope st__law_some) T.d__law_some.a cdv A outer s H E).env) fp1)) ((ok__law_pick T).mono (by decide)) hr T.d__law_pick.hm T.d__law_pick.hk T.d__law_pick.bi (sa_cons (sv 0) (sa_cons (sint) (sa_nil)))) (sv 6) (nomark _))) (fun s1 H1 C1 cl1 fp1 => sv 7))) (sa_nil)))))))))))))
theorem sc__law_wide : FnScope N__law_wide ["pool"] (defScope st__law_wide) := ⟨rfl, rfl, rfl, by decide +kernel, rfl, by decide +kernel, by decide +kernel⟩
theorem ok__law_wide (T : Pk K mg) : DOk P w K mg base 4 T.d__law_wide.a T.d__law_wide.fd ["pool"] m__law_wide := by
  refine okF T.d__law_wide.fn sc__law_wide (by decide) fun cdv A outer s H E hr => ?_
  have hu : (A.deeper (envOfC "_law_wide" (defScope st__law_wide) s.heap.objs.size T.d__law_wide.a cdv)).units + 64 < cLine := by have := hr.un; omega
  have hu5 : (A.deeper (envOfC "_law_wide" (defScope st__law_wide) s.heap.objs.size T.d__law_wide.a cdv)).units + 65 < cLine := by have := hr.un; omega
  have tk := takes_of (X := cxOf (L2.CX P w) P w K mg base N__law_wide "_law_wide" (defScope st__law_wide) T.d__law_wide.a cdv A outer s H E) rfl rfl rfl rfl
  exact ss_cons (ss_set (i := 1) (se_call tk ((ok__law_grown T).mono (by decide)) hr T.d__law_grown.hm T.d__law_grown.hk T.d__law_grown.bi (sa_cons (sv 0) (sa_cons (se_call tk ((ok__law_pick T).mono (by decide)) hr T.d__law_pick.hm T.d__law_pick.hk T.d__law_pick.bi (sa_cons (sv 0) (sa_cons (sint) (sa_nil)))) (sa_cons (sint) (sa_cons (sint) (sa_cons (sint) (sa_cons (sint) (sa_nil)))))))) sc__law_wide.nd) (
    ss_cons (ss_set (i := 2) (se_ix (sv 1) (sint)) sc__law_wide.nd) (
    ss_cons (ss_for (passes_of rfl) rfl (si_range1 T.z_range (sint)) (sg_name (i := 3) sc__law_wide.nd) (ss_cons (ss_if (tcmp r_ge (fun _ _ _ _ h => h) (se_blt r_len T.z_len (sa_cons (sv 2) (sa_nil))) (sint) (nomark _)) (ss_one (ss_brk)) (ss_nil)) (
    ss_one (ss_set (i := 2) (se_fz (sbin r_addX (fun _ _ _ _ h => h) (sv 2) (se_lst (sa_cons (se_ix (sv 2) (se_call tk ((ok__law_pick T).mono (by decide)) hr T.d__law_pick.hm T.d__law_pick.hk T.d__law_pick.bi (sa_cons (sv 0) (sa_cons (se_blt r_len T.z_len (sa_cons (sv 2) (sa_nil))) (sa_nil))))) (sa_nil))))) sc__law_wide.nd)))) (
    ss_cons (ss_setLcF (i := 4) (own := [("at", 5)]) rfl sc__law_wide.nd (si_range1 T.z_range (sint)) (blkOk_of (show blkB N__law_wide (defScope st__law_wide) _ [("at", 5)] = true by decide +kernel)) (by decide) (fun s1 H1 C1 cl1 fp1 => sg_name (i := 5) sc__law_wide.nd) (fun s1 H1 C1 cl1 fp1 => sts_one (tcmp (r_eq hu) (fun _ _ _ _ h => h) (se_call (takesN (X := Cx.blk (cxOf (L2.CX P w) P w K mg base N__law_wide "_law_wide" (defScope st__law_wide) T.d__law_wide.a cdv A outer s H E) s1 H1 _ (compEnvC _ cl1 C1 (cxOf (L2.CX P w) P w K mg base N__law_wide "_law_wide" (defScope st__law_wide) T.d__law_wide.a cdv A outer s H E).env) fp1)) ((ok__law_pick T).mono (by decide)) hr T.d__law_pick.hm T.d__law_pick.hk T.d__law_pick.bi (sa_cons (sv 0) (sa_cons (sint) (sa_nil)))) (sint) (nomark _))) (fun s1 H1 C1 cl1 fp1 => sv 5) (hsw := by rfl)) (
    ss_one (ss_ret (se_call tk ((ok__law_dress T).mono (by decide)) hr T.d__law_dress.hm T.d__law_dress.hk T.d__law_dress.bi (sa_cons (sv 0) (sa_cons (se_fz (se_lst (sa_cons (se_ix (sv 1) (sint)) (sa_cons (sv 2) (sa_cons (se_call tk ((ok__law_watch T).mono (by decide)) hr T.d__law_watch.hm T.d__law_watch.hk T.d__law_watch.bi (sa_cons (sv 0) (sa_cons (se_ix (sv 1) (sint)) (sa_nil)))) (sa_cons (sv 4) (sa_nil))))))) (sa_nil)))))))))
theorem sc_law : FnScope N_law ["script"] (defScope st_law) := ⟨rfl, rfl, rfl, by decide +kernel, rfl, by decide +kernel, by decide +kernel⟩
theorem ok_law (T : Pk K mg) : DOk P w K mg base 6 T.d_law.a T.d_law.fd ["script"] m_law := by
  refine okZ <| okF T.d_law.fn sc_law (by decide) fun cdv A outer s H E hr => ?_
  have hu : (A.deeper (envOfC "law" (defScope st_law) s.heap.objs.size T.d_law.a cdv)).units + 64 < cLine := by have := hr.un; omega
  have hu5 : (A.deeper (envOfC "law" (defScope st_law) s.heap.objs.size T.d_law.a cdv)).units + 65 < cLine := by have := hr.un; omega
  have tk := takes_of (X := cxOf (L2.CX P w) P w K mg base N_law "law" (defScope st_law) T.d_law.a cdv A outer s H E) rfl rfl rfl rfl
  exact ss_cons (ss_set (i := 1) (se_call tk ((ok__law_pool T).mono (by decide)) hr T.d__law_pool.hm T.d__law_pool.hk T.d__law_pool.bi (sa_cons (sv 0) (sa_nil))) sc_law.nd) (
    ss_cons (ss_set (i := 2) (se_lst (sa_cons (se_ix (se_call tk ((ok__law_drawn T).mono (by decide)) hr T.d__law_drawn.hm T.d__law_drawn.hk T.d__law_drawn.bi (sa_cons (sv 1) (sa_cons (sint) (sa_cons (sint) (sa_nil))))) (sint)) (sa_cons (se_ix (se_call tk ((ok__law_drawn T).mono (by decide)) hr T.d__law_drawn.hm T.d__law_drawn.hk T.d__law_drawn.bi (sa_cons (sv 1) (sa_cons (sint) (sa_cons (sint) (sa_nil))))) (sint)) (sa_cons (se_ix (se_call tk ((ok__law_drawn T).mono (by decide)) hr T.d__law_drawn.hm T.d__law_drawn.hk T.d__law_drawn.bi (sa_cons (sv 1) (sa_cons (sint) (sa_cons (sint) (sa_nil))))) (sint)) (sa_cons (se_ix (se_call tk ((ok__law_drawn T).mono (by decide)) hr T.d__law_drawn.hm T.d__law_drawn.hk T.d__law_drawn.bi (sa_cons (sv 1) (sa_cons (sint) (sa_cons (sint) (sa_nil))))) (sint)) (sa_nil)))))) sc_law.nd) (
    ss_cons (ss_if (tcmp (r_eq hu) (fun _ _ _ _ h => h) (se_call tk ((ok__law_pick T).mono (by decide)) hr T.d__law_pick.hm T.d__law_pick.hk T.d__law_pick.bi (sa_cons (sv 1) (sa_cons (sint) (sa_nil)))) (sint) (nomark _)) (ss_one (ss_drop (se_app (sv 2) (se_ix (se_call tk ((ok__law_wide T).mono (by decide)) hr T.d__law_wide.hm T.d__law_wide.hk T.d__law_wide.bi (sa_cons (sv 1) (sa_nil))) (sint))))) (ss_nil)) (
    ss_cons (ss_if (st_not (stru (se_call tk ((ok__law_row T).mono (by decide)) hr T.d__law_row.hm T.d__law_row.hk T.d__law_row.bi (sa_cons (sv 1) (sa_nil))))) (ss_one (ss_ret (sbl))) (ss_nil)) (
    ss_cons (ss_set (i := 3) (se_lst (sa_nil)) sc_law.nd) (
    ss_cons (ss_for (passes_of rfl) rfl (si_any (sv 2)) (sg_name (i := 4) sc_law.nd) (ss_one (ss_for (passes_of rfl) rfl (si_range1 T.z_range (sint)) (sg_name (i := 5) sc_law.nd) (ss_cons (ss_set (i := 6) (se_call tk ((ok__law_some T).mono (by decide)) hr T.d__law_some.hm T.d__law_some.hk T.d__law_some.bi (sa_cons (sv 1) (sa_cons (sv 4) (sa_nil)))) sc_law.nd) (
    ss_cons (ss_set (i := 7) (se_call tk ((ok__law_due T).mono (by decide)) hr T.d__law_due.hm T.d__law_due.hk T.d__law_due.bi (sa_cons (sv 4) (sa_cons (sv 6) (sa_nil)))) sc_law.nd) (
    ss_cons (ss_drop (se_app (sv 3) (se_tup (sa_cons (sv 4) (sa_cons (sv 6) (sa_cons (sv 7) (sa_nil))))))) (
    ss_one (ss_if (st_not (stru (se_call tk ((ok__law_same T).mono (by decide)) hr T.d__law_same.hm T.d__law_same.hk T.d__law_same.bi (sa_cons (se_call tk ((ok__law_told T).mono (by decide)) hr T.d__law_told.hm T.d__law_told.hk T.d__law_told.bi (sa_cons (sv 4) (sa_cons (sv 6) (sa_cons (sv 5) (sa_nil))))) (sa_cons (sv 7) (sa_nil)))))) (ss_one (ss_ret (sbl))) (ss_nil))))))))) (
    ss_cons (ss_for (passes_of rfl) rfl (si_any (se_fz (se_sl (sv 3) (so_none) (so_some (sint))))) (sg_tup rfl (sgs_cons (i := 4) (sgs_cons (i := 6) (sgs_cons (i := 7) (sgs_nil) sc_law.nd) sc_law.nd) sc_law.nd)) (ss_one (ss_if (st_not (stru (se_call tk ((ok__law_same T).mono (by decide)) hr T.d__law_same.hm T.d__law_same.hk T.d__law_same.bi (sa_cons (se_call tk ((ok__law_told T).mono (by decide)) hr T.d__law_told.hm T.d__law_told.hk T.d__law_told.bi (sa_cons (sv 4) (sa_cons (sv 6) (sa_cons (sint) (sa_nil))))) (sa_cons (sv 7) (sa_nil)))))) (ss_one (ss_ret (sbl))) (ss_nil)))) (
    ss_one (ss_ret (se_call tk ((ok__law_row T).mono (by decide)) hr T.d__law_row.hm T.d__law_row.hk T.d__law_row.bi (sa_cons (sv 1) (sa_nil)))))))))))
end
theorem all_mk {w : World} {K : PySem.W.Frag} {h : Heap} {mg : Str → Option Value} {fa : Addr} (KI : K.In h) (G : h.Ns mainGlobals mg) (hfa : mg "law" = some (.ref fa))
    {f0 : Addr} {od0 an0 : Option Addr} {sl0 : Array (Option Value)} {oc0 kV0 dc0 pm0 cd0 ct0 : Value}
    {f1 : Addr} {od1 an1 : Option Addr} {sl1 : Array (Option Value)} {oc1 kV1 dc1 pm1 cd1 ct1 : Value}
    {f2 : Addr} {od2 an2 : Option Addr} {sl2 : Array (Option Value)} {oc2 kV2 dc2 pm2 cd2 ct2 : Value}
    {f3 : Addr} {od3 an3 : Option Addr} {sl3 : Array (Option Value)} {oc3 kV3 dc3 pm3 cd3 ct3 : Value}
    {f4 : Addr} {od4 an4 : Option Addr} {sl4 : Array (Option Value)} {oc4 kV4 dc4 pm4 cd4 ct4 : Value}
    {f5 : Addr} {od5 an5 : Option Addr} {sl5 : Array (Option Value)} {oc5 kV5 dc5 pm5 cd5 ct5 : Value}
    {f6 : Addr} {od6 an6 : Option Addr} {sl6 : Array (Option Value)} {oc6 kV6 dc6 pm6 cd6 ct6 : Value}
    {f7 : Addr} {od7 an7 : Option Addr} {sl7 : Array (Option Value)} {oc7 kV7 dc7 pm7 cd7 ct7 : Value}
    {f8 : Addr} {od8 an8 : Option Addr} {sl8 : Array (Option Value)} {oc8 kV8 dc8 pm8 cd8 ct8 : Value}
    {f9 : Addr} {od9 an9 : Option Addr} {sl9 : Array (Option Value)} {oc9 kV9 dc9 pm9 cd9 ct9 : Value}
    {f10 : Addr} {od10 an10 : Option Addr} {sl10 : Array (Option Value)} {oc10 kV10 dc10 pm10 cd10 ct10 : Value}
    {f11 : Addr} {od11 an11 : Option Addr} {sl11 : Array (Option Value)} {oc11 kV11 dc11 pm11 cd11 ct11 : Value}
    {f12 : Addr} {od12 an12 : Option Addr} {sl12 : Array (Option Value)} {oc12 kV12 dc12 pm12 cd12 ct12 : Value}
    {f13 : Addr} {od13 an13 : Option Addr} {sl13 : Array (Option Value)} {oc13 kV13 dc13 pm13 cd13 ct13 : Value}
    {f14 : Addr} {od14 an14 : Option Addr} {sl14 : Array (Option Value)} {oc14 kV14 dc14 pm14 cd14 ct14 : Value}
    {f15 : Addr} {od15 an15 : Option Addr} {sl15 : Array (Option Value)} {oc15 kV15 dc15 pm15 cd15 ct15 : Value}
    {f16 : Addr} {od16 an16 : Option Addr} {sl16 : Array (Option Value)} {oc16 kV16 dc16 pm16 cd16 ct16 : Value}
    {f17 : Addr} {od17 an17 : Option Addr} {sl17 : Array (Option Value)} {oc17 kV17 dc17 pm17 cd17 ct17 : Value}
    {f18 : Addr} {od18 an18 : Option Addr} {sl18 : Array (Option Value)} {oc18 kV18 dc18 pm18 cd18 ct18 : Value}
    {f19 : Addr} {od19 an19 : Option Addr} {sl19 : Array (Option Value)} {oc19 kV19 dc19 pm19 cd19 ct19 : Value}
    {f20 : Addr} {od20 an20 : Option Addr} {sl20 : Array (Option Value)} {oc20 kV20 dc20 pm20 cd20 ct20 : Value}
    {f21 : Addr} {od21 an21 : Option Addr} {sl21 : Array (Option Value)} {oc21 kV21 dc21 pm21 cd21 ct21 : Value}
    {f22 : Addr} {od22 an22 : Option Addr} {sl22 : Array (Option Value)} {oc22 kV22 dc22 pm22 cd22 ct22 : Value}
    {f23 : Addr} {od23 an23 : Option Addr} {sl23 : Array (Option Value)} {oc23 kV23 dc23 pm23 cd23 ct23 : Value}
    {f24 : Addr} {od24 an24 : Option Addr} {sl24 : Array (Option Value)} {oc24 kV24 dc24 pm24 cd24 ct24 : Value}
    {f25 : Addr} {od25 an25 : Option Addr} {sl25 : Array (Option Value)} {oc25 kV25 dc25 pm25 cd25 ct25 : Value}
    {f26 : Addr} {od26 an26 : Option Addr} {sl26 : Array (Option Value)} {oc26 kV26 dc26 pm26 cd26 ct26 : Value}
    {f27 : Addr} {od27 an27 : Option Addr} {sl27 : Array (Option Value)} {oc27 kV27 dc27 pm27 cd27 ct27 : Value}
    {f28 : Addr} {od28 an28 : Option Addr} {sl28 : Array (Option Value)} {oc28 kV28 dc28 pm28 cd28 ct28 : Value}
    (a0 : PySem.W.nsIn K mainGlobals "_law_pool" = some (some (.ref f0))) (l0 : K.lookup f0 = some ⟨oc0, od0, .func (PySem.W.fnOf "_law_pool" "_law_pool" (defArgs st__law_pool) (defBody st__law_pool) (defScope st__law_pool) .none kV0 dc0 pm0 an0 cd0 ct0), sl0⟩) (c0 : PySem.W.codeIn K cd0 "_law_pool" = true) (k0 : PySem.W.keepIn K (.ref f0) = true)
    (a1 : PySem.W.nsIn K mainGlobals "_law_round" = some (some (.ref f1))) (l1 : K.lookup f1 = some ⟨oc1, od1, .func (PySem.W.fnOf "_law_round" "_law_round" (defArgs st__law_round) (defBody st__law_round) (defScope st__law_round) .none kV1 dc1 pm1 an1 cd1 ct1), sl1⟩) (c1 : PySem.W.codeIn K cd1 "_law_round" = true) (k1 : PySem.W.keepIn K (.ref f1) = true)
    (a2 : PySem.W.nsIn K mainGlobals "_law_base" = some (some (.ref f2))) (l2 : K.lookup f2 = some ⟨oc2, od2, .func (PySem.W.fnOf "_law_base" "_law_base" (defArgs st__law_base) (defBody st__law_base) (defScope st__law_base) .none kV2 dc2 pm2 an2 cd2 ct2), sl2⟩) (c2 : PySem.W.codeIn K cd2 "_law_base" = true) (k2 : PySem.W.keepIn K (.ref f2) = true)
    (a3 : PySem.W.nsIn K mainGlobals "_law_pick" = some (some (.ref f3))) (l3 : K.lookup f3 = some ⟨oc3, od3, .func (PySem.W.fnOf "_law_pick" "_law_pick" (defArgs st__law_pick) (defBody st__law_pick) (defScope st__law_pick) .none kV3 dc3 pm3 an3 cd3 ct3), sl3⟩) (c3 : PySem.W.codeIn K cd3 "_law_pick" = true) (k3 : PySem.W.keepIn K (.ref f3) = true)
    (a4 : PySem.W.nsIn K mainGlobals "_law_name" = some (some (.ref f4))) (l4 : K.lookup f4 = some ⟨oc4, od4, .func (PySem.W.fnOf "_law_name" "_law_name" (defArgs st__law_name) (defBody st__law_name) (defScope st__law_name) .none kV4 dc4 pm4 an4 cd4 ct4), sl4⟩) (c4 : PySem.W.codeIn K cd4 "_law_name" = true) (k4 : PySem.W.keepIn K (.ref f4) = true)
    (a5 : PySem.W.nsIn K mainGlobals "_law_dress" = some (some (.ref f5))) (l5 : K.lookup f5 = some ⟨oc5, od5, .func (PySem.W.fnOf "_law_dress" "_law_dress" (defArgs st__law_dress) (defBody st__law_dress) (defScope st__law_dress) .none kV5 dc5 pm5 an5 cd5 ct5), sl5⟩) (c5 : PySem.W.codeIn K cd5 "_law_dress" = true) (k5 : PySem.W.keepIn K (.ref f5) = true)
    (a6 : PySem.W.nsIn K mainGlobals "_law_same" = some (some (.ref f6))) (l6 : K.lookup f6 = some ⟨oc6, od6, .func (PySem.W.fnOf "_law_same" "_law_same" (defArgs st__law_same) (defBody st__law_same) (defScope st__law_same) .none kV6 dc6 pm6 an6 cd6 ct6), sl6⟩) (c6 : PySem.W.codeIn K cd6 "_law_same" = true) (k6 : PySem.W.keepIn K (.ref f6) = true)
    (a7 : PySem.W.nsIn K mainGlobals "own_links" = some (some (.ref f7))) (l7 : K.lookup f7 = some ⟨oc7, od7, .func (PySem.W.fnOf "own_links" "own_links" (defArgs st_own_links) (defBody st_own_links) (defScope st_own_links) .none kV7 dc7 pm7 an7 cd7 ct7), sl7⟩) (c7 : PySem.W.codeIn K cd7 "own_links" = true) (k7 : PySem.W.keepIn K (.ref f7) = true)
    (a8 : PySem.W.nsIn K mainGlobals "lots_of" = some (some (.ref f8))) (l8 : K.lookup f8 = some ⟨oc8, od8, .func (PySem.W.fnOf "lots_of" "lots_of" (defArgs st_lots_of) (defBody st_lots_of) (defScope st_lots_of) .none kV8 dc8 pm8 an8 cd8 ct8), sl8⟩) (c8 : PySem.W.codeIn K cd8 "lots_of" = true) (k8 : PySem.W.keepIn K (.ref f8) = true)
    (a9 : PySem.W.nsIn K mainGlobals "places_of" = some (some (.ref f9))) (l9 : K.lookup f9 = some ⟨oc9, od9, .func (PySem.W.fnOf "places_of" "places_of" (defArgs st_places_of) (defBody st_places_of) (defScope st_places_of) .none kV9 dc9 pm9 an9 cd9 ct9), sl9⟩) (c9 : PySem.W.codeIn K cd9 "places_of" = true) (k9 : PySem.W.keepIn K (.ref f9) = true)
    (a10 : PySem.W.nsIn K mainGlobals "near_lists" = some (some (.ref f10))) (l10 : K.lookup f10 = some ⟨oc10, od10, .func (PySem.W.fnOf "near_lists" "near_lists" (defArgs st_near_lists) (defBody st_near_lists) (defScope st_near_lists) .none kV10 dc10 pm10 an10 cd10 ct10), sl10⟩) (c10 : PySem.W.codeIn K cd10 "near_lists" = true) (k10 : PySem.W.keepIn K (.ref f10) = true)
    (a11 : PySem.W.nsIn K mainGlobals "node_marks" = some (some (.ref f11))) (l11 : K.lookup f11 = some ⟨oc11, od11, .func (PySem.W.fnOf "node_marks" "node_marks" (defArgs st_node_marks) (defBody st_node_marks) (defScope st_node_marks) .none kV11 dc11 pm11 an11 cd11 ct11), sl11⟩) (c11 : PySem.W.codeIn K cd11 "node_marks" = true) (k11 : PySem.W.keepIn K (.ref f11) = true)
    (a12 : PySem.W.nsIn K mainGlobals "named_lot" = some (some (.ref f12))) (l12 : K.lookup f12 = some ⟨oc12, od12, .func (PySem.W.fnOf "named_lot" "named_lot" (defArgs st_named_lot) (defBody st_named_lot) (defScope st_named_lot) .none kV12 dc12 pm12 an12 cd12 ct12), sl12⟩) (c12 : PySem.W.codeIn K cd12 "named_lot" = true) (k12 : PySem.W.keepIn K (.ref f12) = true)
    (a13 : PySem.W.nsIn K mainGlobals "lots_without" = some (some (.ref f13))) (l13 : K.lookup f13 = some ⟨oc13, od13, .func (PySem.W.fnOf "lots_without" "lots_without" (defArgs st_lots_without) (defBody st_lots_without) (defScope st_lots_without) .none kV13 dc13 pm13 an13 cd13 ct13), sl13⟩) (c13 : PySem.W.codeIn K cd13 "lots_without" = true) (k13 : PySem.W.keepIn K (.ref f13) = true)
    (a14 : PySem.W.nsIn K mainGlobals "hangs_together" = some (some (.ref f14))) (l14 : K.lookup f14 = some ⟨oc14, od14, .func (PySem.W.fnOf "hangs_together" "hangs_together" (defArgs st_hangs_together) (defBody st_hangs_together) (defScope st_hangs_together) .none kV14 dc14 pm14 an14 cd14 ct14), sl14⟩) (c14 : PySem.W.codeIn K cd14 "hangs_together" = true) (k14 : PySem.W.keepIn K (.ref f14) = true)
    (a15 : PySem.W.nsIn K mainGlobals "gates_of" = some (some (.ref f15))) (l15 : K.lookup f15 = some ⟨oc15, od15, .func (PySem.W.fnOf "gates_of" "gates_of" (defArgs st_gates_of) (defBody st_gates_of) (defScope st_gates_of) .none kV15 dc15 pm15 an15 cd15 ct15), sl15⟩) (c15 : PySem.W.codeIn K cd15 "gates_of" = true) (k15 : PySem.W.keepIn K (.ref f15) = true)
    (a16 : PySem.W.nsIn K mainGlobals "_law_told" = some (some (.ref f16))) (l16 : K.lookup f16 = some ⟨oc16, od16, .func (PySem.W.fnOf "_law_told" "_law_told" (defArgs st__law_told) (defBody st__law_told) (defScope st__law_told) .none kV16 dc16 pm16 an16 cd16 ct16), sl16⟩) (c16 : PySem.W.codeIn K cd16 "_law_told" = true) (k16 : PySem.W.keepIn K (.ref f16) = true)
    (a17 : PySem.W.nsIn K mainGlobals "_law_near" = some (some (.ref f17))) (l17 : K.lookup f17 = some ⟨oc17, od17, .func (PySem.W.fnOf "_law_near" "_law_near" (defArgs st__law_near) (defBody st__law_near) (defScope st__law_near) .none kV17 dc17 pm17 an17 cd17 ct17), sl17⟩) (c17 : PySem.W.codeIn K cd17 "_law_near" = true) (k17 : PySem.W.keepIn K (.ref f17) = true)
    (a18 : PySem.W.nsIn K mainGlobals "_law_gates" = some (some (.ref f18))) (l18 : K.lookup f18 = some ⟨oc18, od18, .func (PySem.W.fnOf "_law_gates" "_law_gates" (defArgs st__law_gates) (defBody st__law_gates) (defScope st__law_gates) .none kV18 dc18 pm18 an18 cd18 ct18), sl18⟩) (c18 : PySem.W.codeIn K cd18 "_law_gates" = true) (k18 : PySem.W.keepIn K (.ref f18) = true)
    (a19 : PySem.W.nsIn K mainGlobals "_law_owns" = some (some (.ref f19))) (l19 : K.lookup f19 = some ⟨oc19, od19, .func (PySem.W.fnOf "_law_owns" "_law_owns" (defArgs st__law_owns) (defBody st__law_owns) (defScope st__law_owns) .none kV19 dc19 pm19 an19 cd19 ct19), sl19⟩) (c19 : PySem.W.codeIn K cd19 "_law_owns" = true) (k19 : PySem.W.keepIn K (.ref f19) = true)
    (a20 : PySem.W.nsIn K mainGlobals "_law_lots" = some (some (.ref f20))) (l20 : K.lookup f20 = some ⟨oc20, od20, .func (PySem.W.fnOf "_law_lots" "_law_lots" (defArgs st__law_lots) (defBody st__law_lots) (defScope st__law_lots) .none kV20 dc20 pm20 an20 cd20 ct20), sl20⟩) (c20 : PySem.W.codeIn K cd20 "_law_lots" = true) (k20 : PySem.W.keepIn K (.ref f20) = true)
    (a21 : PySem.W.nsIn K mainGlobals "_law_due" = some (some (.ref f21))) (l21 : K.lookup f21 = some ⟨oc21, od21, .func (PySem.W.fnOf "_law_due" "_law_due" (defArgs st__law_due) (defBody st__law_due) (defScope st__law_due) .none kV21 dc21 pm21 an21 cd21 ct21), sl21⟩) (c21 : PySem.W.codeIn K cd21 "_law_due" = true) (k21 : PySem.W.keepIn K (.ref f21) = true)
    (a22 : PySem.W.nsIn K mainGlobals "_law_row" = some (some (.ref f22))) (l22 : K.lookup f22 = some ⟨oc22, od22, .func (PySem.W.fnOf "_law_row" "_law_row" (defArgs st__law_row) (defBody st__law_row) (defScope st__law_row) .none kV22 dc22 pm22 an22 cd22 ct22), sl22⟩) (c22 : PySem.W.codeIn K cd22 "_law_row" = true) (k22 : PySem.W.keepIn K (.ref f22) = true)
    (a23 : PySem.W.nsIn K mainGlobals "_law_grown" = some (some (.ref f23))) (l23 : K.lookup f23 = some ⟨oc23, od23, .func (PySem.W.fnOf "_law_grown" "_law_grown" (defArgs st__law_grown) (defBody st__law_grown) (defScope st__law_grown) .none kV23 dc23 pm23 an23 cd23 ct23), sl23⟩) (c23 : PySem.W.codeIn K cd23 "_law_grown" = true) (k23 : PySem.W.keepIn K (.ref f23) = true)
    (a24 : PySem.W.nsIn K mainGlobals "_law_watch" = some (some (.ref f24))) (l24 : K.lookup f24 = some ⟨oc24, od24, .func (PySem.W.fnOf "_law_watch" "_law_watch" (defArgs st__law_watch) (defBody st__law_watch) (defScope st__law_watch) .none kV24 dc24 pm24 an24 cd24 ct24), sl24⟩) (c24 : PySem.W.codeIn K cd24 "_law_watch" = true) (k24 : PySem.W.keepIn K (.ref f24) = true)
    (a25 : PySem.W.nsIn K mainGlobals "_law_drawn" = some (some (.ref f25))) (l25 : K.lookup f25 = some ⟨oc25, od25, .func (PySem.W.fnOf "_law_drawn" "_law_drawn" (defArgs st__law_drawn) (defBody st__law_drawn) (defScope st__law_drawn) .none kV25 dc25 pm25 an25 cd25 ct25), sl25⟩) (c25 : PySem.W.codeIn K cd25 "_law_drawn" = true) (k25 : PySem.W.keepIn K (.ref f25) = true)
    (a26 : PySem.W.nsIn K mainGlobals "_law_some" = some (some (.ref f26))) (l26 : K.lookup f26 = some ⟨oc26, od26, .func (PySem.W.fnOf "_law_some" "_law_some" (defArgs st__law_some) (defBody st__law_some) (defScope st__law_some) .none kV26 dc26 pm26 an26 cd26 ct26), sl26⟩) (c26 : PySem.W.codeIn K cd26 "_law_some" = true) (k26 : PySem.W.keepIn K (.ref f26) = true)
    (a27 : PySem.W.nsIn K mainGlobals "_law_wide" = some (some (.ref f27))) (l27 : K.lookup f27 = some ⟨oc27, od27, .func (PySem.W.fnOf "_law_wide" "_law_wide" (defArgs st__law_wide) (defBody st__law_wide) (defScope st__law_wide) .none kV27 dc27 pm27 an27 cd27 ct27), sl27⟩) (c27 : PySem.W.codeIn K cd27 "_law_wide" = true) (k27 : PySem.W.keepIn K (.ref f27) = true)
    (a28 : PySem.W.nsIn K mainGlobals "law" = some (some (.ref f28))) (l28 : K.lookup f28 = some ⟨oc28, od28, .func (PySem.W.fnOf "law" "law" (defArgs st_law) (defBody st_law) (defScope st_law) .none kV28 dc28 pm28 an28 cd28 ct28), sl28⟩) (c28 : PySem.W.codeIn K cd28 "law" = true) (k28 : PySem.W.keepIn K (.ref f28) = true)
    (z_bool : PySem.W.nsIn K mainGlobals "bool" = some none)
    (z_enumerate : PySem.W.nsIn K mainGlobals "enumerate" = some none)
    (z_int : PySem.W.nsIn K mainGlobals "int" = some none)
    (z_isinstance : PySem.W.nsIn K mainGlobals "isinstance" = some none)
    (z_len : PySem.W.nsIn K mainGlobals "len" = some none)
    (z_list : PySem.W.nsIn K mainGlobals "list" = some none)
    (z_max : PySem.W.nsIn K mainGlobals "max" = some none)
    (z_min : PySem.W.nsIn K mainGlobals "min" = some none)
    (z_range : PySem.W.nsIn K mainGlobals "range" = some none)
    (z_set : PySem.W.nsIn K mainGlobals "set" = some none)
    (z_sorted : PySem.W.nsIn K mainGlobals "sorted" = some none)
    (z_str : PySem.W.nsIn K mainGlobals "str" = some none)
    (z_tuple : PySem.W.nsIn K mainGlobals "tuple" = some none)
    : Nonempty { T : Pk K mg // T.d_law.a = fa ∧ ∀ (s : Shared) (v : Value), BindsTo s T.d_law.fd ⟨[v], []⟩ [("script", v)] } := by
  have e := hfa.symm.trans (PySem.W.mg_of KI G a28)
  cases e
  exact ⟨⟨{
    d__law_pool := ⟨_, _, PySem.W.mg_of KI G a0, k0, fun_mk (st := st__law_pool) l0 c0 k0, (fun_mk (st := st__law_pool) l0 c0 k0).binds (ps := ["script"]) fun _ _ _ _ _ _ us hl => match us, hl with | [_], _ => rfl⟩
    d__law_round := ⟨_, _, PySem.W.mg_of KI G a1, k1, fun_mk (st := st__law_round) l1 c1 k1, (fun_mk (st := st__law_round) l1 c1 k1).binds (ps := ["many"]) fun _ _ _ _ _ _ us hl => match us, hl with | [_], _ => rfl⟩
    d__law_base := ⟨_, _, PySem.W.mg_of KI G a2, k2, fun_mk (st := st__law_base) l2 c2 k2, (fun_mk (st := st__law_base) l2 c2 k2).binds (ps := ["kind", "size"]) fun _ _ _ _ _ _ us hl => match us, hl with | [_, _], _ => rfl⟩
    d__law_pick := ⟨_, _, PySem.W.mg_of KI G a3, k3, fun_mk (st := st__law_pick) l3 c3 k3, (fun_mk (st := st__law_pick) l3 c3 k3).binds (ps := ["pool", "many"]) fun _ _ _ _ _ _ us hl => match us, hl with | [_, _], _ => rfl⟩
    d__law_name := ⟨_, _, PySem.W.mg_of KI G a4, k4, fun_mk (st := st__law_name) l4 c4 k4, (fun_mk (st := st__law_name) l4 c4 k4).binds (ps := ["pool", "taken"]) fun _ _ _ _ _ _ us hl => match us, hl with | [_, _], _ => rfl⟩
    d__law_dress := ⟨_, _, PySem.W.mg_of KI G a5, k5, fun_mk (st := st__law_dress) l5 c5 k5, (fun_mk (st := st__law_dress) l5 c5 k5).binds (ps := ["pool", "shape"]) fun _ _ _ _ _ _ us hl => match us, hl with | [_, _], _ => rfl⟩
    d__law_same := ⟨_, _, PySem.W.mg_of KI G a6, k6, fun_mk (st := st__law_same) l6 c6 k6, (fun_mk (st := st__law_same) l6 c6 k6).binds (ps := ["told", "due"]) fun _ _ _ _ _ _ us hl => match us, hl with | [_, _], _ => rfl⟩
    d_own_links := ⟨_, _, PySem.W.mg_of KI G a7, k7, fun_mk (st := st_own_links) l7 c7 k7, (fun_mk (st := st_own_links) l7 c7 k7).binds (ps := ["net", "nodes"]) fun _ _ _ _ _ _ us hl => match us, hl with | [_, _], _ => rfl⟩
    d_lots_of := ⟨_, _, PySem.W.mg_of KI G a8, k8, fun_mk (st := st_lots_of) l8 c8 k8, (fun_mk (st := st_lots_of) l8 c8 k8).binds (ps := ["near", "gone"]) fun _ _ _ _ _ _ us hl => match us, hl with | [_, _], _ => rfl⟩
    d_places_of := ⟨_, _, PySem.W.mg_of KI G a9, k9, fun_mk (st := st_places_of) l9 c9 k9, (fun_mk (st := st_places_of) l9 c9 k9).binds (ps := ["net"]) fun _ _ _ _ _ _ us hl => match us, hl with | [_], _ => rfl⟩
    d_near_lists := ⟨_, _, PySem.W.mg_of KI G a10, k10, fun_mk (st := st_near_lists) l10 c10 k10, (fun_mk (st := st_near_lists) l10 c10 k10).binds (ps := ["net"]) fun _ _ _ _ _ _ us hl => match us, hl with | [_], _ => rfl⟩
    d_node_marks := ⟨_, _, PySem.W.mg_of KI G a11, k11, fun_mk (st := st_node_marks) l11 c11 k11, (fun_mk (st := st_node_marks) l11 c11 k11).binds (ps := ["net", "nodes"]) fun _ _ _ _ _ _ us hl => match us, hl with | [_, _], _ => rfl⟩
    d_named_lot := ⟨_, _, PySem.W.mg_of KI G a12, k12, fun_mk (st := st_named_lot) l12 c12 k12, (fun_mk (st := st_named_lot) l12 c12 k12).binds (ps := ["net", "lot"]) fun _ _ _ _ _ _ us hl => match us, hl with | [_, _], _ => rfl⟩
    d_lots_without := ⟨_, _, PySem.W.mg_of KI G a13, k13, fun_mk (st := st_lots_without) l13 c13 k13, (fun_mk (st := st_lots_without) l13 c13 k13).binds (ps := ["net", "nodes"]) fun _ _ _ _ _ _ us hl => match us, hl with | [_, _], _ => rfl⟩
    d_hangs_together := ⟨_, _, PySem.W.mg_of KI G a14, k14, fun_mk (st := st_hangs_together) l14 c14 k14, (fun_mk (st := st_hangs_together) l14 c14 k14).binds (ps := ["net", "nodes"]) fun _ _ _ _ _ _ us hl => match us, hl with | [_, _], _ => rfl⟩
    d_gates_of := ⟨_, _, PySem.W.mg_of KI G a15, k15, fun_mk (st := st_gates_of) l15 c15 k15, (fun_mk (st := st_gates_of) l15 c15 k15).binds (ps := ["net", "nodes"]) fun _ _ _ _ _ _ us hl => match us, hl with | [_, _], _ => rfl⟩
    d__law_told := ⟨_, _, PySem.W.mg_of KI G a16, k16, fun_mk (st := st__law_told) l16 c16 k16, (fun_mk (st := st__law_told) l16 c16 k16).binds (ps := ["net", "lot", "turn"]) fun _ _ _ _ _ _ us hl => match us, hl with | [_, _, _], _ => rfl⟩
    d__law_near := ⟨_, _, PySem.W.mg_of KI G a17, k17, fun_mk (st := st__law_near) l17 c17 k17, (fun_mk (st := st__law_near) l17 c17 k17).binds (ps := ["nodes", "links"]) fun _ _ _ _ _ _ us hl => match us, hl with | [_, _], _ => rfl⟩
    d__law_gates := ⟨_, _, PySem.W.mg_of KI G a18, k18, fun_mk (st := st__law_gates) l18 c18 k18, (fun_mk (st := st__law_gates) l18 c18 k18).binds (ps := ["near", "lot"]) fun _ _ _ _ _ _ us hl => match us, hl with | [_, _], _ => rfl⟩
    d__law_owns := ⟨_, _, PySem.W.mg_of KI G a19, k19, fun_mk (st := st__law_owns) l19 c19 k19, (fun_mk (st := st__law_owns) l19 c19 k19).binds (ps := ["net", "lot"]) fun _ _ _ _ _ _ us hl => match us, hl with | [_, _], _ => rfl⟩
    d__law_lots := ⟨_, _, PySem.W.mg_of KI G a20, k20, fun_mk (st := st__law_lots) l20 c20 k20, (fun_mk (st := st__law_lots) l20 c20 k20).binds (ps := ["near", "out"]) fun _ _ _ _ _ _ us hl => match us, hl with | [_, _], _ => rfl⟩
    d__law_due := ⟨_, _, PySem.W.mg_of KI G a21, k21, fun_mk (st := st__law_due) l21 c21 k21, (fun_mk (st := st__law_due) l21 c21 k21).binds (ps := ["net", "lot"]) fun _ _ _ _ _ _ us hl => match us, hl with | [_, _], _ => rfl⟩
    d__law_row := ⟨_, _, PySem.W.mg_of KI G a22, k22, fun_mk (st := st__law_row) l22 c22 k22, (fun_mk (st := st__law_row) l22 c22 k22).binds (ps := ["pool"]) fun _ _ _ _ _ _ us hl => match us, hl with | [_], _ => rfl⟩
    d__law_grown := ⟨_, _, PySem.W.mg_of KI G a23, k23, fun_mk (st := st__law_grown) l23 c23 k23, (fun_mk (st := st__law_grown) l23 c23 k23).binds (ps := ["pool", "kind", "size", "turns", "most", "wires"]) fun _ _ _ _ _ _ us hl => match us, hl with | [_, _, _, _, _, _], _ => rfl⟩
    d__law_watch := ⟨_, _, PySem.W.mg_of KI G a24, k24, fun_mk (st := st__law_watch) l24 c24 k24, (fun_mk (st := st__law_watch) l24 c24 k24).binds (ps := ["pool", "many"]) fun _ _ _ _ _ _ us hl => match us, hl with | [_, _], _ => rfl⟩
    d__law_drawn := ⟨_, _, PySem.W.mg_of KI G a25, k25, fun_mk (st := st__law_drawn) l25 c25 k25, (fun_mk (st := st__law_drawn) l25 c25 k25).binds (ps := ["pool", "most", "wires"]) fun _ _ _ _ _ _ us hl => match us, hl with | [_, _, _], _ => rfl⟩
    d__law_some := ⟨_, _, PySem.W.mg_of KI G a26, k26, fun_mk (st := st__law_some) l26 c26 k26, (fun_mk (st := st__law_some) l26 c26 k26).binds (ps := ["pool", "net"]) fun _ _ _ _ _ _ us hl => match us, hl with | [_, _], _ => rfl⟩
    d__law_wide := ⟨_, _, PySem.W.mg_of KI G a27, k27, fun_mk (st := st__law_wide) l27 c27 k27, (fun_mk (st := st__law_wide) l27 c27 k27).binds (ps := ["pool"]) fun _ _ _ _ _ _ us hl => match us, hl with | [_], _ => rfl⟩
    d_law := ⟨_, _, PySem.W.mg_of KI G a28, k28, fun_mk (st := st_law) l28 c28 k28, (fun_mk (st := st_law) l28 c28 k28).binds (ps := ["script"]) fun _ _ _ _ _ _ us hl => match us, hl with | [_], _ => rfl⟩
    z_bool := PySem.W.mg_none_of KI G z_bool
    z_enumerate := PySem.W.mg_none_of KI G z_enumerate
    z_int := PySem.W.mg_none_of KI G z_int
    z_isinstance := PySem.W.mg_none_of KI G z_isinstance
    z_len := PySem.W.mg_none_of KI G z_len
    z_list := PySem.W.mg_none_of KI G z_list
    z_max := PySem.W.mg_none_of KI G z_max
    z_min := PySem.W.mg_none_of KI G z_min
    z_range := PySem.W.mg_none_of KI G z_range
    z_set := PySem.W.mg_none_of KI G z_set
    z_sorted := PySem.W.mg_none_of KI G z_sorted
    z_str := PySem.W.mg_none_of KI G z_str
    z_tuple := PySem.W.mg_none_of KI G z_tuple
  }, rfl, fun s v => .of_eq rfl⟩⟩
theorem walk {l : PySem.W.OpenLaw} {q : Program} {loose : List Str} {XP : (Str → Option Value) → Heap → Prop} {YP : World → Heap → Prop} {d : DefRec} {K : Params → PySem.W.Frag} (hn : l.most = some 63) (hdf : d.params.defaults = [])
    (hY : ∀ (w : World) (h : Heap), YP w h → (K w.params).In h)
    (F : ∀ (w : World) (mg : Str → Option Value) (fa : Addr) (h : Heap), (K w.params).In h → h.Ns mainGlobals mg → mg d.name = some (.ref fa) → Nonempty { T : Pk (K w.params) mg // T.d_law.a = fa ∧ ∀ (s : Shared) (v : Value), BindsTo s T.d_law.fd ⟨[v], []⟩ [("script", v)] })
    (law : ∀ ns : List Int, ns.length ≤ 63 → ∃ mh, m_law [.rol (ns.map .int)] [] = .ok (.bl true) mh) :
    PySem.W.WalkO q loose XP YP l.row.toRowW d [] (fun f vs => PySem.call f vs) :=
  L2.walk_of (n := 63) (k := 6) (x := "script") (CX := fun w => L2.CX l.prog w) (sp := fun w => spLawD (K w.params)) hn (by decide) hdf ⟨rfl, by decide, by decide⟩ hY
    (fun w mg fa h KI G hfa => by
      obtain ⟨T, e, hb⟩ := F w mg fa h KI G hfa
      subst e
      exact ⟨T.d_law.fd, hb, fun base _ _ => law_of (ok_law T) law⟩)
    (fun w H a ns hl ho hS => law_end w H a ns hl ho hS) fun _ _ _ _ _ z => by
      obtain ⟨_, _, _, _, _, _, _, _, _, _, _, _, no⟩ := z
      exact no.elim
end K09
namespace K09
open PySem Det
theorem pick_ok {p : Pq} {loc : MH} {many : Int} {Q : D → MH → Prop} {E : Exn → MH → Prop} (h1 : 0 < many) (h2 : many < 1000000000)
    (hq : ∀ r p', 0 ≤ r → r < many → Q (.int r) (Pq.ob p' :: loc)) : (m__law_pick [.ref 0, .int many] (p.ob :: loc)).wp Q E := by
  obtain ⟨a, i, ds, hi2, hil, hdl⟩ := p
  have h8 : many ≠ 0 := by omega
  have fin : ∀ (k a' : Int) (i' : Nat) (x : 2 ≤ i') (y : i' ≤ ds.length + 2), FQ (Ob.lst (.int a :: .int (i : Nat) :: ds.map .int) :: loc) Q (.int (k.fmod many)) (Ob.lst (.int a' :: .int (i' : Nat) :: ds.map .int) :: loc) := fun k a' i' x y => by
    have := fmod_bd (i := k) h1
    exact fq_pq_int (p := ⟨a, i, ds, hi2, hil, hdl⟩) (p' := ⟨a', i', ds, x, y, hdl⟩) (hq _ _ this.1 this.2)
  have ml : ∀ (i j : Int) (mh : MH) (Q : D → MH → Prop), -(2 ^ 64) < j ∧ j < 2 ^ 64 → (owp (oMulX (.int i) (.int j) mh) Q ↔ Q (.int (i * j)) mh) := fun i j mh Q h => o_mul_r h
  unfold m__law_pick
  rw [wp_zF]
  show (runF _ _ _ (Ob.lst (.int a :: .int (i : Nat) :: ds.map .int) :: loc)).wp (FQ (Ob.lst (.int a :: .int (i : Nat) :: ds.map .int) :: loc) Q) _
  obtain ⟨m, rfl⟩ : ∃ m, i = m + 2 := ⟨i - 2, by omega⟩
  by_cases hlt : m < ds.length
  · have hc : ((m : Int) + 2) < (ds.length : Int) + 1 + 1 := by omega
    have hat : L2.atI (D.int a :: D.int ((m : Int) + 2 + 1) :: ds.map D.int) ((m : Int) + 2) = some (.int ds[m]) := by
      rw [show (m : Int) + 2 = ((m + 2 : Nat) : Int) by omega, atI_nat]; simp [hlt]
    simp [-fq_int, hc, hat, h8]
    have := fin ds[m] a (m + 3) (by omega) (by omega)
    rw [show ((m + 3 : Nat) : Int) = (m : Int) + 2 + 1 by omega] at this
    simpa [-fq_int] using this
  · have hc : ¬ ((m : Int) + 2) < (ds.length : Int) + 1 + 1 := by omega
    have hc2 : (ds.length : Int) + 1 + 1 ≤ ((m : Int) + 2) := by omega
    simp [-fq_int, hc, hc2, ml, h8]
    exact fin _ _ (m + 2) (by omega) (by omega)
end K09
namespace K09
open PySem Det
theorem pool_ok {ns : List Int} {Q : D → MH → Prop} {E : Exn → MH → Prop} (hl : ns.length ≤ 63) (hq : ∀ (p : Pq) g, Q (.ref 0) (Pq.ob p :: g)) : (m__law_pool [.rol (ns.map .int)] []).wp Q E := by
  have hz : (10000 : Nat) ≤ sizeLine := by decide
  have z2 : (2 : Nat) ≤ sizeLine := by decide
  unfold m__law_pool
  rw [wp_runF]
  generalize hS : D.rol (ns.map .int) = S
  show (sq _ _ [some S, none, none, none, none] []).wp _
  have pb : ∀ (a : Int) (ds : List Int) (h : ds.length ≤ 5000), Pq.ob ⟨a, 2, ds, by omega, by omega, h⟩ = Ob.lst (.int a :: .int 2 :: ds.map .int) := fun _ _ _ => rfl
  refine seq_cutJ (fun e h => e = [some S, some (.ref 0), none, none, none] ∧ ∃ a : Int, h = [Ob.lst (.int a :: .int 2 :: ([] : List Int).map .int)]) (fun J hJ => ?_) ?_
  · simp [z2]
    exact hJ _ _ ⟨rfl, _, rfl⟩
  rintro e h ⟨rfl, a0, rfl⟩
  have ec : ∃ zs : List Int, cutD (ns.map .int) none (some 63) = zs.map .int ∧ zs.length ≤ 63 := by
    refine ⟨(ns.drop _).take _, by unfold cutD; rw [List.length_map, ← List.map_drop, ← List.map_take], ?_⟩
    rw [List.length_take, List.length_drop]; omega
  obtain ⟨zs, ez, zl⟩ := ec
  obtain ⟨I, hI⟩ : ∃ I : Nat → List Int → Nv → MH → Prop, ∀ i xs e h, I i xs e h ↔ ∃ (a : Int) (ds : List Int) (v2 v3 v4 : Option D), e = [some S, some (.ref 0), v2, v3, v4] ∧ h = [Ob.lst (.int a :: .int 2 :: ds.map .int), .lst (zs.map .int)] ∧ ds.length ≤ 60 * i := ⟨_, fun _ _ _ _ => Iff.rfl⟩
  refine seq_cut (I zs.length []) ?_ ?_
  · rw [wp_sfor, wp_iter, wp_sl, wp_vr]
    refine ⟨S, rfl, ?_⟩
    rw [wp_onone, wp_osome, wp_kn]
    refine ⟨63, rfl, ?_⟩
    rw [← hS, o_sl_rol, ez]
    refine ⟨_, itD_ref (xs := zs.map .int) rfl, ?_⟩
    have hck : ∀ o, lstIs 1 (zs.map D.int) [o, .lst (zs.map D.int)] = true := fun o => lstIs_of rfl
    have hdn : ∀ e h, I zs.length [] e h → lstIs 1 (zs.map D.int) h = true ∧ I zs.length [] e h := fun e h q => by
      obtain ⟨a, ds, v2, v3, v4, rfl, rfl, hd⟩ := (hI _ _ _ _).mp q
      exact ⟨hck (Ob.lst (.int a :: .int 2 :: ds.map .int)), q⟩
    refine loop_as zs .int I ((hI _ _ _ _).mpr ⟨a0, [], none, none, none, by rw [hS], rfl, by simp⟩) ?_ hdn
    intro i x xs e h hd hi hx q
    obtain ⟨a, ds, v2, v3, v4, rfl, rfl, hd⟩ := (hI _ _ _ _).mp q
    refine ⟨hck (Ob.lst (.int a :: .int 2 :: ds.map .int)), _, rfl, ?_⟩
    have hi63 : i < 63 := by omega
    have a0 : ∀ (a : Int) (ds : List Int), L2.atI (D.int a :: D.int 2 :: ds.map D.int) 0 = some (.int a) := fun a ds => by simp
    refine seq_cutJ (fun e h => e = [some S, some (.ref 0), some (.int x), some (.int x), v4] ∧ h = [Ob.lst (.int a :: .int 2 :: ds.map .int), .lst (zs.map .int)]) (fun J hJ => ?_) ?_
    · simp
      exact hJ _ _ ⟨rfl, rfl⟩
    rintro e h ⟨rfl, rfl⟩
    refine seq_cutJ (fun e h => ∃ y : Int, e = [some S, some (.ref 0), some (.int x), some (.int y), v4] ∧ h = [Ob.lst (.int a :: .int 2 :: ds.map .int), .lst (zs.map .int)]) (fun J hJ => ?_) ?_
    · by_cases hneg : x < 0
      · simp [hneg]
        rw [o_mul_l (by omega)]
        simp
        exact hJ _ _ ⟨_, rfl, rfl⟩
      · have : 0 ≤ x := by omega
        simp [hneg, this]
        exact hJ _ _ ⟨_, rfl, rfl⟩
    rintro e h ⟨y, rfl, rfl⟩
    refine seq_cutJ (fun e h => ∃ a' : Int, e = [some S, some (.ref 0), some (.int x), some (.int y), v4] ∧ h = [Ob.lst (.int a' :: .int 2 :: ds.map .int), .lst (zs.map .int)]) (fun J hJ => ?_) ?_
    · simp
      rw [o_mul_r (by omega)]
      simp
      exact hJ _ _ ⟨_, rfl, rfl⟩
    rintro e h ⟨a', rfl, rfl⟩
    have fin : ∀ (ds' : List Int) v3 v4, ds'.length ≤ 60 * (i + 1) → I (i + 1) xs [some S, some (.ref 0), some (.int x), v3, v4] [Ob.lst (.int a' :: .int 2 :: ds'.map .int), .lst (zs.map .int)] := fun ds' v3 v4 h => (hI _ _ _ _).mpr ⟨a', ds', _, _, _, rfl, rfl, h⟩
    by_cases hbig : y ≥ 1000000000000000000
    · have hbig2 : 1000000000000000000 ≤ y := hbig
      simp [hbig2]
      refine ⟨okB_of (by omega) (by omega), ?_⟩
      obtain ⟨K, hK⟩ : ∃ K : Nat → Nv → MH → Prop, ∀ k e h, K k e h ↔ ∃ (ds' : List Int) (y : Int) (v4 : Option D), e = [some S, some (.ref 0), some (.int x), some (.int y), v4] ∧ h = [Ob.lst (.int a' :: .int 2 :: ds'.map .int), .lst (zs.map .int)] ∧ ds'.length ≤ 60 * i + k := ⟨_, fun _ _ _ => Iff.rfl⟩
      refine loop_n K ((hK _ _ _).mpr ⟨ds, y, v4, rfl, rfl, by omega⟩) ?_ ?_
      · intro k e h hk q
        obtain ⟨ds', y, v4, rfl, rfl, hds⟩ := (hK _ _ _).mp q
        refine ⟨rfl, _, rfl, ?_⟩
        by_cases hy : y = 0
        · subst hy
          simp
          exact fin ds' _ _ (by omega)
        · have hsz : ds'.length + 1 + 1 < sizeLine := by omega
          simp [hy, hsz]
          rw [hK]
          exact ⟨ds' ++ [y.fmod 5040], _, _, rfl, by simp, by simp; omega⟩
      · intro e h q
        obtain ⟨ds', y, v4, rfl, rfl, hds⟩ := (hK _ _ _).mp q
        exact ⟨rfl, fin ds' _ _ (by omega)⟩
    · have hbig2 : y < 1000000000000000000 := by omega
      simp [hbig2, hbig]
      exact fin ds _ _ (by omega)
  intro e h q
  obtain ⟨a, ds, v2, v3, v4, rfl, rfl, hd⟩ := (hI _ _ _ _).mp q
  simp
  exact hq ⟨a, 2, ds, by omega, by omega, by omega⟩ _
end K09
namespace K09
open PySem Det
abbrev signs : Str := Str.ofString "abcdefghijklmnopqrstuvwxyz0123456789"
theorem hl36 : signs.length = 36 := by decide +kernel
def vS (j : Nat) : Str := Str.ofString "v" ++ ((toString (j : Int) : String) : Str) ++ Str.ofString "ba"
def wordsL : List Str := ["node", "link", "monitor", "given", "read", "row", "bundle", "free", "told", "tree", "o", "w"]
theorem vS_len : ∀ j : Nat, j < 201 → (vS j).length ≤ 30 := by decide +kernel
theorem vS_inj : ∀ i : Nat, i < 61 → ∀ j : Nat, j < 61 → vS i = vS j → i = j := by decide +kernel
theorem vS_words : ∀ j : Nat, j < 64 → vS j ∉ wordsL := by decide +kernel
theorem vS_free {ws : List Str} (hl : ws.length ≤ 60) (h : ∀ j, j < 61 → vS j ∈ ws) : False := by
  have hn : ((List.range 61).map vS).Nodup := by
    rw [List.nodup_iff_pairwise_ne, List.pairwise_map]
    refine List.Pairwise.imp_of_mem (R := fun a b => a ≠ b) (fun {a b} ha hb hab e => hab (vS_inj a (by have := List.mem_range.mp ha; omega) b (by have := List.mem_range.mp hb; omega) e)) ?_
    exact List.nodup_iff_pairwise_ne.mp List.nodup_range
  have := nd_len (xs := ws) hn fun a ha => by
    obtain ⟨j, hj, rfl⟩ := List.mem_map.mp ha
    exact h j (List.mem_range.mp hj)
  simp at this
  omega
theorem name_ok {p : Pq} {loc : MH} {t : D} {l : List Str} {Q : D → MH → Prop} {E : Exn → MH → Prop} (ht : ∀ p' : Pq, itemsD (p'.ob :: loc) t = some (l.map .str)) (hl : l.length ≤ 60)
    (hq : ∀ (w : Str) p', w ∉ l → w.length ≤ 40 → Q (.str w) (Pq.ob p' :: loc)) : (m__law_name [.ref 0, t] (p.ob :: loc)).wp Q E := by
  have hz : (1000 : Nat) ≤ sizeLine := by decide
  have z12 : (12 : Nat) ≤ sizeLine := by decide
  unfold m__law_name
  rw [wp_zF, wp_runF]
  show (sq _ _ [some (.ref 0), some t, none, none, none, none] (p.ob :: loc)).wp _
  refine seq_cut (fun e h => e = [some (.ref 0), some t, some (.str signs), none, none, none] ∧ h = p.ob :: loc) (by simp) ?_
  rintro e h ⟨rfl, rfl⟩
  obtain ⟨J, hJ⟩ : ∃ J : (Str → Prop) → Nv → MH → Prop, ∀ R e h, J R e h ↔ ∃ (p' : Pq) (w : Str) (v4 : Option D), h = p'.ob :: loc ∧ e = [some (.ref 0), some t, some (.str signs), some (.str w), v4, none] ∧ R w := ⟨_, fun _ _ _ => Iff.rfl⟩
  refine seq_cut (J fun w => w.length = 1) ?_ ?_
  · simp
    refine pick_ok (by omega) (by omega) fun r p2 r0 r1 => ?_
    refine sign_ix (by rw [hl36]; omega) r0 (by rw [hl36]; omega) fun c hc => ?_
    rw [hJ]
    exact ⟨p2, (⟨#[c]⟩ : Str), none, rfl, rfl, rfl⟩
  intro e h hj
  obtain ⟨p1, w, v4, rfl, rfl, hw1⟩ := (hJ _ _ _).mp hj
  -- more signs
  have more : ∀ (n : Nat) (p' : Pq) (w : Str) (v4 : Option D) (b : Nat) (O : Po), n ≤ 8 → w.length ≤ b → b + 8 ≤ 40 → (∀ e h, J (fun w => w.length ≤ b + 8) e h → O.nx e h) →
      (loopF (fun _ => true) (.nm 4) (sst 3 (bi oAdd (vr 3) (bi oIx (vr 2) (cal 2 m__law_pick (acons (vr 0) (acons (kn (.int 36)) (anil))))))) (rgD 0 n) [some (.ref 0), some t, some (.str signs), some (.str w), v4, none] (p'.ob :: loc)).wp O := fun n p' w v4 b O hn hb h40 hO => by
    refine loop_n (fun k => J fun w => w.length ≤ b + k) ((hJ _ _ _).mpr ⟨p', w, v4, rfl, rfl, by omega⟩) ?_ ?_
    · intro k e h hk hj
      obtain ⟨p', w, v4, rfl, rfl, hwk⟩ := (hJ _ _ _).mp hj
      refine ⟨rfl, _, rfl, ?_⟩
      simp
      refine pick_ok (by omega) (by omega) fun r p3 r0 r1 => ?_
      refine sign_ix (by rw [hl36]; omega) r0 (by rw [hl36]; exact r1) fun c hc => ?_
      rw [o_add_s, len_one]
      refine ⟨by omega, ?_⟩
      show J _ _ _
      rw [hJ]
      exact ⟨p3, w ++ (⟨#[c]⟩ : Str), some (.int (k : Nat)), rfl, by simp, by rw [len_app, len_one]; omega⟩
    · intro e h hj
      obtain ⟨p', w, v4, rfl, rfl, hwk⟩ := (hJ _ _ _).mp hj
      exact ⟨rfl, hO _ _ ((hJ _ _ _).mpr ⟨p', w, v4, rfl, rfl, by omega⟩)⟩
  have z8 : (8 : Nat) ≤ sizeLine := by decide
  have z6 : (6 : Nat) ≤ sizeLine := by decide
  refine seq_cut (J fun w => w.length ≤ 9) ?_ ?_
  · simp [z8]
    refine pick_ok (by omega) (by omega) fun r p2 r0 r1 => ?_
    have := int_ix (l := [0, 1, 1, 2, 3, 4, 6, 7]) (mh := p2.ob :: loc) (Q := fun d h => ∃ j, d = .int j ∧ okB j = true ∧ (loopF (fun _ => true) (.nm 4) (sst 3 (bi oAdd (vr 3) (bi oIx (vr 2) (cal 2 m__law_pick (acons (vr 0) (acons (kn (.int 36)) (anil))))))) (rgD 0 j.toNat) [some (.ref 0), some t, some (.str signs), some (.str w), v4, none] h).wp { nx := J fun w => w.length ≤ 9, rt := FQ (p.ob :: loc) Q, bk := fun _ _ => False, ct := fun _ _ => False, ex := fun x _ h => FE (p.ob :: loc) E x h }) r0 (by simpa using r1) fun c hc => ?_
    · simpa using this
    · have hc2 : 0 ≤ c ∧ c ≤ 7 := by
        simp at hc
        rcases hc with rfl | rfl | rfl | rfl | rfl | rfl | rfl <;> omega
      refine ⟨c, rfl, okB_of (by omega) (by omega), ?_⟩
      exact more c.toNat p2 w v4 1 _ (by omega) (by omega) (by omega) fun e h q => q
  intro e h hj
  obtain ⟨p1, w, v4, rfl, rfl, hw9⟩ := (hJ _ _ _).mp hj
  refine seq_cut (J fun w => w.length ≤ 40) ?_ ?_
  · rw [wp_sif, wp_tb, wp_bi, wp_cal, wp_acons, wp_vr]
    refine ⟨_, rfl, ?_⟩
    rw [wp_acons, wp_kn, wp_anil]
    refine ⟨rfl, pick_ok (by omega) (by omega) fun r p2 r0 r1 => ?_⟩
    rw [wp_kn, o_eq_i, owp_some]
    refine ⟨_, rfl, fun _ => ?_, fun _ => ?_⟩
    · have d1 : (Str.ofString ".").length = 1 := rfl
      refine seq_cut (J fun w => w.length ≤ 10) ?_ ?_
      · simp
        refine ⟨by rw [d1]; omega, ?_⟩
        rw [hJ]
        exact ⟨p2, w ++ Str.ofString ".", v4, rfl, rfl, by rw [len_app, d1]; omega⟩
      intro e h hj
      obtain ⟨p2, w, v4, rfl, rfl, hw10⟩ := (hJ _ _ _).mp hj
      simp [z6]
      refine pick_ok (by omega) (by omega) fun r p2 r0 r1 => ?_
      have := int_ix (l := [1, 1, 2, 3, 5, 8]) (mh := p2.ob :: loc) (Q := fun d h => ∃ j, d = .int j ∧ okB j = true ∧ (loopF (fun _ => true) (.nm 4) (sst 3 (bi oAdd (vr 3) (bi oIx (vr 2) (cal 2 m__law_pick (acons (vr 0) (acons (kn (.int 36)) (anil))))))) (rgD 0 j.toNat) [some (.ref 0), some t, some (.str signs), some (.str w), v4, none] h).wp { nx := J fun w => w.length ≤ 40, rt := FQ (p.ob :: loc) Q, bk := fun _ _ => False, ct := fun _ _ => False, ex := fun x _ h => FE (p.ob :: loc) E x h }) r0 (by simpa using r1) fun c hc => ?_
      · simpa using this
      · have hc2 : 0 ≤ c ∧ c ≤ 8 := by
          simp at hc
          rcases hc with rfl | rfl | rfl | rfl | rfl <;> omega
        refine ⟨c, rfl, okB_of (by omega) (by omega), ?_⟩
        refine more c.toNat p2 w v4 10 _ (by omega) (by omega) (by omega) fun e h q => ?_
        obtain ⟨p2, w, v4, rfl, rfl, hw⟩ := (hJ _ _ _).mp q
        exact (hJ _ _ _).mpr ⟨p2, w, v4, rfl, rfl, by omega⟩
    · rw [wp_nop]
      show J _ _ _
      rw [hJ]; exact ⟨p2, w, v4, rfl, rfl, by omega⟩
  intro e h hj
  obtain ⟨p1, w, v4, rfl, rfl, hw40⟩ := (hJ _ _ _).mp hj
  refine seq_cut (fun e h => e = [some (.ref 0), some t, some (.str signs), some (.str w), v4, some (.tup (wordsL.map .str))] ∧ p1.ob :: loc = h) (by simp [z12, wordsL]) ?_
  rintro e h ⟨rfl, rfl⟩
  have htp := ht p1
  obtain ⟨F, hF⟩ : ∃ F : Nv → MH → Prop, ∀ e h, F e h ↔ ∃ (w : Str) (v4 : Option D), h = p1.ob :: loc ∧ e = [some (.ref 0), some t, some (.str signs), some (.str w), v4, some (.tup (wordsL.map .str))] ∧ w ∉ l ∧ w.length ≤ 40 := ⟨_, fun _ _ => Iff.rfl⟩
  refine seq_cut F ?_ ?_
  · rw [wp_sfor, wp_range1, wp_kn]
    refine ⟨_, rfl, okB_of (by omega) (by omega), ?_⟩
    obtain ⟨K, hK⟩ : ∃ K : Nat → Nv → MH → Prop, ∀ k e h, K k e h ↔ ∃ (w : Str) (v4 : Option D), h = p1.ob :: loc ∧ e = [some (.ref 0), some t, some (.str signs), some (.str w), v4, some (.tup (wordsL.map .str))] ∧ w.length ≤ 40 ∧ (0 < k → w = vS (k - 1)) ∧ ∀ j, j + 2 ≤ k → vS j ∈ l := ⟨_, fun _ _ _ => Iff.rfl⟩
    refine loop_n K ((hK _ _ _).mpr ⟨w, v4, rfl, rfl, hw40, fun z => absurd z (Nat.lt_irrefl 0), fun j hj => by omega⟩) ?_ ?_
    · intro k e h hk hkk
      obtain ⟨w, v4, rfl, rfl, hw40, hwk, hall⟩ := (hK _ _ _).mp hkk
      have hk200 : k < 200 := by simpa using hk
      refine ⟨rfl, _, rfl, ?_⟩
      have hk63 : k < 63 := by
        by_cases h : k < 63
        · exact h
        · exact (vS_free hl fun j hj => hall j (by omega)).elim
      have i1 : oNotIn (.str w) t (p1.ob :: loc) = some (.bl (!decide (w ∈ l)), p1.ob :: loc) := o_notIn_s htp
      have i2 : oNotIn (.str w) (.tup (wordsL.map .str)) (p1.ob :: loc) = some (.bl (!decide (w ∈ wordsL)), p1.ob :: loc) := o_notIn_s (l := wordsL) rfl
      by_cases hin : w ∈ l ∨ w ∈ wordsL
      · have ho : ∀ h2, oStr [.int (k : Nat)] h2 = some (.str ((toString (k : Int) : String) : Str), h2) := fun h2 => by
          simp only [oStr]
          rw [if_pos]
          exact Nat.lt_of_le_of_lt (Nat.log2_le_self k) (by omega)
        have ey : (Str.ofString "v" ++ Str.ofString (Int.repr (k : Int)) ++ Str.ofString "ba") = vS k := rfl
        have ly := vS_len k (by omega)
        have ly2 : (Str.ofString "v").length + (Str.ofString (Int.repr (k : Int))).length + (Str.ofString "ba").length ≤ 30 := by rw [← len_app, ← len_app, ey]; exact ly
        have ly3 : (Str.ofString "v").length + (Str.ofString (Int.repr (k : Int))).length ≤ sizeLine := by omega
        have ly4 : (Str.ofString "v" ++ Str.ofString (Int.repr (k : Int))).length + (Str.ofString "ba").length ≤ sizeLine := by rw [len_app]; omega
        have fin : K (k + 1) [some (.ref 0), some t, some (.str signs), some (.str (vS k)), some (.int (k : Nat)), some (.tup (wordsL.map .str))] (p1.ob :: loc) := (hK _ _ _).mpr ⟨vS k, _, rfl, rfl, by omega, fun _ => rfl, fun j hj => by
          by_cases e : j + 2 ≤ k
          · exact hall j e
          · have e1 : j = k - 1 := by omega
            subst e1
            have := hwk (by omega)
            rw [← this]
            exact hin.resolve_right fun z => vS_words (k - 1) (by omega) (this ▸ z)⟩
        generalize wordsL.map D.str = WL at i2 fin ⊢
        by_cases h1 : w ∈ l
        · simp [i1, h1, ho, ly3, ly4, ey]
          exact fin
        · have h2 := hin.resolve_left h1
          simp [i1, i2, h1, h2, ho, ly3, ly4, ey]
          exact fin
      · have h1 : w ∉ l := fun z => hin (.inl z)
        have h2 : w ∉ wordsL := fun z => hin (.inr z)
        have fin : F [some (.ref 0), some t, some (.str signs), some (.str w), some (.int (k : Nat)), some (.tup (wordsL.map .str))] (p1.ob :: loc) := (hF _ _).mpr ⟨w, _, rfl, rfl, h1, hw40⟩
        generalize wordsL.map D.str = WL at i2 fin ⊢
        simp [i1, i2, h1, h2]
        exact fin
    · intro e h hkk
      obtain ⟨w, v4, rfl, rfl, _, _, hall⟩ := (hK _ _ _).mp hkk
      exact (vS_free hl fun j hj => hall j (by have : ((200 : Int).toNat) = 200 := rfl; omega)).elim
  intro e h hf
  obtain ⟨w, v4, rfl, rfl, h1, h2⟩ := (hF _ _).mp hf
  rw [wp_ret, wp_vr]
  exact ⟨_, rfl, fq_pq_str (hq w p1 h1 h2)⟩
end K09
namespace K09
open PySem Det
def prD (q : Nat × Nat) : D := .tup [.int (q.1 : Nat), .int (q.2 : Nat)]
def gS (l : List Str) (i : Nat) : Str := l.getD i ""
theorem at_gS {l : List Str} {i : Nat} (h : i < l.length) : L2.atI (l.map D.str) (i : Nat) = some (.str (gS l i)) := by
  rw [atI_nat, List.getElem?_map, gS, List.getD_eq_getElem?_getD, List.getElem?_eq_getElem h]; rfl
theorem gS_mem {l : List Str} {i : Nat} (h : i < l.length) : gS l i ∈ l := by
  rw [gS, List.getD_eq_getElem?_getD, List.getElem?_eq_getElem h]; exact List.getElem_mem _
theorem gS_inj {l : List Str} (h : l.Nodup) {i j : Nat} (hi : i < l.length) (hj : j < l.length) (e : gS l i = gS l j) : i = j := by
  rw [gS, gS, List.getD_eq_getElem?_getD, List.getD_eq_getElem?_getD, List.getElem?_eq_getElem hi, List.getElem?_eq_getElem hj] at e
  exact (List.getElem_inj h).mp e
/-- the row of a link: its name, its ends in their order -/
def mkR (nodes : List Str) (q : Str × (Nat × Nat)) : Row := (q.1, mnS (gS nodes q.2.1) (gS nodes q.2.2), mxS (gS nodes q.2.1) (gS nodes q.2.2))
def rowsOf (nodes names : List Str) (es : List (Nat × Nat)) : List Row := (names.zip es).map (mkR nodes)
/-- the net of a shape, dressed -/
def dressN (nodes names : List Str) (es : List (Nat × Nat)) (ws gs : List Nat) : D := netD (isort leS nodes) (isort leR (rowsOf nodes names es)) (isort leS (ws.map (gS nodes))) (isort leS (gs.map (gS names)))
structure Dr (many : Nat) (nodes names : List Str) (es : List (Nat × Nat)) : Prop where
  nl : nodes.length = many
  nd : nodes.Nodup
  ml : names.length = es.length
  md : names.Nodup
  el : es.length ≤ 60
  n60 : many ≤ 60
  lt : ∀ q ∈ es, q.1 < many ∧ q.2 < many
  nsh : ∀ x ∈ nodes, x.length ≤ 40
  msh : ∀ x ∈ names, x.length ≤ 40
theorem dress_ok {p : Pq} {loc : MH} {many : Nat} {ED : D} {es : List (Nat × Nat)} {ws gs : List Nat} {Q : D → MH → Prop} {E : Exn → MH → Prop} (hm : many ≤ 60) (he : es.length ≤ 60) (hlt : ∀ q ∈ es, q.1 < many ∧ q.2 < many) (hws : ∀ i ∈ ws, i < many) (hwl : ws.length ≤ 100) (hgs : ∀ i ∈ gs, i < es.length) (hgl : gs.length ≤ 100)
    (hE : ∀ (p' : Pq) (g : MH), itemsD (p'.ob :: (loc ++ g)) ED = some (es.map prD) ∧ lenD (p'.ob :: (loc ++ g)) ED = some es.length)
    (hq : ∀ (nodes names : List Str) (p' : Pq) (g : MH) (k kn km : Nat), Dr many nodes names es → (p'.ob :: (loc ++ g))[k]? = some (.lst [dressN nodes names es ws gs, .ref kn, .ref km]) → (p'.ob :: (loc ++ g))[kn]? = some (.lst (nodes.map .str)) → (p'.ob :: (loc ++ g))[km]? = some (.lst (names.map .str)) → Q (.ref k) (p'.ob :: (loc ++ g))) :
    (m__law_dress [.ref 0, .rol [.int (many : Nat), ED, .rol (ws.map fun i => .int (i : Nat)), .rol (gs.map fun i => .int (i : Nat))]] (p.ob :: loc)).wp Q E := by
  have hz : (1000 : Nat) ≤ sizeLine := by decide
  have z3 : (3 : Nat) ≤ sizeLine := by decide
  have z4 : (4 : Nat) ≤ sizeLine := by decide
  unfold m__law_dress
  rw [wp_runF]
  obtain ⟨S, hS⟩ : ∃ S, S = D.rol [.int (many : Nat), ED, .rol (ws.map fun i => .int (i : Nat)), .rol (gs.map fun i => .int (i : Nat))] := ⟨_, rfl⟩
  rw [← hS]
  have s0 : ∀ h, oIx S (.int 0) h = some (.int (many : Nat), h) := fun h => by rw [hS]; simp [oIx, itemsD]
  have s1 : ∀ h, oIx S (.int 1) h = some (ED, h) := fun h => by rw [hS]; simp [oIx, itemsD]
  have s2 : ∀ h, oIx S (.int 2) h = some (.rol (ws.map fun i => .int (i : Nat)), h) := fun h => by rw [hS]; simp [oIx, itemsD]
  have s3 : ∀ h, oIx S (.int 3) h = some (.rol (gs.map fun i => .int (i : Nat)), h) := fun h => by rw [hS]; simp [oIx, itemsD]
  show (sq _ _ [some (.ref 0), some S, none, none, none, none, none, none, none, none, none, none, none] (p.ob :: loc)).wp _
  refine seq_cut (fun e h => e = [some (.ref 0), some S, some (.ref (loc.length + 1)), none, none, none, none, none, none, none, none, none, none] ∧ h = p.ob :: (loc ++ [.lst []])) (by simp) ?_
  rintro e h ⟨rfl, rfl⟩
  -- the nodes
  obtain ⟨J, hJ⟩ : ∃ J : Nat → Nv → MH → Prop, ∀ i e h, J i e h ↔ ∃ (p' : Pq) (nodes : List Str) (v3 : Option D), h = p'.ob :: (loc ++ [.lst (nodes.map .str)]) ∧ e = [some (.ref 0), some S, some (.ref (loc.length + 1)), v3, none, none, none, none, none, none, none, none, none] ∧ nodes.length = i ∧ nodes.Nodup ∧ ∀ x ∈ nodes, x.length ≤ 40 := ⟨_, fun _ _ _ => Iff.rfl⟩
  refine seq_cut (J many) ?_ ?_
  · simp [s0]
    refine ⟨okB_of (by omega) (by omega), ?_⟩
    refine loop_n J ((hJ _ _ _).mpr ⟨p, [], none, rfl, rfl, rfl, by simp, by simp⟩) ?_ (fun e h q => ⟨rfl, q⟩)
    intro i e h hi hj
    obtain ⟨p1, nodes, v3, rfl, rfl, nl, nd, nsh⟩ := (hJ _ _ _).mp hj
    refine ⟨rfl, _, rfl, ?_⟩
    simp
    refine name_ok (l := nodes) (fun p' => by simp) (by omega) fun w p2 hw wl => ?_
    have hlt2 : nodes.length < sizeLine := by omega
    simp [hlt2]
    rw [hJ]
    refine ⟨p2, nodes ++ [w], _, by simp, rfl, by simp; omega, ?_, fun x hx => ?_⟩
    · rw [List.nodup_append]
      exact ⟨nd, by simp, fun a ha b hb e => by rw [List.mem_singleton] at hb; subst hb; subst e; exact hw ha⟩
    · rcases List.mem_append.mp hx with hx | hx
      · exact nsh x hx
      · rw [List.mem_singleton.mp hx]; exact wl
  intro e h hj
  obtain ⟨p1, nodes, v3, rfl, rfl, nl, nd, nsh⟩ := (hJ _ _ _).mp hj
  clear hj hJ J
  refine seq_cut (fun e h => e = [some (.ref 0), some S, some (.ref (loc.length + 1)), v3, some (.ref (loc.length + 2)), none, none, none, none, none, none, none, none] ∧ h = p1.ob :: (loc ++ [.lst (nodes.map .str), .lst []])) (by simp) ?_
  rintro e h ⟨rfl, rfl⟩
  -- the names
  obtain ⟨J, hJ⟩ : ∃ J : Nat → Nv → MH → Prop, ∀ i e h, J i e h ↔ ∃ (p' : Pq) (names : List Str) (v3 v5 : Option D), h = p'.ob :: (loc ++ [.lst (nodes.map .str), .lst (names.map .str)]) ∧ e = [some (.ref 0), some S, some (.ref (loc.length + 1)), v3, some (.ref (loc.length + 2)), v5, none, none, none, none, none, none, none] ∧ names.length = i ∧ names.Nodup ∧ ∀ x ∈ names, x.length ≤ 40 := ⟨_, fun _ _ _ => Iff.rfl⟩
  refine seq_cut (J es.length) ?_ ?_
  · have hl1 : oLen [ED] (p1.ob :: (loc ++ [.lst (nodes.map .str), .lst []])) = some (.int (es.length : Nat), p1.ob :: (loc ++ [.lst (nodes.map .str), .lst []])) := by
      have := (hE p1 [.lst (nodes.map .str), .lst []]).2
      simp [oLen, this]
    simp [s1, hl1]
    refine ⟨okB_of (by omega) (by omega), ?_⟩
    refine loop_n J ((hJ _ _ _).mpr ⟨p1, [], v3, none, rfl, rfl, rfl, by simp, by simp⟩) ?_ (fun e h q => ⟨rfl, q⟩)
    intro i e h hi hj
    obtain ⟨p2, names, v3, v5, rfl, rfl, ml, md, msh⟩ := (hJ _ _ _).mp hj
    refine ⟨rfl, _, rfl, ?_⟩
    have hpos : 0 < nodes.length := by
      have hi : i < es.length := hi
      have := hlt es[i] (List.getElem_mem _)
      omega
    have hg1 : ∀ p' : Pq, (p'.ob :: (loc ++ [Ob.lst (nodes.map .str), .lst (names.map .str)]))[loc.length + 1]? = some (.lst (nodes.map .str)) := fun p' => by simp
    have hg2 : ∀ p' : Pq, (p'.ob :: (loc ++ [Ob.lst (nodes.map .str), .lst (names.map .str)]))[loc.length + 2]? = some (.lst (names.map .str)) := fun p' => by simp
    refine seq_cutJ (fun e h => ∃ (p' : Pq) (w : Str), h = p'.ob :: (loc ++ [.lst (nodes.map .str), .lst (names.map .str)]) ∧ e = [some (.ref 0), some S, some (.ref (loc.length + 1)), some (.int (i : Nat)), some (.ref (loc.length + 2)), some (.str w), none, none, none, none, none, none, none] ∧ w.length ≤ 40) (fun J' hJ' => ?_) ?_
    · simp
      refine pick_ok (loc := loc ++ [Ob.lst (nodes.map .str), .lst (names.map .str)]) (by omega) (by omega) fun r p3 r0 r1 => ?_
      obtain ⟨a, rfl⟩ := Int.eq_ofNat_of_zero_le r0
      have ha : a < nodes.length := by omega
      simp [at_gS ha]
      exact hJ' _ _ ⟨p3, gS nodes a, rfl, rfl, nsh _ (gS_mem ha)⟩
    rintro e h ⟨p3, w, rfl, rfl, wl⟩
    refine seq_cutJ (fun e h => ∃ (p' : Pq) (w : Str), h = p'.ob :: (loc ++ [.lst (nodes.map .str), .lst (names.map .str)]) ∧ e = [some (.ref 0), some S, some (.ref (loc.length + 1)), some (.int (i : Nat)), some (.ref (loc.length + 2)), some (.str w), none, none, none, none, none, none, none] ∧ w.length ≤ 40 ∧ w ∉ names) (fun J' hJ' => ?_) ?_
    · have nm : ∀ (p' : Pq) (O : Po), O.nx = J' → (sst 5 (cal 2 m__law_name (acons (vr 0) (acons (vr 4) (anil)))) [some (.ref 0), some S, some (.ref (loc.length + 1)), some (.int (i : Nat)), some (.ref (loc.length + 2)), some (.str w), none, none, none, none, none, none, none] (p'.ob :: (loc ++ [.lst (nodes.map .str), .lst (names.map .str)]))).wp O := fun p' O hO => by
        simp [hO]
        refine name_ok (loc := loc ++ [Ob.lst (nodes.map .str), .lst (names.map .str)]) (l := names) (fun p' => by simp) (by omega) fun w p2 hw wl => ?_
        exact hJ' _ _ ⟨p2, w, rfl, rfl, wl, hw⟩
      rw [wp_sif, wp_tor, wp_tb, wp_bi, wp_cal, wp_acons, wp_vr]
      refine ⟨_, rfl, ?_⟩
      rw [wp_acons, wp_kn, wp_anil]
      refine ⟨rfl, pick_ok (loc := loc ++ [Ob.lst (nodes.map .str), .lst (names.map .str)]) (by omega) (by omega) fun r p4 r0 r1 => ?_⟩
      rw [wp_kn, o_gt_i, owp_some]
      refine ⟨_, rfl, fun _ => ⟨fun _ => nm p4 _ rfl, fun z => (by cases z)⟩, fun _ => ?_⟩
      rw [wp_tb, wp_bi, wp_vr]
      refine ⟨_, rfl, ?_⟩
      rw [wp_vr]
      refine ⟨_, rfl, ?_⟩
      rw [o_in_s (l := names) (by simp), owp_some]
      refine ⟨_, rfl, fun _ => nm p4 _ rfl, fun hb => ?_⟩
      rw [wp_nop]
      exact hJ' _ _ ⟨p4, w, rfl, rfl, wl, of_decide_eq_false hb⟩
    rintro e h ⟨p4, w, rfl, rfl, wl, hw⟩
    have hlt2 : names.length < sizeLine := by
      have : i < es.length := hi
      omega
    simp [hlt2]
    rw [hJ]
    refine ⟨p4, names ++ [w], _, _, by simp, rfl, by simp; omega, ?_, fun x hx => ?_⟩
    · rw [List.nodup_append]
      exact ⟨md, by simp, fun a ha b hb e => by rw [List.mem_singleton] at hb; subst hb; subst e; exact hw ha⟩
    · rcases List.mem_append.mp hx with hx | hx
      · exact msh x hx
      · rw [List.mem_singleton.mp hx]; exact wl
  intro e h hj
  obtain ⟨p2, names, v3', v5, rfl, rfl, ml, md, msh⟩ := (hJ _ _ _).mp hj
  clear hj hJ J
  have dr : Dr many nodes names es := ⟨nl, nd, ml, md, he, hm, hlt, nsh, msh⟩
  refine seq_cut (fun e h => e = [some (.ref 0), some S, some (.ref (loc.length + 1)), v3', some (.ref (loc.length + 2)), v5, some (.ref (loc.length + 3)), none, none, none, none, none, none] ∧ h = p2.ob :: (loc ++ [.lst (nodes.map .str), .lst (names.map .str), .lst []])) (by simp) ?_
  rintro e h ⟨rfl, rfl⟩
  -- the links
  obtain ⟨J, hJ⟩ : ∃ J : Nat → List (Str × (Nat × Nat)) → Nv → MH → Prop, ∀ i xs e h, J i xs e h ↔ ∃ (v7 v8 v9 : Option D), h = p2.ob :: (loc ++ [.lst (nodes.map .str), .lst (names.map .str), .lst (((names.zip es).take i).map (fun q => rowD (mkR nodes q)))]) ∧ e = [some (.ref 0), some S, some (.ref (loc.length + 1)), v3', some (.ref (loc.length + 2)), v5, some (.ref (loc.length + 3)), v7, v8, v9, none, none, none] := ⟨_, fun _ _ _ _ => Iff.rfl⟩
  have zl : (names.zip es).length = es.length := by rw [List.length_zip]; omega
  refine seq_cut (J es.length []) ?_ ?_
  · simp
    refine ⟨okB_of (by omega) (by omega), ?_⟩
    rw [show names.length = (names.zip es).length by omega]
    refine loop_rg (names.zip es) rfl J ((hJ _ _ _ _).mpr ⟨none, none, none, by simp, rfl⟩) ?_ (fun e h q => ⟨rfl, by rw [zl] at q; exact q⟩)
    intro i q xs e h hd hi hx hj
    obtain ⟨v7, v8, v9, rfl, rfl⟩ := (hJ _ _ _ _).mp hj
    obtain ⟨w, a, b⟩ := q
    have hx2 := hx
    rw [List.getElem?_zip_eq_some] at hx
    obtain ⟨hx0, hx1⟩ := hx
    refine ⟨rfl, _, rfl, ?_⟩
    obtain ⟨ha, hb⟩ := hlt (a, b) (List.mem_of_getElem? hx1)
    simp only at ha hb
    rw [← nl] at ha hb
    obtain ⟨H, hH⟩ : ∃ H, H = p2.ob :: (loc ++ [Ob.lst (nodes.map .str), .lst (names.map .str), .lst (((names.zip es).take i).map (fun q => rowD (mkR nodes q)))]) := ⟨_, rfl⟩
    have hEi : oIx ED (.int (i : Nat)) H = some (prD (a, b), H) := by
      have := (hE p2 [Ob.lst (nodes.map .str), .lst (names.map .str), .lst (((names.zip es).take i).map (fun q => rowD (mkR nodes q)))]).1
      rw [← hH] at this
      refine o_ix this ?_
      rw [atI_nat, List.getElem?_map, hx1]; rfl
    have k1 : H[loc.length + 1]? = some (.lst (nodes.map .str)) := by rw [hH]; simp
    have k2 : H[loc.length + 2]? = some (.lst (names.map .str)) := by rw [hH]; simp
    have k3 : H[loc.length + 3]? = some (.lst (((names.zip es).take i).map (fun q => rowD (mkR nodes q)))) := by rw [hH]; simp
    have hat : L2.atI (names.map D.str) (i : Nat) = some (.str w) := by rw [atI_nat, List.getElem?_map, hx0]; rfl
    have hset : ∀ u, H.set (loc.length + 3) u = p2.ob :: (loc ++ [Ob.lst (nodes.map .str), .lst (names.map .str), u]) := fun u => by rw [hH]; simp
    have hsz : min i (min names.length es.length) < sizeLine := by omega
    have fin : J (i + 1) xs [some (.ref 0), some S, some (.ref (loc.length + 1)), v3', some (.ref (loc.length + 2)), v5, some (.ref (loc.length + 3)), some (.int (i : Nat)), some (.str (gS nodes a)), some (.str (gS nodes b)), none, none, none] (H.set (loc.length + 3) (.lst (((names.zip es).take i).map (fun q => rowD (mkR nodes q)) ++ [.tup [.str w, .str (mnS (gS nodes a) (gS nodes b)), .str (mxS (gS nodes a) (gS nodes b))]]))) := by
      rw [hJ]
      refine ⟨_, _, _, ?_, rfl⟩
      rw [hset, List.take_add_one, hx2]
      simp [mkR, rowD]
    rw [← hH]
    clear hH hset
    simp [s1, hEi, prD, k1, k2, k3, at_gS ha, at_gS hb, hat, z3, hsz]
    simpa using fin
  intro e h hj
  obtain ⟨v7, v8, v9, rfl, rfl⟩ := (hJ _ _ _ _).mp hj
  rw [List.take_of_length_le (by omega)]
  have er : (names.zip es).map (fun q => rowD (mkR nodes q)) = (rowsOf nodes names es).map rowD := by rw [rowsOf, List.map_map]; rfl
  rw [er]
  clear hj hJ J
  obtain ⟨H, hH⟩ : ∃ H, H = p2.ob :: (loc ++ [Ob.lst (nodes.map .str), .lst (names.map .str), .lst ((rowsOf nodes names es).map rowD)]) := ⟨_, rfl⟩
  have k1 : H[loc.length + 1]? = some (.lst (nodes.map .str)) := by rw [hH]; simp
  have k2 : H[loc.length + 2]? = some (.lst (names.map .str)) := by rw [hH]; simp
  have k3 : H[loc.length + 3]? = some (.lst ((rowsOf nodes names es).map rowD)) := by rw [hH]; simp
  have rl : (rowsOf nodes names es).length ≤ 60 := by rw [rowsOf, List.length_map]; omega
  rw [← hH]
  -- the drawn ones, by number
  have pickS : ∀ (l : List Str) (is : List Nat) (n a b : Nat) (env : Nv) (Q' : D → MH → Prop) (E' : Exn → MH → Prop), H[n]? = some (.lst (l.map .str)) → is.length ≤ 100 → (∀ i ∈ is, i < l.length) → a ≠ 12 → env[a]? = some (some (.ref n)) → 12 < env.length → oIx S (.int b) H = some (.rol (is.map fun i => .int (i : Nat)), H) → env[1]? = some (some S) → Q' (.tup ((isort leS (is.map (gS l))).map .str)) H →
      (ap oTuple (acons (fz (ap oSorted (acons (fz (lc (iter (bi oIx (vr 1) (kn (.int b)))) (.nm 12) (yes) (bi oIx (vr a) (vr 12)) [12])) (anil)))) (anil)) env H).wp Q' E' := fun l is n a b env Q' E' hn hi hlt ha12 ha h12 hb h1 hq => by
    rw [wp_ap, wp_acons, wp_fz, wp_ap, wp_acons, wp_fz, wp_lc, wp_iter, wp_bi, wp_vr]
    refine ⟨S, h1, ?_⟩
    rw [wp_kn, hb, owp_some]
    refine ⟨_, rfl, ?_⟩
    refine lc_map2 H is (fun i => D.int (i : Nat)) (fun _ => true) (fun i => .str (gS l i)) rfl rfl (by omega) (fun _ => rfl) ?_ ?_
    · intro i hi acc
      refine ⟨_, rfl, by simp, fun _ => ?_⟩
      rw [wp_bi, wp_vr]
      refine ⟨.ref n, ?_, ?_⟩
      · rw [List.getElem?_set_ne (by omega)]
        simp only [wipeD]
        rw [List.getElem?_set_ne (by omega)]; exact ha
      · rw [wp_vr]
        refine ⟨.int (i : Nat), ?_, ?_⟩
        · rw [List.getElem?_set_self]
          simpa [wipeD] using h12
        · rw [ix_ref]
          refine ⟨l.map .str, ?_, _, at_gS (hlt i hi), rfl, rfl⟩
          rw [List.getElem?_append_left (List.getElem?_eq_some_iff.mp hn).1]; exact hn
    · have e0 : (is.filter fun _ => true).map (fun i => D.str (gS l i)) = (is.map (gS l)).map .str := by rw [List.filter_eq_self.mpr (by simp), List.map_map]; rfl
      rw [e0, fq_push]
      refine ⟨blws_str, ?_⟩
      rw [wp_anil, o_sorted_s (xs := is.map (gS l)) rfl (by simp; omega), owp_some, fq_push]
      refine ⟨blws_str, ?_⟩
      rw [wp_anil, o_tuple]
      exact ⟨_, rfl, hq⟩
  refine seq_cutJ (fun e h => e = [some (.ref 0), some S, some (.ref (loc.length + 1)), v3', some (.ref (loc.length + 2)), v5, some (.ref (loc.length + 3)), v7, v8, v9, some (.tup ((isort leS (ws.map (gS nodes))).map .str)), none, none] ∧ H = h) (fun J hJ => ?_) ?_
  · rw [wp_sst]
    exact pickS nodes ws (loc.length + 1) 2 2 _ _ _ k1 hwl (fun i hi => by rw [nl]; exact hws i hi) (by omega) rfl (by simp) (s2 H) rfl (hJ _ _ ⟨rfl, rfl⟩)
  rintro e h ⟨rfl, rfl⟩
  refine seq_cutJ (fun e h => e = [some (.ref 0), some S, some (.ref (loc.length + 1)), v3', some (.ref (loc.length + 2)), v5, some (.ref (loc.length + 3)), v7, v8, v9, some (.tup ((isort leS (ws.map (gS nodes))).map .str)), some (.tup ((isort leS (gs.map (gS names))).map .str)), none] ∧ H = h) (fun J hJ => ?_) ?_
  · rw [wp_sst]
    exact pickS names gs (loc.length + 2) 4 3 _ _ _ k2 hgl (fun i hi => by rw [ml]; exact hgs i hi) (by omega) rfl (by simp) (s3 H) rfl (hJ _ _ ⟨rfl, rfl⟩)
  rintro e h ⟨rfl, rfl⟩
  have o1 : oSorted [.ref (loc.length + 1)] H = some (.ref H.length, H ++ [.lst ((isort leS nodes).map .str)]) := o_sorted_s (by simp [itemsD, k1]) (by omega)
  have o2 : oSorted [.ref (loc.length + 3)] H = some (.ref H.length, H ++ [.lst ((isort leR (rowsOf nodes names es)).map rowD)]) := o_sorted_r (by simp [itemsD, k3]) (by omega)
  have fin := fun x => hq nodes names p2 [.lst (nodes.map .str), .lst (names.map .str), .lst ((rowsOf nodes names es).map rowD), x] (loc.length + 4) (loc.length + 1) (loc.length + 2) dr
  have hHx : ∀ x, H ++ [x] = p2.ob :: (loc ++ [Ob.lst (nodes.map .str), .lst (names.map .str), .lst ((rowsOf nodes names es).map rowD), x]) := fun x => by rw [hH]; simp
  have hHl : H.length = loc.length + 4 := by rw [hH]; simp
  simp [o1, o2, z3, z4]
  rw [hHx, hHl]
  exact fin _ (by simp [dressN, netD]) (by simp) (by simp)
end K09
namespace K09
open PySem Det
def nD (i : Nat) : D := .int (i : Nat)
theorem blws_n {n : Nat} {l : List Nat} : D.blws n (l.map nD) = true := blws_map fun _ _ => rfl
theorem blws_pr {n : Nat} {l : List (Nat × Nat)} : D.blws n (l.map prD) = true := blws_map fun _ _ => by simp [prD]
theorem rg_n (lo n : Nat) : rgD (lo : Int) n = ((List.range n).map fun i => lo + i).map nD := by
  unfold rgD
  rw [List.map_map]
  refine List.map_congr_left fun i _ => ?_
  show D.int _ = D.int _
  congr 1
theorem rg0 (n : Nat) : rgD 0 n = (List.range n).map nD := by
  have := rg_n 0 n
  simpa using this
theorem filt_true {α : Type} (l : List α) : (l.filter fun _ => true) = l := List.filter_eq_self.mpr (by simp)
/-- a comprehension that makes pairs -/
theorem lc_ex {α : Type} {n : Nat} {m0 : MH} {Q : D → MH → Prop} {E : Exn → MH → Prop} {env : Nv} {f : ME} {ft : MT} {chk : MH → Bool} {pt : Pat} (mh : MH) (as : List α) (g : α → D) (sel : α → Bool) (P : Nat × Nat → Prop) (hn : n = mh.length) (hm : m0 = mh ++ [.lst []]) (hlen : as.length ≤ sizeLine) (hchk : ∀ acc, chk (mh ++ [.lst acc]) = true)
    (hs : ∀ a ∈ as, ∀ acc, ∃ e, setP pt (g a) env = some e ∧ (ft e (mh ++ [.lst acc])).wp (fun b h => h = mh ++ [.lst acc] ∧ b = sel a ∧ (b = true → (f e (mh ++ [.lst acc])).wp (fun y h2 => h2 = mh ++ [.lst acc] ∧ ∃ q, y = prD q ∧ P q) (fun _ _ => False))) (fun _ _ => False))
    (hd : ∀ es : List (Nat × Nat), es.length = (as.filter sel).length → (∀ q ∈ es, P q) → Q (.ref mh.length) (mh ++ [.lst (es.map prD)])) : (loopC n chk pt ft f env (as.map g) m0).wp Q E := by
  subst hn; subst hm
  obtain ⟨I, hI⟩ : ∃ I : Nat → List D → MH → Prop, ∀ i acc h, I i acc h ↔ ∃ es : List (Nat × Nat), acc = es.map prD ∧ h = mh ++ [.lst acc] ∧ es.length = ((as.take i).filter sel).length ∧ ∀ q ∈ es, P q := ⟨_, fun _ _ _ => Iff.rfl⟩
  refine comp_wp I [] (by simp) ((hI _ _ _).mpr ⟨[], rfl, rfl, by simp, by simp⟩) ?_ ?_ ?_
  · intro i acc h q
    obtain ⟨es, rfl, rfl, _⟩ := (hI _ _ _).mp q
    simp
  · intro i d acc h hd hi
    obtain ⟨es, rfl, rfl, hl, hp⟩ := (hI _ _ _).mp hi
    obtain ⟨a, ha, rfl⟩ : ∃ w, as[i]? = some w ∧ g w = d := by
      rw [List.getElem?_map] at hd
      cases hx : as[i]? with
      | none => rw [hx] at hd; cases hd
      | some w => rw [hx] at hd; exact ⟨w, rfl, Option.some.inj hd⟩
    have hi := (List.getElem?_eq_some_iff.mp ha).1
    obtain ⟨e, e1, e2⟩ := hs a (List.mem_of_getElem? ha) (es.map prD)
    refine ⟨hchk _, e, e1, Res.wp_mono e2 (fun b h q => ?_) fun _ _ q => q⟩
    obtain ⟨rfl, rfl, q⟩ := q
    have tk : as.take (i + 1) = as.take i ++ [a] := by rw [List.take_add_one, ha]; rfl
    have hle : es.length ≤ i := by
      rw [hl]
      exact Nat.le_trans (List.length_filter_le _ _) (by rw [List.length_take]; omega)
    refine ⟨fun hb => Res.wp_mono (q hb) (fun y h2 q2 => ?_) fun _ _ q => q, fun hb => (hI _ _ _).mpr ⟨es, rfl, rfl, by rw [tk, hl]; simp [hb], hp⟩⟩
    obtain ⟨rfl, q3, rfl, q4⟩ := q2
    refine ⟨by simp, by simp; omega, (hI _ _ _).mpr ⟨es ++ [q3], by simp, by simp, by rw [tk]; simp [hb, hl], fun x hx => ?_⟩⟩
    rcases List.mem_append.mp hx with hx | hx
    · exact hp x hx
    · rw [List.mem_singleton.mp hx]; exact q4
  · intro acc h q
    obtain ⟨es, rfl, rfl, hl, hp⟩ := (hI _ _ _).mp q
    rw [List.length_map, List.take_length] at hl
    exact ⟨hchk _, hd es hl hp⟩
/-- [0] + list(range(2, m)) + [1] -/
theorem order_wp {f : ME} {env : Nv} {mh : MH} {m : Nat} {Q : D → MH → Prop} {E : Exn → MH → Prop} (h2 : 2 ≤ m) (hm : m ≤ 2000) (hf : ∀ (h : MH) (Q : D → MH → Prop) (E : Exn → MH → Prop), Q (.int (m : Nat)) h → (f env h).wp Q E)
    (hq : ∀ ol : List Nat, ol.length = m → (∀ x ∈ ol, x < m) → Q (.rol (ol.map nD)) mh) : (fz (bi oAddX (fz (bi oAddX (dlst (acons (kn (.int 0)) (anil))) (fz (lrg2 (kn (.int 2)) f)))) (dlst (acons (kn (.int 1)) (anil)))) env mh).wp Q E := by
  have hz : (10000 : Nat) ≤ sizeLine := by decide
  have z1 : (1 : Nat) ≤ sizeLine := by decide
  rw [wp_fz, wp_bi, wp_fz, wp_bi, wp_dlst, wp_acons, wp_kn, wp_anil]
  refine ⟨z1, ?_⟩
  rw [wp_fz, wp_lrg2, wp_kn]
  refine hf _ _ _ ?_
  have hrg : okRg 2 (m : Nat) = true := by unfold okRg; rw [decide_eq_true_eq]; omega
  refine ⟨2, (m : Nat), rfl, rfl, hrg, ?_⟩
  rw [show ((m : Int) - 2).toNat = m - 2 by omega, show (2 : Int) = ((2 : Nat) : Int) from rfl, rg_n, fq_push]
  refine ⟨blws_n, ?_⟩
  rw [addX_l (xs := [D.int 0]) (ys := ((List.range (m - 2)).map fun i => 2 + i).map nD) (by simp [lstD]) rfl (.inr ⟨_, rfl⟩) (by simp; omega), owp_some, fq_next]
  refine ⟨by rw [blws_append, blws_n]; rfl, ?_⟩
  rw [wp_dlst, wp_acons, wp_kn, wp_anil]
  refine ⟨z1, ?_⟩
  rw [addX_l (xs := [D.int 0] ++ ((List.range (m - 2)).map fun i => 2 + i).map nD) (ys := [D.int 1]) rfl (by simp [lstD]) (.inl ⟨_, rfl⟩) (by simp; omega), owp_some, fq_next]
  refine ⟨by rw [blws_append, blws_append, blws_n]; rfl, ?_⟩
  have := hq ([0] ++ ((List.range (m - 2)).map fun i => 2 + i) ++ [1]) (by simp; omega) (fun x hx => by
    simp at hx
    rcases hx with rfl | ⟨a, ha, rfl⟩ | rfl <;> omega)
  rw [List.map_append, List.map_append] at this
  exact this
theorem at_n {l : List Nat} {i : Nat} (h : i < l.length) : L2.atI (l.map nD) (i : Nat) = some (nD l[i]) := by
  rw [atI_nat, List.getElem?_map, List.getElem?_eq_getElem h]; rfl
theorem at_last {l : List Nat} (h : 0 < l.length) : ∃ x ∈ l, L2.atI (l.map nD) (-1) = some (nD x) := by
  have hne : l ≠ [] := fun e => by rw [e] at h; simp at h
  refine ⟨l.getLast hne, List.getLast_mem hne, ?_⟩
  rw [atI_last, List.getLast?_map, List.getLast?_eq_some_getLast hne]; rfl
theorem cut_n {l : List Nat} {lo hi : Option Int} : ∃ m : List Nat, cutD (l.map nD) lo hi = m.map nD ∧ (∀ x ∈ m, x ∈ l) ∧ m.length ≤ l.length := by
  refine ⟨(l.drop _).take _, by unfold cutD; rw [List.length_map, ← List.map_drop, ← List.map_take], fun x hx => List.mem_of_mem_drop (List.mem_of_mem_take hx), ?_⟩
  rw [List.length_take, List.length_drop]; omega
theorem round_ok {m : Nat} {mh : MH} {Q : D → MH → Prop} {E : Exn → MH → Prop} (h4 : 4 ≤ m) (hm : m ≤ 2000) (hq : ∀ ol : List Nat, m ≤ ol.length → ol.length ≤ 3 * m → (∀ x ∈ ol, x < m) → Q (.rol (ol.map nD)) mh) : (m__law_round [.int (m : Nat)] mh).wp Q E := by
  have hz : (10000 : Nat) ≤ sizeLine := by decide
  have z1 : (1 : Nat) ≤ sizeLine := by decide
  have hrg : okRg 2 (m : Nat) = true := by unfold okRg; rw [decide_eq_true_eq]; omega
  unfold m__law_round
  rw [wp_zF, wp_runF]
  show (sq _ _ [some (.int (m : Nat)), none, none] mh).wp _
  obtain ⟨O, hO⟩ : ∃ O : List Nat, O = (List.range (m - 2)).map fun i => 2 + i := ⟨_, rfl⟩
  have ol : O.length = m - 2 := by rw [hO]; simp
  have om : ∀ x ∈ O, x < m := fun x hx => by rw [hO] at hx; simp at hx; obtain ⟨a, ha, rfl⟩ := hx; omega
  refine seq_cutJ (fun e h => e = [some (.int (m : Nat)), some (.rol (O.map nD)), none] ∧ mh = h) (fun J hJ => ?_) ?_
  · rw [wp_sst, wp_fz, wp_lrg2, wp_kn, wp_vr]
    refine ⟨_, rfl, 2, (m : Nat), rfl, rfl, hrg, ?_⟩
    rw [show ((m : Int) - 2).toNat = m - 2 by omega, show (2 : Int) = ((2 : Nat) : Int) from rfl, rg_n, fq_push]
    exact ⟨blws_n, hJ _ _ ⟨by rw [hO]; rfl, rfl⟩⟩
  rintro e h ⟨rfl, rfl⟩
  refine seq_cutJ (fun e h => e = [some (.int (m : Nat)), some (.rol (O.map nD)), some (.int ((m / 2 - 1 : Nat) : Nat))] ∧ mh = h) (fun J hJ => ?_) ?_
  · simp
    refine hJ _ _ ⟨?_, rfl⟩
    simp
    rw [Int.fdiv_eq_ediv_of_nonneg _ (by omega)]
    omega
  rintro e h ⟨rfl, rfl⟩
  obtain ⟨a, ha, am, al⟩ := cut_n (l := O) (lo := none) (hi := some ((m / 2 - 1 : Nat) : Nat))
  obtain ⟨b, hb, bm, bl⟩ := cut_n (l := O) (lo := some ((m / 2 - 1 : Nat) : Nat)) (hi := none)
  have hlen : O.length ≤ a.length + b.length := by
    have h1 := congrArg List.length ha
    have h2 := congrArg List.length hb
    unfold cutD at h1 h2
    rw [HT.sIx_nat] at h1 h2
    have s0 : HT.sIx (O.map nD).length 0 none = 0 := rfl
    have s1 : HT.sIx (O.map nD).length (O.map nD).length none = (O.map nD).length := rfl
    rw [s0] at h1
    rw [s1] at h2
    simp only [List.length_take, List.length_drop, List.length_map] at h1 h2
    omega
  rw [wp_ret, wp_fz, wp_bi, wp_fz, wp_bi, wp_fz, wp_bi, wp_dlst, wp_acons, wp_kn, wp_anil]
  refine ⟨z1, ?_⟩
  rw [wp_fz, wp_sl, wp_vr]
  refine ⟨_, rfl, ?_⟩
  rw [wp_onone, wp_osome, wp_vr]
  refine ⟨_, rfl, _, rfl, ?_⟩
  rw [o_sl_rol, ha, fq_push]
  refine ⟨blws_n, ?_⟩
  rw [addX_l (xs := [D.int 0]) (ys := a.map nD) (by simp [lstD]) rfl (.inr ⟨_, rfl⟩) (by simp; omega), owp_some, fq_next]
  refine ⟨by rw [blws_append, blws_n]; rfl, ?_⟩
  rw [wp_dlst, wp_acons, wp_kn, wp_anil]
  refine ⟨z1, ?_⟩
  rw [addX_l (xs := [D.int 0] ++ a.map nD) (ys := [D.int 1]) rfl (by simp [lstD]) (.inl ⟨_, rfl⟩) (by simp; omega), owp_some, fq_next]
  refine ⟨by rw [blws_append, blws_append, blws_n]; rfl, ?_⟩
  rw [wp_fz, wp_sl, wp_vr]
  refine ⟨_, rfl, ?_⟩
  rw [wp_osome, wp_vr]
  refine ⟨_, rfl, _, rfl, ?_⟩
  rw [wp_onone, o_sl_rol, hb, fq_push]
  refine ⟨blws_n, ?_⟩
  rw [addX_l (xs := [D.int 0] ++ a.map nD ++ [D.int 1]) (ys := b.map nD) rfl rfl (.inl ⟨_, rfl⟩) (by simp; omega), owp_some, fq_push]
  refine ⟨by rw [blws_append, blws_append, blws_append, blws_n, blws_n]; rfl, ?_⟩
  have := hq ([0] ++ a ++ [1] ++ b) (by simp; omega) (by simp; omega) (fun x hx => by
    simp at hx
    rcases hx with rfl | hx | rfl | hx
    · omega
    · exact om x (am x hx)
    · omega
    · exact om x (bm x hx))
  rw [List.map_append, List.map_append, List.map_append] at this
  show FQ mh Q _ mh
  rw [fq_rol]
  refine ⟨by rw [blws_append, blws_append, blws_append, blws_n, blws_n]; rfl, by simp, ?_⟩
  rw [List.take_length]
  exact this
end K09
namespace K09
open PySem Det
noncomputable def bK0 : MS :=
    sq (sst 3 (fz (bi oAddX (fz (bi oAddX (dlst (acons (kn (.int 0)) (anil))) (fz (lrg2 (kn (.int 2)) (bi oAdd (vr 1) (kn (.int 2))))))) (dlst (acons (kn (.int 1)) (anil)))))) <|
    ret (dlst (acons (bi oAdd (vr 1) (kn (.int 2))) (acons (fz (lc (range1 (bi oAdd (vr 1) (kn (.int 1)))) (.nm 4) (yes) (dtup (acons (bi oIx (vr 3) (vr 4)) (acons (bi oIx (vr 3) (bi oAdd (vr 4) (kn (.int 1)))) (anil)))) [4])) (anil))))
noncomputable def bK1 : MS :=
    sq (sst 3 (cal 1 m__law_round (acons (bi oAdd (vr 1) (kn (.int 4))) (anil)))) <|
    sq (sst 2 (lc (range1 (bi oAdd (vr 1) (kn (.int 4)))) (.nm 4) (yes) (dtup (acons (bi oIx (vr 3) (vr 4)) (acons (bi oIx (vr 3) (bi oSub (vr 4) (kn (.int 1)))) (anil)))) [4])) <|
    sq (sif (tb (bi oEq (vr 0) (kn (.int 2)))) (sst 2 (bi oAddX (vr 2) (lc (range1 (bi oAdd (vr 1) (kn (.int 4)))) (.nm 4) (yes) (dtup (acons (vr 4) (acons (bi oAdd (vr 1) (kn (.int 4))) (anil)))) [4]))) (nop)) <|
    ret (dlst (acons (bi oAdd (bi oAdd (vr 1) (kn (.int 3))) (vr 0)) (acons (vr 2) (anil))))
noncomputable def bK3 : MS :=
    sq (sfor (range1 (bi oAdd (vr 1) (kn (.int 1)))) (.nm 4) (sq (drp (app (vr 2) (dtup (acons (bi oAdd (kn (.int 2)) (bi oMulX (kn (.int 2)) (vr 4))) (acons (bi oAdd (kn (.int 3)) (bi oMulX (kn (.int 2)) (vr 4))) (anil)))))) <|
    sif (tb (bi oGt (vr 4) (kn (.int 0)))) (sq (drp (app (vr 2) (dtup (acons (bi oMulX (kn (.int 2)) (vr 4)) (acons (bi oAdd (kn (.int 2)) (bi oMulX (kn (.int 2)) (vr 4))) (anil)))))) <|
    drp (app (vr 2) (dtup (acons (bi oAdd (kn (.int 1)) (bi oMulX (kn (.int 2)) (vr 4))) (acons (bi oAdd (kn (.int 3)) (bi oMulX (kn (.int 2)) (vr 4))) (anil)))))) (nop))) <|
    ret (dlst (acons (bi oAdd (bi oMulX (kn (.int 2)) (vr 1)) (kn (.int 4))) (acons (fz (bi oAddX (vr 2) (dlst (acons (dtup (acons (kn (.int 0)) (acons (kn (.int 2)) (anil)))) (acons (dtup (acons (kn (.int 0)) (acons (kn (.int 3)) (anil)))) (acons (dtup (acons (bi oAdd (bi oMulX (kn (.int 2)) (vr 1)) (kn (.int 2))) (acons (kn (.int 1)) (anil)))) (acons (dtup (acons (bi oAdd (bi oMulX (kn (.int 2)) (vr 1)) (kn (.int 3))) (acons (kn (.int 1)) (anil)))) (anil)))))))) (anil))))
noncomputable def bK4 : MS :=
    sq (sfor (range2 (kn (.int 1)) (bi oAdd (vr 1) (kn (.int 3)))) (.nm 4) (sst 2 (bi oAddX (vr 2) (lc (range1 (vr 4)) (.nm 7) (tor (tb (bi oGt (vr 4) (kn (.int 1)))) (tb (bi oGt (vr 1) (kn (.int 2))))) (dtup (acons (vr 7) (acons (vr 4) (anil)))) [7])))) <|
    ret (dlst (acons (bi oAdd (vr 1) (kn (.int 3))) (acons (vr 2) (anil))))
noncomputable def bK5 : MS :=
    ret (dlst (acons (kn (.int 6)) (acons (fz (dlst (acons (dtup (acons (kn (.int 0)) (acons (kn (.int 2)) (anil)))) (acons (dtup (acons (kn (.int 0)) (acons (kn (.int 3)) (anil)))) (acons (dtup (acons (kn (.int 2)) (acons (kn (.int 3)) (anil)))) (acons (dtup (acons (kn (.int 4)) (acons (kn (.int 5)) (anil)))) (acons (dtup (acons (kn (.int 1)) (acons (kn (.int 4)) (anil)))) (acons (dtup (acons (kn (.int 1)) (acons (kn (.int 5)) (anil)))) (acons (dtup (acons (kn (.int 0)) (acons (kn (.int 4)) (anil)))) (acons (dtup (acons (kn (.int 2)) (acons (kn (.int 5)) (anil)))) (acons (dtup (acons (kn (.int 3)) (acons (kn (.int 1)) (anil)))) (anil)))))))))))) (anil))))
noncomputable def bK6 : MS :=
    ret (dlst (acons (bi oAdd (vr 1) (kn (.int 3))) (acons (fz (lc (range1 (bi oAdd (vr 1) (kn (.int 3)))) (.nm 4) (tb (bi oNe (vr 4) (kn (.int 2)))) (dtup (acons (kn (.int 2)) (acons (vr 4) (anil)))) [4])) (anil))))
noncomputable def bK7 : MS :=
    sq (sst 5 (bi oAdd (kn (.int 2)) (bi oFdiv (vr 1) (kn (.int 2))))) <|
    sq (sst 6 (bi oAdd (kn (.int 2)) (bi oFdiv (bi oAdd (vr 1) (kn (.int 1))) (kn (.int 2))))) <|
    sq (sst 3 (fz (bi oAddX (fz (bi oAddX (dlst (acons (kn (.int 0)) (anil))) (fz (lrg2 (kn (.int 2)) (bi oMulX (vr 5) (vr 6)))))) (dlst (acons (kn (.int 1)) (anil)))))) <|
    sq (sfor (range1 (bi oMulX (vr 5) (vr 6))) (.nm 4) (sq (sif (tb (bi oGt (bi oMod (ap oInt (acons (vr 4) (anil))) (vr 5)) (kn (.int 0)))) (drp (app (vr 2) (dtup (acons (bi oIx (vr 3) (bi oSub (vr 4) (kn (.int 1)))) (acons (bi oIx (vr 3) (vr 4)) (anil)))))) (nop)) <|
    sif (tb (bi oGe (vr 4) (vr 5))) (drp (app (vr 2) (dtup (acons (bi oIx (vr 3) (bi oSub (vr 4) (vr 5))) (acons (bi oIx (vr 3) (vr 4)) (anil)))))) (nop))) <|
    ret (dlst (acons (bi oMulX (vr 5) (vr 6)) (acons (vr 2) (anil))))
noncomputable def bK8 : MS :=
    sq (sfor (range1 (bi oAdd (vr 1) (kn (.int 1)))) (.nm 4) (sq (drp (app (vr 2) (dtup (acons (kn (.int 0)) (acons (bi oAdd (kn (.int 2)) (vr 4)) (anil)))))) <|
    sq (drp (app (vr 2) (dtup (acons (kn (.int 1)) (acons (bi oAdd (kn (.int 2)) (vr 4)) (anil)))))) <|
    sif (tand (tb (bi oGt (vr 4) (kn (.int 0)))) (tb (bi oEq (vr 0) (kn (.int 8))))) (drp (app (vr 2) (dtup (acons (bi oAdd (kn (.int 1)) (vr 4)) (acons (bi oAdd (kn (.int 2)) (vr 4)) (anil)))))) (nop))) <|
    ret (dlst (acons (bi oAdd (vr 1) (kn (.int 3))) (acons (vr 2) (anil))))
theorem base_eq : m__law_base = (runF 8 <|
    sq (sst 2 (dlst (anil))) <|
    sq (sif (tb (bi oEq (vr 0) (kn (.int 0)))) bK0 (nop)) <|
    sq (sif (tor (tb (bi oEq (vr 0) (kn (.int 1)))) (tb (bi oEq (vr 0) (kn (.int 2))))) bK1 (nop)) <|
    sq (sif (tb (bi oEq (vr 0) (kn (.int 3)))) bK3 (nop)) <|
    sq (sif (tb (bi oEq (vr 0) (kn (.int 4)))) bK4 (nop)) <|
    sq (sif (tb (bi oEq (vr 0) (kn (.int 5)))) bK5 (nop)) <|
    sq (sif (tb (bi oEq (vr 0) (kn (.int 6)))) bK6 (nop)) <|
    sq (sif (tb (bi oEq (vr 0) (kn (.int 7)))) bK7 (nop)) <|
    bK8) := rfl

/-- what _law_base hands back over mh -/
def BaseQ (mh : MH) (kind size : Nat) (d : D) (h : MH) : Prop := ∃ (g : MH) (k : Nat) (ED : D) (many : Nat) (es : List (Nat × Nat)), h = mh ++ g ∧ d = .ref k ∧ mh.length ≤ k ∧ h[k]? = some (.lst [.int (many : Nat), ED]) ∧ (ED = .rol (es.map prD) ∨ ∃ j, mh.length ≤ j ∧ ED = .ref j ∧ h[j]? = some (.lst (es.map prD))) ∧ 2 ≤ many ∧ many ≤ 1000 ∧ es.length ≤ 4000 ∧ 1 ≤ es.length ∧ (∀ q ∈ es, q.1 < many ∧ q.2 < many) ∧ (size = 0 → many ≤ 6 ∧ es.length ≤ 9) ∧ (kind = 0 → many = size + 2 ∧ es.length ≤ size + 1)
theorem ret_pair {env : Nv} {mh1 : MH} {O : Po} {f g : ME} {many : Nat} {ED : D} (hf : ∀ (Q : D → MH → Prop) (E : Exn → MH → Prop), Q (.int (many : Nat)) mh1 → (f env mh1).wp Q E) (hg : ∀ (Q : D → MH → Prop) (E : Exn → MH → Prop), Q ED mh1 → (g env mh1).wp Q E) (hq : O.rt (.ref mh1.length) (mh1 ++ [.lst [.int (many : Nat), ED]])) : (ret (dlst (acons f (acons g anil))) env mh1).wp O := by
  have z2 : (2 : Nat) ≤ sizeLine := by decide
  rw [wp_ret, wp_dlst, wp_acons]
  refine hf _ _ ?_
  rw [wp_acons]
  refine hg _ _ ?_
  rw [wp_anil]
  exact ⟨z2, hq⟩
/-- the pair laid behind, its list frozen -/
theorem base_rol {mh g : MH} {kind size many : Nat} {es : List (Nat × Nat)} (h : 2 ≤ many ∧ many ≤ 1000 ∧ es.length ≤ 4000 ∧ 1 ≤ es.length ∧ (∀ q ∈ es, q.1 < many ∧ q.2 < many) ∧ (size = 0 → many ≤ 6 ∧ es.length ≤ 9) ∧ (kind = 0 → many = size + 2 ∧ es.length ≤ size + 1)) : BaseQ mh kind size (.ref (mh ++ g).length) (mh ++ g ++ [.lst [.int (many : Nat), .rol (es.map prD)]]) :=
  ⟨g ++ [.lst [.int (many : Nat), .rol (es.map prD)]], _, _, many, es, by simp, rfl, by simp, by simp, .inl rfl, h⟩
theorem base_ref {mh g : MH} {kind size many j : Nat} {es : List (Nat × Nat)} (hj : mh.length ≤ j) (hjj : (mh ++ g)[j]? = some (.lst (es.map prD))) (h : 2 ≤ many ∧ many ≤ 1000 ∧ es.length ≤ 4000 ∧ 1 ≤ es.length ∧ (∀ q ∈ es, q.1 < many ∧ q.2 < many) ∧ (size = 0 → many ≤ 6 ∧ es.length ≤ 9) ∧ (kind = 0 → many = size + 2 ∧ es.length ≤ size + 1)) : BaseQ mh kind size (.ref (mh ++ g).length) (mh ++ g ++ [.lst [.int (many : Nat), .ref j]]) :=
  ⟨g ++ [.lst [.int (many : Nat), .ref j]], _, _, many, es, by simp, rfl, by simp, by simp, .inr ⟨j, hj, rfl, by rw [List.getElem?_append_left (List.getElem?_eq_some_iff.mp hjj).1]; exact hjj⟩, h⟩
section
variable {mh : MH} {O : Po} {size : Nat}
abbrev e0 (kind size n : Nat) : Nv := [some (.int (kind : Nat)), some (.int (size : Nat)), some (.ref n), none, none, none, none, none]
theorem k0_ok (hs : size ≤ 27) (hq : ∀ d h, BaseQ mh 0 size d h → O.rt d h) : (bK0 (e0 0 size mh.length) (mh ++ [.lst []])).wp O := by
  have hz : (10000 : Nat) ≤ sizeLine := by decide
  have z2 : (2 : Nat) ≤ sizeLine := by decide
  unfold bK0
  refine seq_cut (fun e h => ∃ ol : List Nat, e = [some (.int (0 : Nat)), some (.int (size : Nat)), some (.ref mh.length), some (.rol (ol.map nD)), none, none, none, none] ∧ h = mh ++ [.lst []] ∧ ol.length = size + 2 ∧ ∀ x ∈ ol, x < size + 2) ?_ ?_
  · rw [wp_sst]
    refine order_wp (m := size + 2) (by omega) (by omega) (fun h Q E q => ?_) fun ol h1 h2 => ⟨ol, rfl, rfl, h1, h2⟩
    simp; exact q
  rintro e h ⟨ol, rfl, rfl, h1, h2⟩
  obtain ⟨H, hH⟩ : ∃ H, H = mh ++ [Ob.lst []] := ⟨_, rfl⟩
  rw [← hH]
  rw [wp_ret, wp_dlst, wp_acons, wp_bi, wp_vr]
  refine ⟨_, rfl, ?_⟩
  rw [wp_kn, o_add_i, owp_some, wp_acons, wp_fz, wp_lc, wp_range1, wp_bi, wp_vr]
  refine ⟨_, rfl, ?_⟩
  rw [wp_kn, o_add_i, owp_some]
  refine ⟨_, rfl, okB_of (by omega) (by omega), ?_⟩
  rw [show ((size : Int) + 1).toNat = size + 1 by omega, rg0]
  refine lc_ex H (List.range (size + 1)) nD (fun _ => true) (fun q => q.1 < size + 2 ∧ q.2 < size + 2) rfl rfl (by simp; omega) (fun _ => rfl) ?_ ?_
  · intro i hi acc
    have hi : i < size + 1 := List.mem_range.mp hi
    refine ⟨_, rfl, ?_⟩
    rw [wp_yes]
    refine ⟨rfl, rfl, fun _ => ?_⟩
    have a1 := at_n (l := ol) (i := i) (by omega)
    have a2 := at_n (l := ol) (i := i + 1) (by omega)
    rw [show ((i + 1 : Nat) : Int) = (i : Int) + 1 by omega] at a2
    simp [wipeD, nD, a1, a2, z2]
    exact ⟨ol[i], ol[i + 1], rfl, h2 _ (List.getElem_mem _), h2 _ (List.getElem_mem _)⟩
  · intro es el ep
    rw [fq_push]
    refine ⟨blws_pr, ?_⟩
    rw [wp_anil]
    refine ⟨z2, ?_⟩
    rw [filt_true] at el
    simp at el
    refine hq _ _ ?_
    subst hH
    have := base_rol (mh := mh) (g := [.lst []]) (kind := 0) (size := size) (many := size + 2) (es := es) ⟨by omega, by omega, by omega, by omega, ep, fun _ => by omega, fun _ => by omega⟩
    simpa using this
theorem k1_ok {kind : Nat} (hk : kind = 1 ∨ kind = 2) (hs : size ≤ 27) (hq : ∀ d h, BaseQ mh kind size d h → O.rt d h) : (bK1 (e0 kind size mh.length) (mh ++ [.lst []])).wp O := by
  have hz : (10000 : Nat) ≤ sizeLine := by decide
  have z2 : (2 : Nat) ≤ sizeLine := by decide
  unfold bK1
  refine seq_cut (fun e h => ∃ ol : List Nat, e = [some (.int (kind : Nat)), some (.int (size : Nat)), some (.ref mh.length), some (.rol (ol.map nD)), none, none, none, none] ∧ h = mh ++ [.lst []] ∧ size + 4 ≤ ol.length ∧ ol.length ≤ 3 * (size + 4) ∧ ∀ x ∈ ol, x < size + 4) ?_ ?_
  · rw [wp_sst, wp_cal, wp_acons, wp_bi, wp_vr]
    refine ⟨_, rfl, ?_⟩
    rw [wp_kn, o_add_i, owp_some, wp_anil, show (size : Int) + 4 = ((size + 4 : Nat) : Int) by omega]
    exact ⟨rfl, round_ok (by omega) (by omega) fun ol h1 h2 h3 => ⟨ol, rfl, rfl, h1, h2, h3⟩⟩
  rintro e h ⟨ol, rfl, rfl, h1, h1', h2⟩
  refine seq_cut (fun e h => ∃ es : List (Nat × Nat), e = [some (.int (kind : Nat)), some (.int (size : Nat)), some (.ref (mh.length + 1)), some (.rol (ol.map nD)), none, none, none, none] ∧ h = mh ++ [.lst [], .lst (es.map prD)] ∧ es.length = size + 4 ∧ ∀ q ∈ es, q.1 < size + 4 ∧ q.2 < size + 4) ?_ ?_
  · obtain ⟨H, hH⟩ : ∃ H, H = mh ++ [Ob.lst []] := ⟨_, rfl⟩
    rw [← hH]
    rw [wp_sst, wp_lc, wp_range1, wp_bi, wp_vr]
    refine ⟨_, rfl, ?_⟩
    rw [wp_kn, o_add_i, owp_some]
    refine ⟨_, rfl, okB_of (by omega) (by omega), ?_⟩
    rw [show ((size : Int) + 4).toNat = size + 4 by omega, rg0]
    refine lc_ex H (List.range (size + 4)) nD (fun _ => true) (fun q => q.1 < size + 4 ∧ q.2 < size + 4) rfl rfl (by simp; omega) (fun _ => rfl) ?_ ?_
    · intro i hi acc
      have hi : i < size + 4 := List.mem_range.mp hi
      refine ⟨_, rfl, ?_⟩
      rw [wp_yes]
      refine ⟨rfl, rfl, fun _ => ?_⟩
      have a1 := at_n (l := ol) (i := i) (by omega)
      obtain ⟨x, hx, ax⟩ : ∃ x ∈ ol, L2.atI (ol.map nD) ((i : Int) - 1) = some (nD x) := by
        by_cases h : i = 0
        · subst h; exact at_last (by omega)
        · refine ⟨ol[i - 1], List.getElem_mem _, ?_⟩
          rw [show (i : Int) - 1 = ((i - 1 : Nat) : Int) by omega]
          exact at_n (by omega)
      simp [wipeD, nD, a1, ax, z2]
      exact ⟨ol[i], x, rfl, h2 _ (List.getElem_mem _), h2 _ hx⟩
    · intro es el ep
      refine ⟨es, by rw [hH]; simp, by rw [hH]; simp, by rw [filt_true] at el; simpa using el, ep⟩
  rintro e h ⟨es, rfl, rfl, el, ep⟩
  refine seq_cut (fun e h => ∃ (es : List (Nat × Nat)) (g : MH) (j : Nat), e = [some (.int (kind : Nat)), some (.int (size : Nat)), some (.ref j), some (.rol (ol.map nD)), none, none, none, none] ∧ h = mh ++ g ∧ mh.length ≤ j ∧ h[j]? = some (.lst (es.map prD)) ∧ es.length ≤ kind * (size + 4) ∧ 1 ≤ es.length ∧ ∀ q ∈ es, q.1 < size + 3 + kind ∧ q.2 < size + 3 + kind) ?_ ?_
  · rcases hk with rfl | rfl
    · rw [wp_sif, wp_tb, wp_bi, wp_vr]
      refine ⟨_, rfl, ?_⟩
      rw [wp_kn, o_eq_i, owp_some]
      refine ⟨_, rfl, fun z => by simp at z, fun _ => ?_⟩
      rw [wp_nop]
      refine ⟨es, [.lst [], .lst (es.map prD)], mh.length + 1, rfl, rfl, by omega, by simp, by omega, by omega, fun q hq => ?_⟩
      have := ep q hq
      omega
    · rw [wp_sif, wp_tb, wp_bi, wp_vr]
      refine ⟨_, rfl, ?_⟩
      rw [wp_kn, o_eq_i, owp_some]
      refine ⟨_, rfl, fun _ => ?_, fun z => by simp at z⟩
      obtain ⟨H, hH⟩ : ∃ H, H = mh ++ [Ob.lst [], .lst (es.map prD)] := ⟨_, rfl⟩
      have hk1 : H[mh.length + 1]? = some (.lst (es.map prD)) := by rw [hH]; simp
      rw [← hH]
      rw [wp_sst, wp_bi, wp_vr]
      refine ⟨_, rfl, ?_⟩
      rw [wp_lc, wp_range1, wp_bi, wp_vr]
      refine ⟨_, rfl, ?_⟩
      rw [wp_kn, o_add_i, owp_some]
      refine ⟨_, rfl, okB_of (by omega) (by omega), ?_⟩
      rw [show ((size : Int) + 4).toNat = size + 4 by omega, rg0]
      refine lc_ex H (List.range (size + 4)) nD (fun _ => true) (fun q => q.1 < size + 5 ∧ q.2 < size + 5) rfl rfl (by simp; omega) (fun _ => rfl) ?_ ?_
      · intro i hi acc
        have hi : i < size + 4 := List.mem_range.mp hi
        refine ⟨_, rfl, ?_⟩
        rw [wp_yes]
        refine ⟨rfl, rfl, fun _ => ?_⟩
        simp [wipeD, nD, z2]
        exact ⟨i, size + 4, by simp [prD], by omega, by omega⟩
      · intro fs fl fp
        rw [filt_true] at fl
        simp at fl
        rw [addX_l (xs := es.map prD) (ys := fs.map prD) (by simp [lstD, List.getElem?_append_left (List.getElem?_eq_some_iff.mp hk1).1, hk1]) (by simp [lstD]) (.inr ⟨_, rfl⟩) (by simp; omega), owp_some]
        refine ⟨es ++ fs, [.lst [], .lst (es.map prD), .lst (fs.map prD), .lst ((es ++ fs).map prD)], mh.length + 3, by rw [hH]; simp, by rw [hH]; simp, by omega, by rw [hH]; simp, by simp; omega, by simp; omega, fun q hq => ?_⟩
        rcases List.mem_append.mp hq with hq | hq
        · have := ep q hq; omega
        · have := fp q hq; omega
  rintro e h ⟨es, g, j, rfl, rfl, hj, hjj, el, el1, ep⟩
  refine ret_pair (many := size + 3 + kind) (ED := .ref j) (fun Q E q => ?_) (fun Q E q => ?_) ?_
  · simp; exact q
  · simp; exact q
  · have hkk : kind * (size + 4) ≤ 2 * (size + 4) := Nat.mul_le_mul_right _ (by omega)
    exact hq _ _ (base_ref hj hjj ⟨by omega, by omega, by omega, el1, ep, fun _ => by omega, fun _ => by omega⟩)
end
end K09
namespace K09
open PySem Det
section
variable {mh : MH} {O : Po} {size : Nat}
theorem ml2 (i : Int) (j : Int) (mh : MH) (Q : D → MH → Prop) (h : -(2 ^ 64) < i ∧ i < 2 ^ 64) : owp (oMulX (.int i) (.int j) mh) Q ↔ Q (.int (i * j)) mh := o_mul_l h
/-- one more pair behind -/
theorem app_pair {env : Nv} {es : List (Nat × Nat)} {f g : ME} {O : Po} {a b : Nat} (hl : es.length < 10000) (hv : env[2]? = some (some (.ref mh.length))) (hf : ∀ (h : MH) (Q : D → MH → Prop) (E : Exn → MH → Prop), Q (.int (a : Nat)) h → (f env h).wp Q E) (hg : ∀ (h : MH) (Q : D → MH → Prop) (E : Exn → MH → Prop), Q (.int (b : Nat)) h → (g env h).wp Q E)
    (hq : O.nx env (mh ++ [.lst ((es ++ [(a, b)]).map prD)])) : (drp (app (vr 2) (dtup (acons f (acons g anil)))) env (mh ++ [.lst (es.map prD)])).wp O := by
  have hz : (10000 : Nat) ≤ sizeLine := by decide
  have z2 : (2 : Nat) ≤ sizeLine := by decide
  rw [wp_drp, wp_app, wp_vr]
  refine ⟨_, hv, _, rfl, ⟨es.map prD, by simp⟩, ?_⟩
  rw [wp_dtup, wp_acons]
  refine hf _ _ _ ?_
  rw [wp_acons]
  refine hg _ _ _ ?_
  rw [wp_anil]
  refine ⟨z2, es.map prD, by simp, by simp; omega, ?_⟩
  simpa [prD] using hq
theorem k3_ok (hs : size ≤ 27) (hq : ∀ d h, BaseQ mh 3 size d h → O.rt d h) : (bK3 (e0 3 size mh.length) (mh ++ [.lst []])).wp O := by
  have hz : (10000 : Nat) ≤ sizeLine := by decide
  have z2 : (2 : Nat) ≤ sizeLine := by decide
  have z4 : (4 : Nat) ≤ sizeLine := by decide
  have m2 := fun j mh Q => ml2 2 j mh Q (by decide)
  unfold bK3
  obtain ⟨J, hJ⟩ : ∃ J : Nat → Nv → MH → Prop, ∀ i e h, J i e h ↔ ∃ (es : List (Nat × Nat)) (v4 : Option D), e = [some (.int (3 : Nat)), some (.int (size : Nat)), some (.ref mh.length), none, v4, none, none, none] ∧ h = mh ++ [.lst (es.map prD)] ∧ es.length + 2 ≤ 3 * i + (if i = 0 then 2 else 0) ∧ ∀ q ∈ es, q.1 < 2 * i + 2 ∧ q.2 < 2 * i + 2 := ⟨_, fun _ _ _ => Iff.rfl⟩
  refine seq_cut (J (size + 1)) ?_ ?_
  · rw [wp_sfor, wp_range1, wp_bi, wp_vr]
    refine ⟨_, rfl, ?_⟩
    rw [wp_kn, o_add_i, owp_some]
    refine ⟨_, rfl, okB_of (by omega) (by omega), ?_⟩
    rw [show ((size : Int) + 1).toNat = size + 1 by omega]
    refine loop_n J ((hJ _ _ _).mpr ⟨[], none, rfl, rfl, by simp, by simp⟩) ?_ (fun e h q => ⟨rfl, q⟩)
    intro i e h hi hj
    obtain ⟨es, v4, rfl, rfl, el, ep⟩ := (hJ _ _ _).mp hj
    refine ⟨rfl, _, rfl, ?_⟩
    have el2 : es.length ≤ 100 := by split at el <;> omega
    refine seq_cut (fun e h => e = [some (.int (3 : Nat)), some (.int (size : Nat)), some (.ref mh.length), none, some (.int (i : Nat)), none, none, none] ∧ h = mh ++ [.lst ((es ++ [(2 + 2 * i, 3 + 2 * i)]).map prD)]) ?_ ?_
    · refine app_pair (es := es) (a := 2 + 2 * i) (b := 3 + 2 * i) (by omega) rfl (fun h Q E q => ?_) (fun h Q E q => ?_) ⟨rfl, rfl⟩
      · simp; rw [m2]; simp; simpa using q
      · simp; rw [m2]; simp; simpa using q
    rintro e h ⟨rfl, rfl⟩
    obtain ⟨es2, hes2⟩ : ∃ es2, es2 = es ++ [(2 + 2 * i, 3 + 2 * i)] := ⟨_, rfl⟩
    rw [← hes2]
    have el3 : es2.length = es.length + 1 := by rw [hes2]; simp
    have ep3 : ∀ q ∈ es2, q.1 < 2 * (i + 1) + 2 ∧ q.2 < 2 * (i + 1) + 2 := fun q hq => by
      rw [hes2] at hq
      rcases List.mem_append.mp hq with hq | hq
      · have := ep q hq; omega
      · rw [List.mem_singleton.mp hq]; simp; omega
    rw [wp_sif, wp_tb, wp_bi, wp_vr]
    refine ⟨_, rfl, ?_⟩
    rw [wp_kn, o_gt_i, owp_some]
    refine ⟨_, rfl, fun hpos => ?_, fun hpos => ?_⟩
    · have hi0 : 0 < i := by simpa using hpos
      refine seq_cut (fun e h => e = [some (.int (3 : Nat)), some (.int (size : Nat)), some (.ref mh.length), none, some (.int (i : Nat)), none, none, none] ∧ h = mh ++ [.lst ((es2 ++ [(2 * i, 2 + 2 * i)]).map prD)]) ?_ ?_
      · refine app_pair (es := es2) (a := 2 * i) (b := 2 + 2 * i) (by omega) rfl (fun h Q E q => ?_) (fun h Q E q => ?_) ⟨rfl, rfl⟩
        · simp; rw [m2]; simp at q ⊢; exact q
        · simp; rw [m2]; simp; simpa using q
      rintro e h ⟨rfl, rfl⟩
      refine app_pair (es := es2 ++ [(2 * i, 2 + 2 * i)]) (a := 1 + 2 * i) (b := 3 + 2 * i) (by simp; omega) rfl (fun h Q E q => ?_) (fun h Q E q => ?_) ?_
      · simp; rw [m2]; simp; simpa using q
      · simp; rw [m2]; simp; simpa using q
      · show J (i + 1) _ _
        rw [hJ]
        refine ⟨es2 ++ [(2 * i, 2 + 2 * i)] ++ [(1 + 2 * i, 3 + 2 * i)], _, rfl, rfl, ?_, fun q hq => ?_⟩
        · rw [if_neg (by omega)] at el ⊢
          simp; omega
        · rcases List.mem_append.mp hq with hq | hq
          · rcases List.mem_append.mp hq with hq | hq
            · exact ep3 q hq
            · rw [List.mem_singleton.mp hq]; simp; omega
          · rw [List.mem_singleton.mp hq]; simp; omega
    · have hi0 : i = 0 := by simp at hpos; omega
      subst hi0
      rw [wp_nop]
      show J _ _ _
      rw [hJ]
      exact ⟨es2, _, rfl, rfl, by simp at el; rw [el3, el]; simp, ep3⟩
  intro e h hj
  obtain ⟨es, v4, rfl, rfl, el, ep⟩ := (hJ _ _ _).mp hj
  rw [if_neg (by omega)] at el
  clear hj hJ J
  refine ret_pair (many := 2 * size + 4) (ED := .rol ((es ++ [(0, 2), (0, 3), (2 * size + 2, 1), (2 * size + 3, 1)]).map prD)) (fun Q E q => ?_) (fun Q E q => ?_) ?_
  · simp; rw [m2]; simp; simpa using q
  · obtain ⟨H, hH⟩ : ∃ H, H = mh ++ [Ob.lst (es.map prD)] := ⟨_, rfl⟩
    have hk : H[mh.length]? = some (.lst (es.map prD)) := by rw [hH]; simp
    rw [← hH] at q ⊢
    have hkx : ∀ x, (H ++ [x])[mh.length]? = some (.lst (es.map prD)) := fun x => by rw [List.getElem?_append_left (List.getElem?_eq_some_iff.mp hk).1]; exact hk
    simp [z2, z4]
    rw [m2]
    simp
    rw [m2]
    simp
    rw [addX_l (xs := es.map prD) (ys := [(0, 2), (0, 3), (2 * size + 2, 1), (2 * size + 3, 1)].map prD) (by simp [lstD, hkx]) (by simp [lstD, prD]) (.inr ⟨_, rfl⟩) (by simp; omega), owp_some, fq_next, ← List.map_append]
    exact ⟨blws_pr, q⟩
  · refine hq _ _ ?_
    have := base_rol (mh := mh) (g := [.lst (es.map prD)]) (kind := 3) (size := size) (many := 2 * size + 4) (es := es ++ [(0, 2), (0, 3), (2 * size + 2, 1), (2 * size + 3, 1)]) ⟨by omega, by omega, by simp; omega, by simp, fun q hq => by
      rcases List.mem_append.mp hq with hq | hq
      · have := ep q hq; omega
      · simp at hq
        rcases hq with rfl | rfl | rfl | rfl <;> simp <;> omega, fun h => by subst h; simp at el ⊢; omega, fun z => by cases z⟩
    exact this
end
end K09
namespace K09
open PySem Det
section
variable {mh : MH} {O : Po} {size : Nat}
theorem k4_ok (hs : size ≤ 27) (hq : ∀ d h, BaseQ mh 4 size d h → O.rt d h) : (bK4 (e0 4 size mh.length) (mh ++ [.lst []])).wp O := by
  have hz : (10000 : Nat) ≤ sizeLine := by decide
  have z2 : (2 : Nat) ≤ sizeLine := by decide
  unfold bK4
  obtain ⟨J, hJ⟩ : ∃ J : Nat → Nv → MH → Prop, ∀ i e h, J i e h ↔ ∃ (es : List (Nat × Nat)) (v4 : Option D) (g : MH) (j : Nat), e = [some (.int (4 : Nat)), some (.int (size : Nat)), some (.ref j), none, v4, none, none, none] ∧ h = mh ++ g ∧ mh.length ≤ j ∧ h[j]? = some (.lst (es.map prD)) ∧ es.length ≤ i * 30 ∧ (i ≤ 2 → es.length ≤ 3) ∧ (i ≤ 1 → es.length ≤ 1) ∧ (2 ≤ i → 1 ≤ es.length) ∧ ∀ q ∈ es, q.1 < size + 3 ∧ q.2 < size + 3 := ⟨_, fun _ _ _ => Iff.rfl⟩
  refine seq_cut (J (size + 2)) ?_ ?_
  · rw [wp_sfor, wp_range2, wp_kn, wp_bi, wp_vr]
    refine ⟨_, rfl, ?_⟩
    rw [wp_kn, o_add_i, owp_some]
    refine ⟨_, _, rfl, rfl, ⟨okB_of (by omega) (by omega), okB_of (by omega) (by omega)⟩, ?_⟩
    rw [show ((size : Int) + 3 - 1).toNat = size + 2 by omega, show (1 : Int) = ((1 : Nat) : Int) from rfl, rg_n]
    refine loop_as ((List.range (size + 2)).map fun i => 1 + i) nD (fun i _ => J i) ((hJ _ _ _).mpr ⟨[], none, [.lst []], mh.length, rfl, rfl, by omega, by simp, by simp, by simp, by simp, fun z => by omega, by simp⟩) ?_ (fun e h q => ⟨rfl, by simpa using q⟩)
    intro i x xs e h _ hi hx hj
    obtain ⟨es, v4, g, j, rfl, rfl, hjl, hjj, el, el2, el1, el0, ep⟩ := (hJ _ _ _).mp hj
    have hi2 : i < size + 2 := by simpa using hi
    have hx2 : x = 1 + i := by
      rw [List.getElem?_map, List.getElem?_range hi2] at hx
      exact (Option.some.inj hx).symm
    subst hx2
    refine ⟨rfl, _, rfl, ?_⟩
    obtain ⟨H, hH⟩ : ∃ H, H = mh ++ g := ⟨_, rfl⟩
    rw [← hH] at hjj ⊢
    rw [wp_sst, wp_bi, wp_vr]
    refine ⟨_, rfl, ?_⟩
    rw [wp_lc, wp_range1, wp_vr]
    refine ⟨_, rfl, _, rfl, okB_of (by omega) (by omega), ?_⟩
    rw [show (((1 + i : Nat) : Int)).toNat = 1 + i by omega, rg0]
    refine lc_ex H (List.range (1 + i)) nD (fun _ => decide (1 < 1 + i) || decide (2 < size)) (fun q => q.1 < size + 3 ∧ q.2 < size + 3) rfl rfl (by simp; omega) (fun _ => rfl) ?_ ?_
    · intro b hb acc
      have hb : b < 1 + i := List.mem_range.mp hb
      refine ⟨_, rfl, ?_⟩
      have hpr : ((dtup (acons (vr 7) (acons (vr 4) (anil)))) ((wipeD [some (.int (4 : Nat)), some (.int (size : Nat)), some (.ref j), none, some (nD (1 + i)), none, none, none] [7]).set 7 (some (nD b))) (H ++ [.lst acc])).wp (fun y h2 => h2 = H ++ [.lst acc] ∧ ∃ q : Nat × Nat, y = prD q ∧ q.1 < size + 3 ∧ q.2 < size + 3) (fun _ _ => False) := by
        simp [wipeD, z2]
        exact ⟨b, 1 + i, rfl, by omega, by omega⟩
      rw [wp_tor, wp_tb, wp_bi, wp_vr]
      refine ⟨nD (1 + i), rfl, ?_⟩
      rw [wp_kn, nD, o_gt_i, owp_some]
      refine ⟨_, rfl, fun hb => ⟨rfl, ?_, fun _ => hpr⟩, fun hb => ?_⟩
      · have h1 : 1 < 1 + i := by simp at hb; omega
        simp [h1]
      rw [wp_tb, wp_bi, wp_vr]
      refine ⟨.int (size : Nat), rfl, ?_⟩
      rw [wp_kn, o_gt_i, owp_some]
      refine ⟨_, rfl, rfl, ?_, fun _ => hpr⟩
      have h1 : ¬ 1 < 1 + i := by simp at hb; omega
      simp [h1]
      omega
    · intro fs fl0 fp
      have fl : fs.length ≤ 1 + i := by
        rw [fl0]
        exact Nat.le_trans (List.length_filter_le _ _) (by simp)
      have flx : 1 ≤ i → fs.length = 1 + i := fun h => by
        rw [fl0, List.filter_eq_self.mpr (by intro a _; simp; omega)]; simp
      rw [addX_l (xs := es.map prD) (ys := fs.map prD) (by simp [lstD, List.getElem?_append_left (List.getElem?_eq_some_iff.mp hjj).1, hjj]) (by simp [lstD]) (.inr ⟨_, rfl⟩) (by simp; omega), owp_some]
      show J (i + 1) _ _
      rw [hJ]
      refine ⟨es ++ fs, some (nD (1 + i)), g ++ [.lst (fs.map prD), .lst ((es ++ fs).map prD)], H.length + 1, by simp, by rw [hH]; simp, by rw [hH]; simp; omega, by simp, by simp; omega, fun h => ?_, fun h => ?_, fun h => by have := flx (by omega); simp; omega, fun q hq => ?_⟩
      · simp
        by_cases h1 : i ≤ 1
        · have := el1 h1
          by_cases h0 : i = 0
          · subst h0; simp at el; subst el; simp; omega
          · omega
        · omega
      · have h0 : i = 0 := by omega
        subst h0
        simp at el; subst el; simp; omega
      · rcases List.mem_append.mp hq with hq | hq
        · exact ep q hq
        · exact fp q hq
  intro e h hj
  obtain ⟨es, v4, g, j, rfl, rfl, hjl, hjj, el, el2, el1, el0, ep⟩ := (hJ _ _ _).mp hj
  refine ret_pair (many := size + 3) (ED := .ref j) (fun Q E q => ?_) (fun Q E q => ?_) ?_
  · simp; exact q
  · simp; exact q
  · exact hq _ _ (base_ref hjl hjj ⟨by omega, by omega, by omega, el0 (by omega), ep, fun h => by subst h; have := el2 (by omega); omega, fun z => by cases z⟩)
theorem k5_ok (hq : ∀ d h, BaseQ mh 5 size d h → O.rt d h) : (bK5 (e0 5 size mh.length) (mh ++ [.lst []])).wp O := by
  have hz : (10000 : Nat) ≤ sizeLine := by decide
  have z2 : (2 : Nat) ≤ sizeLine := by decide
  have z9 : (9 : Nat) ≤ sizeLine := by decide
  unfold bK5
  refine ret_pair (many := 6) (ED := .rol ([(0, 2), (0, 3), (2, 3), (4, 5), (1, 4), (1, 5), (0, 4), (2, 5), (3, 1)].map prD)) (fun Q E q => ?_) (fun Q E q => ?_) ?_
  · simp; exact q
  · generalize mh ++ [Ob.lst []] = H at q ⊢
    simp [z2, z9]
    exact q
  · refine hq _ _ ?_
    exact base_rol (mh := mh) (g := [.lst []]) (kind := 5) (size := size) (many := 6) (es := [(0, 2), (0, 3), (2, 3), (4, 5), (1, 4), (1, 5), (0, 4), (2, 5), (3, 1)]) ⟨by omega, by omega, by decide, by decide, by decide, fun _ => by decide, fun z => by cases z⟩
theorem k6_ok (hs : size ≤ 27) (hq : ∀ d h, BaseQ mh 6 size d h → O.rt d h) : (bK6 (e0 6 size mh.length) (mh ++ [.lst []])).wp O := by
  have hz : (10000 : Nat) ≤ sizeLine := by decide
  have z2 : (2 : Nat) ≤ sizeLine := by decide
  unfold bK6
  obtain ⟨H, hH⟩ : ∃ H, H = mh ++ [Ob.lst []] := ⟨_, rfl⟩
  rw [← hH]
  rw [wp_ret, wp_dlst, wp_acons, wp_bi, wp_vr]
  refine ⟨_, rfl, ?_⟩
  rw [wp_kn, o_add_i, owp_some, wp_acons, wp_fz, wp_lc, wp_range1, wp_bi, wp_vr]
  refine ⟨_, rfl, ?_⟩
  rw [wp_kn, o_add_i, owp_some]
  refine ⟨_, rfl, okB_of (by omega) (by omega), ?_⟩
  rw [show ((size : Int) + 3).toNat = size + 3 by omega, rg0]
  refine lc_ex H (List.range (size + 3)) nD (fun i => !((i : Int) == 2)) (fun q => q.1 < size + 3 ∧ q.2 < size + 3) rfl rfl (by simp; omega) (fun _ => rfl) ?_ ?_
  · intro i hi acc
    have hi : i < size + 3 := List.mem_range.mp hi
    refine ⟨_, rfl, ?_⟩
    rw [wp_tb, wp_bi, wp_vr]
    refine ⟨nD i, rfl, ?_⟩
    rw [wp_kn, nD, o_ne_i, owp_some]
    refine ⟨_, rfl, rfl, rfl, fun _ => ?_⟩
    simp [wipeD, z2]
    exact ⟨2, i, rfl, by omega, by omega⟩
  · intro es el0 ep
    have el : es.length ≤ size + 3 := by
      rw [el0]
      exact Nat.le_trans (List.length_filter_le _ _) (by simp)
    have el1 : 1 ≤ es.length := by
      rw [el0]
      exact List.length_pos_of_mem (a := 0) (List.mem_filter.mpr ⟨List.mem_range.mpr (by omega), by decide⟩)
    rw [fq_push]
    refine ⟨blws_pr, ?_⟩
    rw [wp_anil]
    refine ⟨z2, ?_⟩
    refine hq _ _ ?_
    subst hH
    have := base_rol (mh := mh) (g := [.lst []]) (kind := 6) (size := size) (many := size + 3) (es := es) ⟨by omega, by omega, by omega, el1, ep, fun _ => by omega, fun z => by cases z⟩
    simpa using this
theorem k8_ok {kind : Nat} (hk : kind = 8 ∨ kind = 9) (hs : size ≤ 27) (hq : ∀ d h, BaseQ mh kind size d h → O.rt d h) : (bK8 (e0 kind size mh.length) (mh ++ [.lst []])).wp O := by
  have hz : (10000 : Nat) ≤ sizeLine := by decide
  have z2 : (2 : Nat) ≤ sizeLine := by decide
  unfold bK8
  obtain ⟨J, hJ⟩ : ∃ J : Nat → Nv → MH → Prop, ∀ i e h, J i e h ↔ ∃ (es : List (Nat × Nat)) (v4 : Option D), e = [some (.int (kind : Nat)), some (.int (size : Nat)), some (.ref mh.length), none, v4, none, none, none] ∧ h = mh ++ [.lst (es.map prD)] ∧ es.length ≤ 3 * i ∧ (1 ≤ i → 1 ≤ es.length) ∧ ∀ q ∈ es, q.1 < size + 3 ∧ q.2 < size + 3 := ⟨_, fun _ _ _ => Iff.rfl⟩
  refine seq_cut (J (size + 1)) ?_ ?_
  · rw [wp_sfor, wp_range1, wp_bi, wp_vr]
    refine ⟨_, rfl, ?_⟩
    rw [wp_kn, o_add_i, owp_some]
    refine ⟨_, rfl, okB_of (by omega) (by omega), ?_⟩
    rw [show ((size : Int) + 1).toNat = size + 1 by omega]
    refine loop_n J ((hJ _ _ _).mpr ⟨[], none, rfl, rfl, by simp, fun z => by omega, by simp⟩) ?_ (fun e h q => ⟨rfl, q⟩)
    intro i e h hi hj
    obtain ⟨es, v4, rfl, rfl, el, el0, ep⟩ := (hJ _ _ _).mp hj
    refine ⟨rfl, _, rfl, ?_⟩
    refine seq_cut (fun e h => e = [some (.int (kind : Nat)), some (.int (size : Nat)), some (.ref mh.length), none, some (.int (i : Nat)), none, none, none] ∧ h = mh ++ [.lst ((es ++ [(0, 2 + i)]).map prD)]) ?_ ?_
    · refine app_pair (es := es) (a := 0) (b := 2 + i) (by omega) rfl (fun h Q E q => ?_) (fun h Q E q => ?_) ⟨rfl, rfl⟩
      · simpa using q
      · simp; simpa using q
    rintro e h ⟨rfl, rfl⟩
    refine seq_cut (fun e h => e = [some (.int (kind : Nat)), some (.int (size : Nat)), some (.ref mh.length), none, some (.int (i : Nat)), none, none, none] ∧ h = mh ++ [.lst ((es ++ [(0, 2 + i)] ++ [(1, 2 + i)]).map prD)]) ?_ ?_
    · refine app_pair (es := es ++ [(0, 2 + i)]) (a := 1) (b := 2 + i) (by simp; omega) rfl (fun h Q E q => ?_) (fun h Q E q => ?_) ⟨rfl, rfl⟩
      · simpa using q
      · simp; simpa using q
    rintro e h ⟨rfl, rfl⟩
    obtain ⟨es2, hes2⟩ : ∃ es2, es2 = es ++ [(0, 2 + i)] ++ [(1, 2 + i)] := ⟨_, rfl⟩
    rw [← hes2]
    have el2 : es2.length = es.length + 2 := by rw [hes2]; simp
    have ep2 : ∀ q ∈ es2, q.1 < size + 3 ∧ q.2 < size + 3 := fun q hq => by
      rw [hes2] at hq
      rcases List.mem_append.mp hq with hq | hq
      · rcases List.mem_append.mp hq with hq | hq
        · exact ep q hq
        · rw [List.mem_singleton.mp hq]; simp; omega
      · rw [List.mem_singleton.mp hq]; simp; omega
    have no : J (i + 1) [some (.int (kind : Nat)), some (.int (size : Nat)), some (.ref mh.length), none, some (.int (i : Nat)), none, none, none] (mh ++ [.lst (es2.map prD)]) := (hJ _ _ _).mpr ⟨es2, _, rfl, rfl, by omega, fun _ => by omega, ep2⟩
    rw [wp_sif, wp_tand, wp_tb, wp_bi, wp_vr]
    refine ⟨_, rfl, ?_⟩
    rw [wp_kn, o_gt_i, owp_some]
    refine ⟨_, rfl, fun _ => ?_, fun _ => ⟨fun z => (by cases z), fun _ => ?_⟩⟩
    · rw [wp_tb, wp_bi, wp_vr]
      refine ⟨_, rfl, ?_⟩
      rw [wp_kn, o_eq_i, owp_some]
      refine ⟨_, rfl, fun _ => ?_, fun _ => ?_⟩
      · refine app_pair (es := es2) (a := 1 + i) (b := 2 + i) (by omega) rfl (fun h Q E q => ?_) (fun h Q E q => ?_) ?_
        · simp; simpa using q
        · simp; simpa using q
        · show J (i + 1) _ _
          rw [hJ]
          refine ⟨es2 ++ [(1 + i, 2 + i)], _, rfl, rfl, by simp; omega, fun _ => by simp, fun q hq => ?_⟩
          rcases List.mem_append.mp hq with hq | hq
          · exact ep2 q hq
          · rw [List.mem_singleton.mp hq]; simp; omega
      · rw [wp_nop]; exact no
    · rw [wp_nop]; exact no
  intro e h hj
  obtain ⟨es, v4, rfl, rfl, el, el0, ep⟩ := (hJ _ _ _).mp hj
  refine ret_pair (many := size + 3) (ED := .ref mh.length) (fun Q E q => ?_) (fun Q E q => ?_) ?_
  · simp; exact q
  · simp; exact q
  · exact hq _ _ (base_ref (by omega) (by simp) ⟨by omega, by omega, by omega, el0 (by omega), ep, fun h => by omega, fun z => by omega⟩)
theorem k7_ok (hs : size ≤ 27) (hq : ∀ d h, BaseQ mh 7 size d h → O.rt d h) : (bK7 (e0 7 size mh.length) (mh ++ [.lst []])).wp O := by
  have hz : (10000 : Nat) ≤ sizeLine := by decide
  have z2 : (2 : Nat) ≤ sizeLine := by decide
  unfold bK7
  obtain ⟨W, hW⟩ : ∃ W, W = 2 + size / 2 := ⟨_, rfl⟩
  obtain ⟨T, hT⟩ : ∃ T, T = 2 + (size + 1) / 2 := ⟨_, rfl⟩
  refine seq_cut (fun e h => e = [some (.int (7 : Nat)), some (.int (size : Nat)), some (.ref mh.length), none, none, some (.int (W : Nat)), none, none] ∧ h = mh ++ [.lst []]) ?_ ?_
  · simp
    rw [Int.fdiv_eq_ediv_of_nonneg _ (by omega)]
    rw [hW]; omega
  rintro e h ⟨rfl, rfl⟩
  refine seq_cut (fun e h => e = [some (.int (7 : Nat)), some (.int (size : Nat)), some (.ref mh.length), none, none, some (.int (W : Nat)), some (.int (T : Nat)), none] ∧ h = mh ++ [.lst []]) ?_ ?_
  · simp
    rw [Int.fdiv_eq_ediv_of_nonneg _ (by omega)]
    rw [hT]; omega
  rintro e h ⟨rfl, rfl⟩
  have W2 : 2 ≤ W ∧ W ≤ 16 := by omega
  have T2 : 2 ≤ T ∧ T ≤ 16 := by omega
  obtain ⟨N, hN⟩ : ∃ N, N = W * T := ⟨_, rfl⟩
  have N1 : N ≤ 16 * 16 := by rw [hN]; exact Nat.mul_le_mul W2.2 T2.2
  have N2 : 2 * 2 ≤ N := by rw [hN]; exact Nat.mul_le_mul W2.1 T2.1
  have N0 : size = 0 → N = 4 := fun h => by subst h; rw [hN, hW, hT]
  have mWT : ∀ mh Q, owp (oMulX (.int (W : Nat)) (.int (T : Nat)) mh) Q ↔ Q (.int (N : Nat)) mh := fun mh Q => by
    rw [ml2 _ _ _ _ (by omega), hN, Int.natCast_mul]
  refine seq_cut (fun e h => ∃ ol : List Nat, e = [some (.int (7 : Nat)), some (.int (size : Nat)), some (.ref mh.length), some (.rol (ol.map nD)), none, some (.int (W : Nat)), some (.int (T : Nat)), none] ∧ h = mh ++ [.lst []] ∧ ol.length = N ∧ ∀ x ∈ ol, x < N) ?_ ?_
  · rw [wp_sst]
    refine order_wp (m := N) (by omega) (by omega) (fun h Q E q => ?_) fun ol h1 h2 => ⟨ol, rfl, rfl, h1, h2⟩
    simp
    rw [mWT]; exact q
  rintro e h ⟨ol, rfl, rfl, h1, h2⟩
  obtain ⟨J, hJ⟩ : ∃ J : Nat → Nv → MH → Prop, ∀ i e h, J i e h ↔ ∃ (es : List (Nat × Nat)) (v4 : Option D), e = [some (.int (7 : Nat)), some (.int (size : Nat)), some (.ref mh.length), some (.rol (ol.map nD)), v4, some (.int (W : Nat)), some (.int (T : Nat)), none] ∧ h = mh ++ [.lst (es.map prD)] ∧ es.length ≤ 2 * i ∧ (2 ≤ i → 1 ≤ es.length) ∧ ∀ q ∈ es, q.1 < N ∧ q.2 < N := ⟨_, fun _ _ _ => Iff.rfl⟩
  refine seq_cut (J N) ?_ ?_
  · rw [wp_sfor, wp_range1, wp_bi, wp_vr]
    refine ⟨_, rfl, ?_⟩
    rw [wp_vr]
    refine ⟨_, rfl, ?_⟩
    rw [mWT]
    refine ⟨_, rfl, okB_of (by omega) (by omega), ?_⟩
    rw [show ((N : Int)).toNat = N by omega]
    refine loop_n J ((hJ _ _ _).mpr ⟨[], none, rfl, rfl, by simp, fun z => by omega, by simp⟩) ?_ (fun e h q => ⟨rfl, q⟩)
    intro i e h hi hj
    obtain ⟨es, v4, rfl, rfl, el, el0, ep⟩ := (hJ _ _ _).mp hj
    refine ⟨rfl, _, rfl, ?_⟩
    have hi : i < N := hi
    have ai := at_n (l := ol) (i := i) (by omega)
    have aj : ∀ j : Nat, 0 < j → j ≤ i → L2.atI (ol.map nD) ((i : Int) - (j : Int)) = some (nD (ol.getD (i - j) 0)) := fun j hj hji => by
      rw [show (i : Int) - (j : Int) = ((i - j : Nat) : Int) by omega, at_n (by omega), List.getD_eq_getElem?_getD, List.getElem?_eq_getElem (by omega)]; rfl
    have gl : ∀ j, j < N → ol.getD j 0 < N := fun j hj => by
      rw [List.getD_eq_getElem?_getD, List.getElem?_eq_getElem (by omega)]; exact h2 _ (List.getElem_mem _)
    refine seq_cut (fun e h => ∃ es : List (Nat × Nat), e = [some (.int (7 : Nat)), some (.int (size : Nat)), some (.ref mh.length), some (.rol (ol.map nD)), some (.int (i : Nat)), some (.int (W : Nat)), some (.int (T : Nat)), none] ∧ h = mh ++ [.lst (es.map prD)] ∧ es.length ≤ 2 * i + 1 ∧ (1 ≤ i → 1 ≤ es.length) ∧ ∀ q ∈ es, q.1 < N ∧ q.2 < N) ?_ ?_
    · rw [wp_sif, wp_tb, wp_bi, wp_bi, wp_ap, wp_acons, wp_vr]
      refine ⟨_, rfl, ?_⟩
      rw [wp_anil, o_int, owp_some, wp_vr]
      refine ⟨_, rfl, ?_⟩
      rw [o_mod]
      refine ⟨by omega, ?_⟩
      rw [wp_kn, o_gt_i, owp_some]
      refine ⟨_, rfl, fun hpos => ?_, fun hneg => ?_⟩
      · have hi0 : 0 < i := by
          rcases Nat.eq_zero_or_pos i with h | h
          · subst h
            simp at hpos
          · exact h
        refine app_pair (es := es) (a := ol.getD (i - 1) 0) (b := ol[i]) (by omega) rfl (fun h Q E q => ?_) (fun h Q E q => ?_) ?_
        · have := aj 1 (by omega) (by omega)
          rw [show ((1 : Nat) : Int) = 1 from rfl] at this
          simp [this]; exact q
        · simp [ai]; exact q
        · refine ⟨_, rfl, rfl, by simp; omega, fun _ => by simp, fun q hq => ?_⟩
          rcases List.mem_append.mp hq with hq | hq
          · exact ep q hq
          · rw [List.mem_singleton.mp hq]; exact ⟨gl _ (by omega), h2 _ (List.getElem_mem _)⟩
      · rw [wp_nop]
        refine ⟨es, rfl, rfl, by omega, fun h1 => ?_, ep⟩
        by_cases h2 : 2 ≤ i
        · exact el0 h2
        · have h3 : i = 1 := by omega
          subst h3
          have : ((1 : Nat) : Int).fmod (W : Int) = 1 := by
            rw [Int.fmod_eq_emod_of_nonneg _ (by omega)]
            exact Int.emod_eq_of_lt (by omega) (by omega)
          rw [this] at hneg
          simp at hneg
    rintro e h ⟨es, rfl, rfl, el, el1, ep⟩
    rw [wp_sif, wp_tb, wp_bi, wp_vr]
    refine ⟨_, rfl, ?_⟩
    rw [wp_vr]
    refine ⟨_, rfl, ?_⟩
    rw [o_ge_i, owp_some]
    refine ⟨_, rfl, fun hge => ?_, fun _ => ?_⟩
    · have hge : W ≤ i := by simpa using hge
      refine app_pair (es := es) (a := ol.getD (i - W) 0) (b := ol[i]) (by omega) rfl (fun h Q E q => ?_) (fun h Q E q => ?_) ?_
      · have := aj W (by omega) hge
        simp [this]; exact q
      · simp [ai]; exact q
      · show J (i + 1) _ _
        rw [hJ]
        refine ⟨_, _, rfl, rfl, by simp; omega, fun _ => by simp, fun q hq => ?_⟩
        rcases List.mem_append.mp hq with hq | hq
        · exact ep q hq
        · rw [List.mem_singleton.mp hq]; exact ⟨gl _ (by omega), h2 _ (List.getElem_mem _)⟩
    · rw [wp_nop]
      show J (i + 1) _ _
      rw [hJ]
      exact ⟨es, _, rfl, rfl, by omega, fun _ => el1 (by omega), ep⟩
  intro e h hj
  obtain ⟨es, v4, rfl, rfl, el, el0, ep⟩ := (hJ _ _ _).mp hj
  refine ret_pair (many := N) (ED := .ref mh.length) (fun Q E q => ?_) (fun Q E q => ?_) ?_
  · simp; rw [mWT]; exact q
  · simp; exact q
  · exact hq _ _ (base_ref (by omega) (by simp) ⟨by omega, by omega, by omega, el0 (by omega), ep, fun h => by have := N0 h; omega, fun z => by cases z⟩)
end
end K09
namespace K09
open PySem Det
theorem base_ok {kind size : Nat} {mh : MH} {Q : D → MH → Prop} {E : Exn → MH → Prop} (hk : kind ≤ 9) (hs : size ≤ 27) (hq : ∀ d h, BaseQ mh kind size d h → Q d h) : (m__law_base [.int (kind : Nat), .int (size : Nat)] mh).wp Q E := by
  rw [base_eq, wp_runF]
  refine seq_cut (fun e h => e = e0 kind size mh.length ∧ h = mh ++ [.lst []]) (by simp [e0]) ?_
  rintro e h ⟨rfl, rfl⟩
  have test : ∀ (c : Int) (s t : MS) (O : Po), (∀ c' : Nat, (c' : Int) = c → kind = c' → (s (e0 kind size mh.length) (mh ++ [.lst []])).wp O) → ((kind : Int) ≠ c → (t (e0 kind size mh.length) (mh ++ [.lst []])).wp O) → (sq (sif (tb (bi oEq (vr 0) (kn (.int c)))) s (nop)) t (e0 kind size mh.length) (mh ++ [.lst []])).wp { O with nx := O.nx } ∨ True := fun _ _ _ _ _ _ => .inr trivial
  have go : ∀ (c : Nat) (s t : MS) (O : Po), (kind = c → (s (e0 kind size mh.length) (mh ++ [.lst []])).wp { O with nx := fun e h => (t e h).wp O }) → (kind ≠ c → (t (e0 kind size mh.length) (mh ++ [.lst []])).wp O) → (sq (sif (tb (bi oEq (vr 0) (kn (.int (c : Nat))))) s (nop)) t (e0 kind size mh.length) (mh ++ [.lst []])).wp O := fun c s t O h1 h2 => by
    rw [wp_sq, wp_sif, wp_tb, wp_bi, wp_vr]
    refine ⟨_, rfl, ?_⟩
    rw [wp_kn, o_eq_i, owp_some]
    refine ⟨_, rfl, fun z => h1 ?_, fun z => ?_⟩
    · have : (kind : Int) = c := by simpa using z
      omega
    · rw [wp_nop]
      exact h2 fun e => by subst e; simp at z
  refine go 0 _ _ _ (fun e => by subst e; exact k0_ok hs hq) fun n0 => ?_
  rw [wp_sq, wp_sif, wp_tor, wp_tb, wp_bi, wp_vr]
  refine ⟨_, rfl, ?_⟩
  rw [wp_kn, o_eq_i, owp_some]
  refine ⟨_, rfl, fun z => ⟨fun _ => ?_, fun z => (by cases z)⟩, fun z1 => ?_⟩
  · have : (kind : Int) = 1 := by simpa using z
    exact k1_ok (.inl (by omega)) hs hq
  rw [wp_tb, wp_bi, wp_vr]
  refine ⟨_, rfl, ?_⟩
  rw [wp_kn, o_eq_i, owp_some]
  refine ⟨_, rfl, fun z => ?_, fun z2 => ?_⟩
  · have : (kind : Int) = 2 := by simpa using z
    exact k1_ok (.inr (by omega)) hs hq
  have n1 : (kind : Int) ≠ 1 := by simpa using z1
  have n2 : (kind : Int) ≠ 2 := by simpa using z2
  rw [wp_nop]
  refine go 3 _ _ _ (fun e => by subst e; exact k3_ok hs hq) fun n3 => ?_
  refine go 4 _ _ _ (fun e => by subst e; exact k4_ok hs hq) fun n4 => ?_
  refine go 5 _ _ _ (fun e => by subst e; exact k5_ok hq) fun n5 => ?_
  refine go 6 _ _ _ (fun e => by subst e; exact k6_ok hs hq) fun n6 => ?_
  refine go 7 _ _ _ (fun e => by subst e; exact k7_ok hs hq) fun n7 => ?_
  exact k8_ok (by omega) hs hq
end K09
namespace K09
open PySem Det
/-- the ends of a shape: a value, or a list that stands in loc -/
def EdAt (loc : MH) (ED : D) (es : List (Nat × Nat)) : Prop := ED = .rol (es.map prD) ∨ ∃ j, ED = .ref (j + 1) ∧ loc[j]? = some (.lst (es.map prD))
def MdAt (loc : MH) (M : D) (many : Nat) (es : List (Nat × Nat)) : Prop := ∃ ED, EdAt loc ED es ∧ (M = .rol [.int (many : Nat), ED] ∨ ∃ j, M = .ref (j + 1) ∧ loc[j]? = some (.lst [.int (many : Nat), ED]))
theorem EdAt.mono {loc : MH} {ED : D} {es : List (Nat × Nat)} (h : EdAt loc ED es) (g : MH) : EdAt (loc ++ g) ED es := by
  rcases h with h | ⟨j, h1, h2⟩
  · exact .inl h
  · exact .inr ⟨j, h1, by rw [List.getElem?_append_left (List.getElem?_eq_some_iff.mp h2).1]; exact h2⟩
theorem MdAt.mono {loc : MH} {M : D} {many : Nat} {es : List (Nat × Nat)} (h : MdAt loc M many es) (g : MH) : MdAt (loc ++ g) M many es := by
  obtain ⟨ED, h1, h2⟩ := h
  refine ⟨ED, h1.mono g, ?_⟩
  rcases h2 with h2 | ⟨j, h2, h3⟩
  · exact .inl h2
  · exact .inr ⟨j, h2, by rw [List.getElem?_append_left (List.getElem?_eq_some_iff.mp h3).1]; exact h3⟩
/-- what is read of a list value in a heap that goes on from H -/
structure Rd (H : MH) (X : D) (xs : List D) : Prop where
  l : ∀ x, lstD (H ++ x) X = some xs
  i : ∀ x, itemsD (H ++ x) X = some xs
  n : ∀ x, oLen [X] (H ++ x) = some (.int (xs.length : Nat), H ++ x)
  u : (∃ zs, X = .rol zs) ∨ ∃ k, X = .ref k
  b : X.blw H.length = true
theorem rd_rol {H : MH} {xs : List D} (hb : D.blws H.length xs = true) : Rd H (.rol xs) xs := ⟨fun _ => rfl, fun _ => rfl, fun _ => rfl, .inl ⟨_, rfl⟩, by simpa using hb⟩
theorem rd_ref {H : MH} {xs : List D} {j : Nat} (hj : H[j]? = some (.lst xs)) : Rd H (.ref j) xs := by
  have hl := (List.getElem?_eq_some_iff.mp hj).1
  have hx : ∀ x, (H ++ x)[j]? = some (.lst xs) := fun x => by rw [List.getElem?_append_left hl]; exact hj
  exact ⟨fun x => by simp [lstD, hx], fun x => by simp [itemsD, hx], fun x => by simp [oLen, lenD, hx], .inr ⟨_, rfl⟩, by simpa using hl⟩
theorem EdAt.rd {loc : MH} {ED : D} {es : List (Nat × Nat)} (h : EdAt loc ED es) (o : Ob) : Rd (o :: loc) ED (es.map prD) := by
  rcases h with rfl | ⟨j, rfl, h2⟩
  · exact rd_rol blws_pr
  · exact rd_ref (by simpa using h2)
theorem MdAt.rd {loc : MH} {M : D} {many : Nat} {es : List (Nat × Nat)} (h : MdAt loc M many es) (o : Ob) : ∃ ED, EdAt loc ED es ∧ Rd (o :: loc) ED (es.map prD) ∧ Rd (o :: loc) M [.int (many : Nat), ED] := by
  obtain ⟨ED, h1, h2⟩ := h
  refine ⟨ED, h1, h1.rd o, ?_⟩
  rcases h2 with rfl | ⟨j, rfl, h3⟩
  · exact rd_rol (by have := (h1.rd o).b; simpa using this)
  · exact rd_ref (by simpa using h3)
theorem Rd.ix {H : MH} {X d : D} {xs : List D} (r : Rd H X xs) (x : MH) {k : Int} (h : L2.atI xs k = some d) : oIx X (.int k) (H ++ x) = some (d, H ++ x) := o_ix (r.i x) h
theorem Rd.sl {H : MH} {X : D} {xs : List D} (r : Rd H X xs) (x : MH) (lo hi : Option Int) : oSl X lo hi (H ++ x) = some (.ref (H ++ x).length, H ++ x ++ [.lst (cutD xs lo hi)]) := by
  have := r.i x
  rcases r.u with ⟨zs, rfl⟩ | ⟨k, rfl⟩
  · simp only [oSl, this]
  · simp only [oSl, this]
theorem cut_pr {l : List (Nat × Nat)} {a : Nat} (h : a < l.length) : cutD (l.map prD) none (some (a : Nat)) = (l.take a).map prD ∧ cutD (l.map prD) (some ((a : Int) + 1)) none = (l.drop (a + 1)).map prD := by
  constructor
  · unfold cutD
    rw [HT.sIx_nat]
    have : HT.sIx (l.map prD).length 0 none = 0 := rfl
    rw [this, show min a (l.map prD).length = a by simp; omega, Nat.sub_zero, List.drop_zero, ← List.map_take]
  · unfold cutD
    rw [show (a : Int) + 1 = ((a + 1 : Nat) : Int) by omega, HT.sIx_nat]
    have : HT.sIx (l.map prD).length (l.map prD).length none = (l.map prD).length := rfl
    rw [this, show min (a + 1) (l.map prD).length = a + 1 by simp; omega, ← List.map_drop, List.take_of_length_le (by simp)]
section
variable {H : MH} {env : Nv} {Q : D → MH → Prop} {E : Exn → MH → Prop} {ED : D} {es new : List (Nat × Nat)}
theorem addA {fa : MA} (r : Rd H ED (es.map prD)) (h9 : env[9]? = some (some ED)) (hfa : ∀ (Q : List D → MH → Prop) (E : Exn → MH → Prop), Q (new.map prD) H → (fa env H).wp Q E) (hl : es.length + new.length ≤ 1000) (hq : Q (.rol ((es ++ new).map prD)) H) : (fz (bi oAddX (vr 9) (dlst fa)) env H).wp Q E := by
  have hz : (10000 : Nat) ≤ sizeLine := by decide
  rw [wp_fz, wp_bi, wp_vr]
  refine ⟨_, h9, ?_⟩
  rw [wp_dlst]
  refine hfa _ _ ⟨by simp; omega, ?_⟩
  rw [addX_l (r.l _) (ys := new.map prD) (by simp [lstD]) r.u (by simp; omega), owp_some, fq_next, ← List.map_append]
  exact ⟨blws_pr, hq⟩
theorem addB {fa : MA} {a : Nat} (r : Rd H ED (es.map prD)) (h9 : env[9]? = some (some ED)) (h12 : env[12]? = some (some (.int (a : Nat)))) (ha : a < es.length) (hfa : ∀ (x : MH) (Q : List D → MH → Prop) (E : Exn → MH → Prop), Q (new.map prD) (H ++ x) → (fa env (H ++ x)).wp Q E) (hl : es.length + new.length ≤ 1000) (hq : Q (.rol ((es.take a ++ new ++ es.drop (a + 1)).map prD)) H) :
    (fz (bi oAddX (fz (bi oAddX (sl (vr 9) (onone) (osome (vr 12))) (dlst fa))) (sl (vr 9) (osome (bi oAdd (vr 12) (kn (.int 1)))) (onone))) env H).wp Q E := by
  have hz : (10000 : Nat) ≤ sizeLine := by decide
  obtain ⟨c1, c2⟩ := cut_pr ha
  have r0 := r.sl [] none (some (a : Nat))
  have r1 := fun x => r.sl x (some ((a : Int) + 1)) none
  rw [List.append_nil] at r0
  rw [wp_fz, wp_bi, wp_fz, wp_bi, wp_sl, wp_vr]
  refine ⟨_, h9, ?_⟩
  rw [wp_onone, wp_osome, wp_vr]
  refine ⟨_, h12, _, rfl, ?_⟩
  rw [r0, owp_some, c1, wp_dlst]
  refine hfa _ _ _ ⟨by simp; omega, ?_⟩
  rw [addX_l (xs := (es.take a).map prD) (ys := new.map prD) (by simp [lstD]) (by simp [lstD]) (.inr ⟨_, rfl⟩) (by simp; omega), owp_some]
  have e1 : H ++ [Ob.lst ((es.take a).map prD)] ++ [Ob.lst (new.map prD)] = H ++ [Ob.lst ((es.take a).map prD), Ob.lst (new.map prD)] := by simp
  rw [e1, fq_new (xs := (es.take a).map prD ++ new.map prD) (by simp) (by simp)]
  refine ⟨by rw [← List.map_append]; exact blws_pr, by rw [List.append_assoc]; exact Kept.add, ?_⟩
  have ht : List.take H.length (H ++ [Ob.lst ((es.take a).map prD), Ob.lst (new.map prD)] ++ [Ob.lst ((es.take a).map prD ++ new.map prD)]) = H := by
    rw [List.append_assoc, List.take_left']; rfl
  rw [ht, wp_sl, wp_vr]
  refine ⟨_, h9, ?_⟩
  rw [wp_osome, wp_bi, wp_vr]
  refine ⟨_, h12, ?_⟩
  rw [wp_kn, o_add_i, owp_some]
  refine ⟨_, rfl, ?_⟩
  have r1' := r1 []
  rw [List.append_nil] at r1'
  rw [wp_onone, r1', owp_some, c2, addX_l (xs := (es.take a).map prD ++ new.map prD) (ys := (es.drop (a + 1)).map prD) rfl (by simp [lstD]) (.inl ⟨_, rfl⟩) (by simp; omega), owp_some, fq_next, ← List.map_append, ← List.map_append]
  exact ⟨blws_pr, hq⟩
theorem addC {a : Nat} (r : Rd H ED (es.map prD)) (h9 : env[9]? = some (some ED)) (h12 : env[12]? = some (some (.int (a : Nat)))) (h13 : env[13]? = some (some (.rol (new.map prD)))) (ha : a < es.length) (hl : es.length + new.length ≤ 1000) (hq : Q (.rol ((es.take a ++ new ++ es.drop (a + 1)).map prD)) H) :
    (fz (bi oAddX (fz (bi oAddX (sl (vr 9) (onone) (osome (vr 12))) (vr 13))) (sl (vr 9) (osome (bi oAdd (vr 12) (kn (.int 1)))) (onone))) env H).wp Q E := by
  have hz : (10000 : Nat) ≤ sizeLine := by decide
  obtain ⟨c1, c2⟩ := cut_pr ha
  have r0 := r.sl [] none (some (a : Nat))
  have r1 := fun x => r.sl x (some ((a : Int) + 1)) none
  rw [List.append_nil] at r0
  rw [wp_fz, wp_bi, wp_fz, wp_bi, wp_sl, wp_vr]
  refine ⟨_, h9, ?_⟩
  rw [wp_onone, wp_osome, wp_vr]
  refine ⟨_, h12, _, rfl, ?_⟩
  rw [r0, owp_some, c1, wp_vr]
  refine ⟨_, h13, ?_⟩
  rw [addX_l (xs := (es.take a).map prD) (ys := new.map prD) (by simp [lstD]) rfl (.inr ⟨_, rfl⟩) (by simp; omega), owp_some, fq_next]
  refine ⟨by rw [← List.map_append]; exact blws_pr, ?_⟩
  rw [wp_sl, wp_vr]
  refine ⟨_, h9, ?_⟩
  rw [wp_osome, wp_bi, wp_vr]
  refine ⟨_, h12, ?_⟩
  rw [wp_kn, o_add_i, owp_some]
  refine ⟨_, rfl, ?_⟩
  have r1' := r1 []
  rw [List.append_nil] at r1'
  rw [wp_onone, r1', owp_some, c2, addX_l (xs := (es.take a).map prD ++ new.map prD) (ys := (es.drop (a + 1)).map prD) rfl (by simp [lstD]) (.inl ⟨_, rfl⟩) (by simp; omega), owp_some, fq_next, ← List.map_append, ← List.map_append]
  exact ⟨blws_pr, hq⟩
/-- made = [n, list] -/
theorem made_wp {f g : ME} {n : Nat} {G : D} (hf : ∀ (Q : D → MH → Prop) (E : Exn → MH → Prop), Q (.int (n : Nat)) H → (f env H).wp Q E) (hg : ∀ (Q : D → MH → Prop) (E : Exn → MH → Prop), Q G H → (g env H).wp Q E) (hb : G.blw H.length = true) (hq : Q (.rol [.int (n : Nat), G]) H) : (fz (dlst (acons f (acons g anil))) env H).wp Q E := by
  have z2 : (2 : Nat) ≤ sizeLine := by decide
  rw [wp_fz, wp_dlst, wp_acons]
  refine hf _ _ ?_
  rw [wp_acons]
  refine hg _ _ ?_
  rw [wp_anil]
  refine ⟨z2, ?_⟩
  rw [fq_push]
  exact ⟨by simp [hb], hq⟩
end
theorem eqF_ii (a b : Int) : eqF (.int a) (.int b) = decide (b = a) := by
  show decide (a = b) = _
  by_cases h : a = b
  · subst h; simp
  · rw [decide_eq_false h, decide_eq_false fun e => h e.symm]
theorem hasF_ints (a : Int) : ∀ l : List Int, hasF (.int a) (l.map .int) = decide (a ∈ l)
  | [] => by simp [hasF]
  | b :: l => by
    have ih := hasF_ints a l
    unfold hasF at ih ⊢
    rw [List.map_cons, List.any_cons, ih, eqF_ii]
    by_cases h1 : a = b <;> by_cases h2 : a ∈ l <;> simp [h1, h2]
theorem o_in_i {a : Int} {l : List Int} {h : MH} : oIn (.int a) (.tup (l.map .int)) h = some (.bl (decide (a ∈ l)), h) := by
  have hf : flatD (.int a) = true ∧ (l.map D.int).all flatD = true := ⟨rfl, by rw [List.all_map]; exact List.all_eq_true.mpr fun _ _ => rfl⟩
  simp only [oIn, inD, itemsD, if_pos hf, hasF_ints]
  rfl
end K09
namespace K09
open PySem Det
/-- a shape's numbers fit -/
def Fits (many : Nat) (es : List (Nat × Nat)) (most wires : Nat) : Prop := 2 ≤ many ∧ many ≤ most ∧ es.length ≤ wires ∧ 1 ≤ es.length ∧ ∀ q ∈ es, q.1 < many ∧ q.2 < many
theorem MdAt.of_base {loc : MH} {p : Pq} {kind size : Nat} {d : D} {h : MH} (q : BaseQ (p.ob :: loc) kind size d h) : ∃ (g : MH) (many : Nat) (es : List (Nat × Nat)), h = p.ob :: (loc ++ g) ∧ MdAt (loc ++ g) d many es ∧ 2 ≤ many ∧ many ≤ 1000 ∧ es.length ≤ 4000 ∧ 1 ≤ es.length ∧ (∀ q ∈ es, q.1 < many ∧ q.2 < many) ∧ (size = 0 → many ≤ 6 ∧ es.length ≤ 9) ∧ (kind = 0 → many = size + 2 ∧ es.length ≤ size + 1) := by
  obtain ⟨g, k, ED, many, es, rfl, rfl, hk, hkk, hed, rest⟩ := q
  refine ⟨g, many, es, rfl, ⟨ED, ?_, .inr ⟨k - 1, ?_, ?_⟩⟩, rest⟩
  · rcases hed with h | ⟨j, hj, rfl, h⟩
    · exact .inl h
    · obtain ⟨i, rfl⟩ : ∃ i, j = i + 1 := ⟨j - 1, by simp at hj; omega⟩
      exact .inr ⟨i, rfl, by simpa using h⟩
  · congr 1; simp at hk; omega
  · obtain ⟨i, rfl⟩ : ∃ i, k = i + 1 := ⟨k - 1, by simp at hk; omega⟩
    simpa using hkk
theorem md_rd {loc : MH} {M ED : D} {many : Nat} {es : List (Nat × Nat)} (h1 : EdAt loc ED es) (h2 : M = .rol [.int (many : Nat), ED] ∨ ∃ j, M = .ref (j + 1) ∧ loc[j]? = some (.lst [.int (many : Nat), ED])) (o : Ob) : Rd (o :: loc) M [.int (many : Nat), ED] := by
  rcases h2 with rfl | ⟨j, rfl, h3⟩
  · exact rd_rol (by have := (h1.rd o).b; simpa using this)
  · exact rd_ref (by simpa using h3)
theorem grown_ok {p : Pq} {loc : MH} {kind size turns most wires : Nat} {Q : D → MH → Prop} {E : Exn → MH → Prop} (hk : kind ≤ 9) (hs : size ≤ 27) (ht : turns ≤ 100) (hm : 6 ≤ most) (hm2 : most ≤ 40) (hw : 9 ≤ wires) (hw2 : wires ≤ 60)
    (hq : ∀ (M : D) (p' : Pq) (g : MH) (many : Nat) (es : List (Nat × Nat)), MdAt (loc ++ g) M many es → Fits many es most wires → Q M (Pq.ob p' :: (loc ++ g))) : (m__law_grown [.ref 0, .int (kind : Nat), .int (size : Nat), .int (turns : Nat), .int (most : Nat), .int (wires : Nat)] (p.ob :: loc)).wp Q E := by
  have hz : (10000 : Nat) ≤ sizeLine := by decide
  have z2 : (2 : Nat) ≤ sizeLine := by decide
  have z3 : (3 : Nat) ≤ sizeLine := by decide
  have z4 : (4 : Nat) ≤ sizeLine := by decide
  unfold m__law_grown
  rw [wp_runF]
  show (sq _ _ [some (.ref 0), some (.int (kind : Nat)), some (.int (size : Nat)), some (.int (turns : Nat)), some (.int (most : Nat)), some (.int (wires : Nat)), none, none, none, none, none, none, none, none] (p.ob :: loc)).wp _
  obtain ⟨I, hI⟩ : ∃ I : Nat → Nv → MH → Prop, ∀ i e h, I i e h ↔ ∃ (g : MH) (M : D) (many : Nat) (es : List (Nat × Nat)) (v7 : Option D), h = p.ob :: (loc ++ g) ∧ e = [some (.ref 0), some (.int (kind : Nat)), some (.int (size : Nat)), some (.int (turns : Nat)), some (.int (most : Nat)), some (.int (wires : Nat)), some M, v7, none, none, none, none, none, none] ∧ MdAt (loc ++ g) M many es ∧ 2 ≤ many ∧ many ≤ 1000 ∧ es.length ≤ 4000 ∧ 1 ≤ es.length ∧ (∀ q ∈ es, q.1 < many ∧ q.2 < many) ∧ (i = size → many ≤ 6 ∧ es.length ≤ 9) := ⟨_, fun _ _ _ => Iff.rfl⟩
  refine seq_cut (I 0) ?_ ?_
  · simp
    refine base_ok hk hs fun d h q => ?_
    obtain ⟨g, many, es, rfl, h1, h2, h3, h4, hl, h5, h6, _⟩ := MdAt.of_base q
    rw [hI]
    exact ⟨g, d, many, es, none, rfl, rfl, h1, h2, h3, h4, hl, h5, fun e => h6 e.symm⟩
  intro e h hi0
  obtain ⟨J, hJ⟩ : ∃ J : Nv → MH → Prop, ∀ e h, J e h ↔ ∃ (p' : Pq) (g : MH) (M : D) (many : Nat) (es : List (Nat × Nat)) (v7 v8 v9 v10 v11 v12 v13 : Option D), h = p'.ob :: (loc ++ g) ∧ e = [some (.ref 0), some (.int (kind : Nat)), some (.int (size : Nat)), some (.int (turns : Nat)), some (.int (most : Nat)), some (.int (wires : Nat)), some M, v7, v8, v9, v10, v11, v12, v13] ∧ MdAt (loc ++ g) M many es ∧ Fits many es most wires := ⟨_, fun _ _ => Iff.rfl⟩
  refine seq_cut J ?_ ?_
  · obtain ⟨g, M, many, es, v7, rfl, rfl, h1, h2, h3, h4, hl, h5, h6⟩ := (hI _ _ _).mp hi0
    rw [wp_sfor, wp_range1, wp_vr]
    refine ⟨_, rfl, _, rfl, okB_of (by omega) (by omega), ?_⟩
    rw [show ((size : Int)).toNat = size by omega]
    refine loop_n I hi0 ?_ ?_
    · clear hi0 h1 h2 h3 h4 hl h5 h6 v7 es many M g
      intro i e h hi q
      obtain ⟨g, M, many, es, v7, rfl, rfl, h1, h2, h3, h4, hl, h5, h6⟩ := (hI _ _ _).mp q
      refine ⟨rfl, _, rfl, ?_⟩
      obtain ⟨ED, hed, red, rm⟩ := h1.rd p.ob
      have x0 := rm.ix [] (k := 0) (d := .int (many : Nat)) (by simp)
      have x1 := rm.ix [] (k := 1) (d := ED) (by simp)
      have nn := red.n []
      simp only [List.append_nil] at x0 x1 nn
      rw [List.length_map] at nn
      have out : many ≤ most ∧ es.length ≤ wires → J [some (.ref 0), some (.int (kind : Nat)), some (.int (size : Nat)), some (.int (turns : Nat)), some (.int (most : Nat)), some (.int (wires : Nat)), some M, some (.int (i : Nat)), none, none, none, none, none, none] (p.ob :: (loc ++ g)) := fun c => (hJ _ _).mpr ⟨p, g, M, many, es, _, _, _, _, _, _, _, rfl, rfl, h1, h2, c.1, c.2, hl, h5⟩
      by_cases c : many ≤ most ∧ es.length ≤ wires
      · have := out c
        simp [x0, x1, nn, c.1, c.2]
        exact this
      · clear out
        refine seq_cut (fun e h => e = [some (.ref 0), some (.int (kind : Nat)), some (.int (size : Nat)), some (.int (turns : Nat)), some (.int (most : Nat)), some (.int (wires : Nat)), some M, some (.int (i : Nat)), none, none, none, none, none, none] ∧ p.ob :: (loc ++ g) = h) ?_ ?_
        · by_cases c1 : many ≤ most
          · have c2 : ¬ es.length ≤ wires := fun z => c ⟨c1, z⟩
            simp [x0, x1, nn, c1, c2]
          · simp [x0, c1]
        rintro e h ⟨rfl, rfl⟩
        rw [wp_sst, wp_cal, wp_acons, wp_vr]
        refine ⟨_, rfl, ?_⟩
        rw [wp_acons, wp_bi, wp_bi, wp_vr]
        refine ⟨_, rfl, ?_⟩
        rw [wp_kn, o_sub_i, owp_some, wp_vr]
        refine ⟨_, rfl, ?_⟩
        rw [o_sub_i, owp_some, wp_anil, show (size : Int) - 1 - (i : Int) = ((size - 1 - i : Nat) : Int) by omega]
        refine ⟨rfl, base_ok hk (by omega) fun d h q => ?_⟩
        obtain ⟨g', many', es', rfl, k1, k2, k3, k4, kl, k5, k6, _⟩ := MdAt.of_base q
        show I (i + 1) _ _
        rw [hI]
        exact ⟨g ++ g', d, many', es', some (.int (i : Nat)), by simp, rfl, by rw [← List.append_assoc]; exact k1, k2, k3, k4, kl, k5, fun e => k6 (by omega)⟩
    · intro e h q
      obtain ⟨g, M, many, es, v7, rfl, rfl, h1, h2, h3, h4, hl, h5, h6⟩ := (hI _ _ _).mp q
      refine ⟨rfl, (hJ _ _).mpr ⟨p, g, M, many, es, _, _, _, _, _, _, _, rfl, rfl, h1, h2, by have := h6 rfl; omega, by have := h6 rfl; omega, hl, h5⟩⟩
  intro e h hj
  refine seq_cut J ?_ ?_
  · obtain ⟨p1, g, M, many, es, v7, v8, v9, v10, v11, v12, v13, rfl, rfl, h1, h2⟩ := (hJ _ _).mp hj
    rw [wp_sfor, wp_range1, wp_vr]
    refine ⟨_, rfl, _, rfl, okB_of (by omega) (by omega), ?_⟩
    refine loop_n (fun _ => J) hj ?_ (fun e h q => ⟨rfl, q⟩)
    clear hj hi0 hI I h1 h2 v7 v8 v9 v10 v11 v12 v13 es many M g p1
    intro i e h hi hj
    obtain ⟨p1, g, M, many, es, v7, v8, v9, v10, v11, v12, v13, rfl, rfl, h1, h2, h3, h4, hl, h5⟩ := (hJ _ _).mp hj
    clear hj
    refine ⟨rfl, _, rfl, ?_⟩
    obtain ⟨ED, hed, hM⟩ := h1
    have x0 : ∀ p' : Pq, oIx M (.int 0) (p'.ob :: (loc ++ g)) = some (.int (many : Nat), p'.ob :: (loc ++ g)) := fun p' => by
      have := (md_rd hed hM p'.ob).ix [] (k := 0) (d := .int (many : Nat)) (by simp)
      simpa using this
    have x1 : ∀ p' : Pq, oIx M (.int 1) (p'.ob :: (loc ++ g)) = some (ED, p'.ob :: (loc ++ g)) := fun p' => by
      have := (md_rd hed hM p'.ob).ix [] (k := 1) (d := ED) (by simp)
      simpa using this
    have nn : ∀ p' : Pq, oLen [ED] (p'.ob :: (loc ++ g)) = some (.int (es.length : Nat), p'.ob :: (loc ++ g)) := fun p' => by
      have := (hed.rd p'.ob).n []
      simpa using this
    obtain ⟨B, hB⟩ : ∃ B : Nv, B = [some (.ref 0), some (.int (kind : Nat)), some (.int (size : Nat)), some (.int (turns : Nat)), some (.int (most : Nat)), some (.int (wires : Nat)), some M, some (.int (i : Nat))] := ⟨_, rfl⟩
    refine seq_cutJ (fun e h => ∃ (p' : Pq) (w : Nat), e = B ++ [some (.int (w : Nat)), v9, v10, v11, v12, v13] ∧ h = p'.ob :: (loc ++ g) ∧ w < 9) (fun J' hJ' => ?_) ?_
    · simp
      refine pick_ok (by omega) (by omega) fun r p2 r0 r1 => ?_
      obtain ⟨w, rfl⟩ := Int.eq_ofNat_of_zero_le r0
      exact hJ' _ _ ⟨p2, w, by rw [hB]; rfl, rfl, by omega⟩
    rintro e h ⟨p2, w, rfl, rfl, hw9⟩
    refine seq_cutJ (fun e h => e = B ++ [some (.int (w : Nat)), some ED, v10, v11, v12, v13] ∧ h = p2.ob :: (loc ++ g)) (fun J' hJ' => ?_) ?_
    · subst hB
      simp [x1]
      exact hJ' _ _ ⟨rfl, rfl⟩
    rintro e h ⟨rfl, rfl⟩
    refine seq_cutJ (fun e h => ∃ (p' : Pq) (a : Nat), e = B ++ [some (.int (w : Nat)), some ED, some (.int (a : Nat)), v11, v12, v13] ∧ h = p'.ob :: (loc ++ g) ∧ a < many) (fun J' hJ' => ?_) ?_
    · subst hB
      simp [x0]
      refine pick_ok (by omega) (by omega) fun r p3 r0 r1 => ?_
      obtain ⟨a, rfl⟩ := Int.eq_ofNat_of_zero_le r0
      exact hJ' _ _ ⟨p3, a, rfl, rfl, by omega⟩
    rintro e h ⟨p3, a, rfl, rfl, ha⟩
    refine seq_cutJ (fun e h => ∃ (p' : Pq) (b : Nat), e = B ++ [some (.int (w : Nat)), some ED, some (.int (a : Nat)), some (.int (b : Nat)), v12, v13] ∧ h = p'.ob :: (loc ++ g) ∧ b < many) (fun J' hJ' => ?_) ?_
    · subst hB
      simp [x0]
      refine pick_ok (by omega) (by omega) fun r p3 r0 r1 => ?_
      obtain ⟨a, rfl⟩ := Int.eq_ofNat_of_zero_le r0
      exact hJ' _ _ ⟨p3, a, rfl, rfl, by omega⟩
    rintro e h ⟨p4, b, rfl, rfl, hb'⟩
    refine seq_cutJ (fun e h => ∃ (p' : Pq) (c : Nat), e = B ++ [some (.int (w : Nat)), some ED, some (.int (a : Nat)), some (.int (b : Nat)), some (.int (c : Nat)), v13] ∧ h = p'.ob :: (loc ++ g) ∧ c ≤ es.length) (fun J' hJ' => ?_) ?_
    · subst hB
      simp [nn]
      refine pick_ok (by omega) (by omega) fun r p3 r0 r1 => ?_
      obtain ⟨a, rfl⟩ := Int.eq_ofNat_of_zero_le r0
      exact hJ' _ _ ⟨p3, a, rfl, rfl, by omega⟩
    rintro e h ⟨p5, c, rfl, rfl, hc⟩
    have fin : ∀ (M' : D) (many' : Nat) (es' : List (Nat × Nat)) (v13 : Option D), MdAt (loc ++ g) M' many' es' → Fits many' es' most wires → J [some (.ref 0), some (.int (kind : Nat)), some (.int (size : Nat)), some (.int (turns : Nat)), some (.int (most : Nat)), some (.int (wires : Nat)), some M', some (.int (i : Nat)), some (.int (w : Nat)), some ED, some (.int (a : Nat)), some (.int (b : Nat)), some (.int (c : Nat)), v13] (p5.ob :: (loc ++ g)) := fun M' many' es' v13 h1 h2 => (hJ _ _).mpr ⟨p5, g, M', many', es', _, _, _, _, _, _, _, rfl, rfl, h1, h2⟩
    have finR : ∀ (many' : Nat) (es' : List (Nat × Nat)) (v13 : Option D), Fits many' es' most wires → J [some (.ref 0), some (.int (kind : Nat)), some (.int (size : Nat)), some (.int (turns : Nat)), some (.int (most : Nat)), some (.int (wires : Nat)), some (.rol [.int (many' : Nat), .rol (es'.map prD)]), some (.int (i : Nat)), some (.int (w : Nat)), some ED, some (.int (a : Nat)), some (.int (b : Nat)), some (.int (c : Nat)), v13] (p5.ob :: (loc ++ g)) := fun many' es' v13 h2 => fin _ _ es' v13 ⟨.rol (es'.map prD), .inl rfl, .inl rfl⟩ h2
    have stay := fin M many es v13 ⟨ED, hed, hM⟩ ⟨h2, h3, h4, hl, h5⟩
    have red := hed.rd p5.ob
    have x0 := x0 p5
    have nn := nn p5
    have rb := red.b
    have eix : c < es.length → ∀ x, oIx ED (.int (c : Nat)) (p5.ob :: (loc ++ g) ++ x) = some (prD (es.getD c (0, 0)), p5.ob :: (loc ++ g) ++ x) := fun hcl x => red.ix x (by rw [atI_nat, List.getElem?_map, List.getD_eq_getElem?_getD, List.getElem?_eq_getElem hcl]; rfl)
    have eg : c < es.length → (es.getD c (0, 0)).1 < many ∧ (es.getD c (0, 0)).2 < many := fun hcl => by
      rw [List.getD_eq_getElem?_getD, List.getElem?_eq_getElem hcl]; exact h5 _ (List.getElem_mem _)
    have xm : ∀ x, oIx M (.int 0) (p5.ob :: (loc ++ g) ++ x) = some (.int (many : Nat), p5.ob :: (loc ++ g) ++ x) := fun x => (md_rd hed hM p5.ob).ix x (by simp)
    have fin7 := fun h2 => fin (.rol [.int ((many + 1 : Nat) : Int), ED]) (many + 1) es v13 ⟨ED, hed, .inl rfl⟩ h2
    clear hM hed x1
    subst hB
    generalize p5.ob :: (loc ++ g) = H at fin finR stay red x0 nn rb eix xm fin7 ⊢
    simp only [List.cons_append, List.nil_append]
    have in1 : ∀ h, oIn (.int (w : Nat)) (.tup [.int 1, .int 2, .int 4, .int 7]) h = some (.bl (decide ((w : Int) ∈ ([1, 2, 4, 7] : List Int))), h) := fun h => o_in_i (l := [1, 2, 4, 7])
    have in2 : ∀ h, oIn (.int (w : Nat)) (.tup [.int 0, .int 3]) h = some (.bl (decide ((w : Int) ∈ ([0, 3] : List Int))), h) := fun h => o_in_i (l := [0, 3])
    have in3 : ∀ h, oIn (.int (w : Nat)) (.tup [.int 5, .int 6]) h = some (.bl (decide ((w : Int) ∈ ([5, 6] : List Int))), h) := fun h => o_in_i (l := [5, 6])
    obtain ⟨E1, hE1⟩ : ∃ E1 : Nv, E1 = [some (.ref 0), some (.int (kind : Nat)), some (.int (size : Nat)), some (.int (turns : Nat)), some (.int (most : Nat)), some (.int (wires : Nat)), some M, some (.int (i : Nat)), some (.int (w : Nat)), some ED, some (.int (a : Nat)), some (.int (b : Nat)), some (.int (c : Nat)), v13] := ⟨_, rfl⟩
    have g4 : E1[4]? = some (some (.int (most : Nat))) := by rw [hE1]; rfl
    have g5 : E1[5]? = some (some (.int (wires : Nat))) := by rw [hE1]; rfl
    have g6 : E1[6]? = some (some M) := by rw [hE1]; rfl
    have g8 : E1[8]? = some (some (.int (w : Nat))) := by rw [hE1]; rfl
    have g9 : E1[9]? = some (some ED) := by rw [hE1]; rfl
    have g10 : E1[10]? = some (some (.int (a : Nat))) := by rw [hE1]; rfl
    have g11 : E1[11]? = some (some (.int (b : Nat))) := by rw [hE1]; rfl
    have g12 : E1[12]? = some (some (.int (c : Nat))) := by rw [hE1]; rfl
    rw [← hE1] at stay ⊢
    -- the two tests ahead
    by_cases c1 : w < 7 ∧ (wires ≤ es.length ∨ es.length ≤ c)
    · have w7 : (w : Int) < 7 := by omega
      rcases c1.2 with cb | cb
      · simp [g8, g9, g5, g12, nn, w7, cb]
        exact stay
      · by_cases cb2 : wires ≤ es.length
        · simp [g8, g9, g5, g12, nn, w7, cb2]
          exact stay
        · simp [g8, g9, g5, g12, nn, w7, cb, cb2]
          exact stay
    refine seq_cut (fun e h => E1 = e ∧ H = h) ?_ ?_
    · by_cases w7 : w < 7
      · have w7' : (w : Int) < 7 := by omega
        have ca : ¬ wires ≤ es.length := fun z => c1 ⟨w7, .inl z⟩
        have cb : ¬ es.length ≤ c := fun z => c1 ⟨w7, .inr z⟩
        simp [g8, g9, g5, g12, nn, w7', ca, cb]
      · have w7' : ¬ (w : Int) < 7 := by omega
        simp [g8, w7']
    rintro e h ⟨rfl, rfl⟩
    by_cases c2 : (w : Int) ∈ ([1, 2, 4, 7] : List Int) ∧ most ≤ many
    · have m1 : (most : Int) ≤ many := by omega
      simp only [c2.1, decide_true] at in1
      simp [g8, g6, g4, in1, x0, z4, c2.2]
      exact stay
    refine seq_cut (fun e h => E1 = e ∧ H = h) ?_ ?_
    · by_cases cm : (w : Int) ∈ ([1, 2, 4, 7] : List Int)
      · have m1 : ¬ most ≤ many := fun z => c2 ⟨cm, z⟩
        simp only [cm, decide_true] at in1
        simp [g8, g6, g4, in1, x0, z4, m1]
      · simp only [cm, decide_false] at in1
        simp [g8, in1, z4]
    rintro e h ⟨rfl, rfl⟩
    have mlt : (w = 1 ∨ w = 2 ∨ w = 4 ∨ w = 7) → many < most := fun hw => by
      have : (w : Int) ∈ ([1, 2, 4, 7] : List Int) := by
        rcases hw with rfl | rfl | rfl | rfl <;> simp
      have : ¬ most ≤ many := fun z => c2 ⟨this, z⟩
      omega
    have elt : w < 7 → es.length < wires ∧ c < es.length := fun hw => by
      have h1 : ¬ wires ≤ es.length := fun z => c1 ⟨hw, .inl z⟩
      have h2 : ¬ es.length ≤ c := fun z => c1 ⟨hw, .inr z⟩
      omega
    clear c1 c2
    have eix0 : c < es.length → oIx ED (.int (c : Nat)) H = some (prD (es.getD c (0, 0)), H) := fun h => by have := eix h []; simpa using this
    have xm0 := xm []
    simp only [List.append_nil] at xm0
    -- w = 0 or 3
    have T1 : ((tb (bi oIn (vr 8) (dtup (acons (kn (.int 0)) (acons (kn (.int 3)) (anil)))))) E1 H).wp (fun b h => H = h ∧ (b = true → w < 7)) (fun _ _ => False) := by
      simp [g8, z2, in2]
      omega
    rw [wp_sif]
    refine Res.wp_mono T1 (fun bb h q => ?_) fun _ _ q => q.elim
    obtain ⟨hh, q⟩ := q
    subst hh
    refine ⟨fun hb => ?_, fun _ => ?_⟩
    · obtain ⟨e1, e2⟩ := elt (q hb)
      obtain ⟨q1, q2⟩ := eg e2
      have eix0 := eix0 e2
      rw [wp_sst]
      refine made_wp (n := many) (G := .rol ((es ++ [es.getD c (0, 0)]).map prD)) (fun Q E q => by simp [g6, x0]; exact q) (fun Q E q => addA (new := [es.getD c (0, 0)]) red g9 (fun Q E q => by simp [g9, g12, eix0]; exact q) (by simp; omega) q) blws_pr ?_
      subst hE1
      exact finR many _ _ ⟨h2, h3, by simp; omega, by simp, fun q hq => by
        rcases List.mem_append.mp hq with hq | hq
        · exact h5 q hq
        · rw [List.mem_singleton.mp hq]; exact ⟨q1, q2⟩⟩
    -- w = 1
    have p1 : ∀ (x : MH) (q : Nat × Nat), oIx (prD q) (.int 0) x = some (.int (q.1 : Nat), x) := fun x q => by simp [prD, oIx, itemsD]
    have p2 : ∀ (x : MH) (q : Nat × Nat), oIx (prD q) (.int 1) x = some (.int (q.2 : Nat), x) := fun x q => by simp [prD, oIx, itemsD]
    have T2 : ((tb (bi oEq (vr 8) (kn (.int 1)))) E1 H).wp (fun b h => H = h ∧ (b = true → w = 1)) (fun _ _ => False) := by
      simp [g8]
      omega
    rw [wp_sif]
    refine Res.wp_mono T2 (fun bb h q => ?_) fun _ _ q => q.elim
    obtain ⟨hh, q⟩ := q
    subst hh
    refine ⟨fun hb => ?_, fun _ => ?_⟩
    · have hw1 := q hb
      obtain ⟨e1, e2⟩ := elt (by omega)
      obtain ⟨q1, q2⟩ := eg e2
      have eix := eix e2
      have ml := mlt (.inl hw1)
      rw [wp_sst]
      refine made_wp (n := many + 1) (G := .rol ((es.take c ++ [((es.getD c (0, 0)).1, many), (many, (es.getD c (0, 0)).2)] ++ es.drop (c + 1)).map prD)) (fun Q E q => by simp [g6, x0]; simpa using q) (fun Q E q => addB (new := [((es.getD c (0, 0)).1, many), (many, (es.getD c (0, 0)).2)]) red g9 g12 e2 (fun x Q E q => by simp [g9, g12, g6, eix, p1, p2, xm, z2]; simpa [prD] using q) (by simp; omega) q) blws_pr ?_
      subst hE1
      exact finR (many + 1) _ _ ⟨by omega, by omega, by simp; omega, by simp; omega, fun q hq => by
        rcases List.mem_append.mp hq with hq | hq
        · rcases List.mem_append.mp hq with hq | hq
          · have := h5 q (List.mem_of_mem_take hq); omega
          · simp only [List.mem_cons, List.not_mem_nil, or_false] at hq
            rcases hq with rfl | rfl
            · exact ⟨Nat.lt_succ_of_lt q1, Nat.lt_succ_self _⟩
            · exact ⟨Nat.lt_succ_self _, Nat.lt_succ_of_lt q2⟩
        · have := h5 q (List.mem_of_mem_drop hq); omega⟩
    -- w = 2
    have T3 : ((tand (tb (bi oEq (vr 8) (kn (.int 2)))) (tb (bi oLe (bi oAdd (ap oLen (acons (vr 9) (anil))) (kn (.int 2))) (vr 5)))) E1 H).wp (fun b h => H = h ∧ (b = true → w = 2 ∧ es.length + 2 ≤ wires)) (fun _ _ => False) := by
      by_cases h2 : w = 2
      · subst h2
        simp [g8, g9, g5, nn]
        omega
      · have h2' : ¬ (w : Int) = 2 := by omega
        simp [g8, h2']
    rw [wp_sif]
    refine Res.wp_mono T3 (fun bb h q => ?_) fun _ _ q => q.elim
    obtain ⟨hh, q⟩ := q
    subst hh
    refine ⟨fun hb => ?_, fun _ => ?_⟩
    · obtain ⟨hw1, hw3⟩ := q hb
      obtain ⟨e1, e2⟩ := elt (by omega)
      obtain ⟨q1, q2⟩ := eg e2
      have eix0 := eix0 e2
      have ml := mlt (.inr (.inl hw1))
      rw [wp_sst]
      refine made_wp (n := many + 1) (G := .rol ((es ++ [((es.getD c (0, 0)).1, many), (many, (es.getD c (0, 0)).2)]).map prD)) (fun Q E q => by simp [g6, x0]; simpa using q) (fun Q E q => addA (new := [((es.getD c (0, 0)).1, many), (many, (es.getD c (0, 0)).2)]) red g9 (fun Q E q => by simp [g9, g12, g6, eix0, p1, p2, xm0, z2]; simpa [prD] using q) (by simp; omega) q) blws_pr ?_
      subst hE1
      exact finR (many + 1) _ _ ⟨by omega, by omega, by simp; omega, by simp, fun q hq => by
        rcases List.mem_append.mp hq with hq | hq
        · have := h5 q hq; omega
        · simp only [List.mem_cons, List.not_mem_nil, or_false] at hq
          rcases hq with rfl | rfl
          · exact ⟨Nat.lt_succ_of_lt q1, Nat.lt_succ_self _⟩
          · exact ⟨Nat.lt_succ_self _, Nat.lt_succ_of_lt q2⟩⟩
    -- w = 4
    have T4 : ((tb (bi oEq (vr 8) (kn (.int 4)))) E1 H).wp (fun b h => H = h ∧ (b = true → w = 4)) (fun _ _ => False) := by
      simp [g8]
      omega
    rw [wp_sif]
    refine Res.wp_mono T4 (fun bb h q => ?_) fun _ _ q => q.elim
    obtain ⟨hh, q⟩ := q
    subst hh
    refine ⟨fun hb => ?_, fun _ => ?_⟩
    · have hw1 := q hb
      obtain ⟨e1, e2⟩ := elt (by omega)
      have ml := mlt (.inr (.inr (.inl hw1)))
      rw [wp_sst]
      refine made_wp (n := many + 1) (G := .rol ((es ++ [(a, many)]).map prD)) (fun Q E q => by simp [g6, x0]; simpa using q) (fun Q E q => addA (new := [(a, many)]) red g9 (fun Q E q => by simp [g10, g6, xm0, z2]; simpa [prD] using q) (by simp; omega) q) blws_pr ?_
      subst hE1
      exact finR (many + 1) _ _ ⟨by omega, by omega, by simp; omega, by simp, fun q hq => by
        rcases List.mem_append.mp hq with hq | hq
        · have := h5 q hq; omega
        · rw [List.mem_singleton.mp hq]; exact ⟨Nat.lt_succ_of_lt ha, Nat.lt_succ_self _⟩⟩
    -- w = 5 or 6
    have T5 : ((tand (tb (bi oIn (vr 8) (dtup (acons (kn (.int 5)) (acons (kn (.int 6)) (anil)))))) (tb (bi oNe (vr 10) (vr 11)))) E1 H).wp (fun b h => H = h ∧ (b = true → w < 7)) (fun _ _ => False) := by
      by_cases h56 : (w : Int) ∈ ([5, 6] : List Int)
      · have : w < 7 := by simp at h56; omega
        simp only [h56, decide_true] at in3
        simp [g8, z2, in3, g10, g11, this]
        exact Classical.em _
      · simp only [h56, decide_false] at in3
        simp [g8, z2, in3]
    rw [wp_sif]
    refine Res.wp_mono T5 (fun bb h q => ?_) fun _ _ q => q.elim
    obtain ⟨hh, q⟩ := q
    subst hh
    refine ⟨fun hb => ?_, fun _ => ?_⟩
    · have hw1 := q hb
      obtain ⟨e1, e2⟩ := elt (by omega)
      rw [wp_sst]
      refine made_wp (n := many) (G := .rol ((es ++ [(a, b)]).map prD)) (fun Q E q => by simp [g6, x0]; exact q) (fun Q E q => addA (new := [(a, b)]) red g9 (fun Q E q => by simp [g10, g11, z2]; simpa [prD] using q) (by simp; omega) q) blws_pr ?_
      subst hE1
      exact finR many _ _ ⟨h2, h3, by simp; omega, by simp, fun q hq => by
        rcases List.mem_append.mp hq with hq | hq
        · exact h5 q hq
        · rw [List.mem_singleton.mp hq]; exact ⟨ha, hb'⟩⟩
    -- w = 7
    have T6 : ((tb (bi oEq (vr 8) (kn (.int 7)))) E1 H).wp (fun b h => H = h ∧ (b = true → w = 7)) (fun _ _ => False) := by
      simp [g8]
      omega
    rw [wp_sif]
    refine Res.wp_mono T6 (fun bb h q => ?_) fun _ _ q => q.elim
    obtain ⟨hh, q⟩ := q
    subst hh
    refine ⟨fun hb => ?_, fun _ => ?_⟩
    · have hw1 := q hb
      have ml := mlt (.inr (.inr (.inr hw1)))
      rw [wp_sst]
      refine made_wp (n := many + 1) (G := ED) (fun Q E q => by simp [g6, x0]; simpa using q) (fun Q E q => by simp [g9]; exact q) rb ?_
      subst hE1
      exact fin7 ⟨by omega, by omega, h4, hl, fun q hq => by have := h5 q hq; omega⟩
    -- w = 8
    have T7 : ((tand (tb (bi oEq (vr 8) (kn (.int 8)))) (tand (tb (bi oLt (vr 12) (ap oLen (acons (vr 9) (anil))))) (tand (tb (bi oLe (bi oAdd (bi oIx (vr 6) (kn (.int 0))) (kn (.int 2))) (vr 4))) (tb (bi oLe (bi oAdd (ap oLen (acons (vr 9) (anil))) (kn (.int 4))) (vr 5)))))) E1 H).wp (fun b h => H = h ∧ (b = true → c < es.length ∧ many + 2 ≤ most ∧ es.length + 4 ≤ wires)) (fun _ _ => False) := by
      by_cases h8 : w = 8
      · subst h8
        by_cases d1 : c < es.length
        · by_cases d2 : (many : Int) + 2 ≤ most
          · simp [g8, g12, g9, g6, g4, g5, nn, x0, d1, d2]
            omega
          · simp [g8, g12, g9, g6, g4, g5, nn, x0, d1, d2]
        · simp [g8, g12, g9, nn, d1]
      · have h8' : ¬ (w : Int) = 8 := by omega
        simp [g8, h8']
    rw [wp_sif]
    refine Res.wp_mono T7 (fun bb h q => ?_) fun _ _ q => q.elim
    obtain ⟨hh, q⟩ := q
    subst hh
    refine ⟨fun hb => ?_, fun _ => ?_⟩
    · obtain ⟨e2, d2, d3⟩ := q hb
      obtain ⟨q1, q2⟩ := eg e2
      have eix0 := eix0 e2
      obtain ⟨qa, hqa⟩ : ∃ qa, qa = es.getD c (0, 0) := ⟨_, rfl⟩
      rw [← hqa] at q1 q2 eix0
      refine seq_cut (fun e h => e = E1.set 13 (some (.rol ([(qa.1, many), (qa.1, many + 1), (many, many + 1)].map prD))) ∧ H = h) ?_ ?_
      · simp [g9, g12, g6, eix0, p1, xm0, z2, z3, prD]
      rintro e h ⟨rfl, rfl⟩
      obtain ⟨E2, hE2⟩ : ∃ E2, E2 = E1.set 13 (some (.rol ([(qa.1, many), (qa.1, many + 1), (many, many + 1)].map prD))) := ⟨_, rfl⟩
      have k6 : E2[6]? = some (some M) := by rw [hE2, hE1]; rfl
      have k9 : E2[9]? = some (some ED) := by rw [hE2, hE1]; rfl
      have k12 : E2[12]? = some (some (.int (c : Nat))) := by rw [hE2, hE1]; rfl
      have k13 : E2[13]? = some (some (.rol ([(qa.1, many), (qa.1, many + 1), (many, many + 1)].map prD))) := by rw [hE2, hE1]; rfl
      rw [← hE2]
      have eixx := eix e2
      rw [← hqa] at eixx
      refine seq_cut (fun e h => e = E2.set 13 (some (.rol (([(qa.1, many), (qa.1, many + 1), (many, many + 1)] ++ [(many, qa.2), (many + 1, qa.2)]).map prD))) ∧ H = h) ?_ ?_
      · rw [wp_sst, wp_fz, wp_bi, wp_vr]
        refine ⟨_, k13, ?_⟩
        rw [wp_dlst]
        have hfa : ∀ (Q : List D → MH → Prop) (E : Exn → MH → Prop), Q ([(many, qa.2), (many + 1, qa.2)].map prD) H → ((acons (dtup (acons (bi oIx (vr 6) (kn (.int 0))) (acons (bi oIx (bi oIx (vr 9) (vr 12)) (kn (.int 1))) (anil)))) (acons (dtup (acons (bi oAdd (bi oIx (vr 6) (kn (.int 0))) (kn (.int 1))) (acons (bi oIx (bi oIx (vr 9) (vr 12)) (kn (.int 1))) (anil)))) (anil))) E2 H).wp Q E := fun Q E q => by
          simp [k6, k9, k12, xm0, eix0, p2, z2]
          simpa [prD] using q
        refine hfa _ _ ⟨by simp; omega, ?_⟩
        rw [addX_l (xs := [(qa.1, many), (qa.1, many + 1), (many, many + 1)].map prD) (ys := [(many, qa.2), (many + 1, qa.2)].map prD) rfl (by simp [lstD]) (.inl ⟨_, rfl⟩) (by simp; omega), owp_some, fq_next, ← List.map_append]
        exact ⟨blws_pr, rfl, rfl⟩
      rintro e h ⟨rfl, rfl⟩
      obtain ⟨E3, hE3⟩ : ∃ E3, E3 = E2.set 13 (some (.rol (([(qa.1, many), (qa.1, many + 1), (many, many + 1)] ++ [(many, qa.2), (many + 1, qa.2)]).map prD))) := ⟨_, rfl⟩
      have j6 : E3[6]? = some (some M) := by rw [hE3, hE2, hE1]; rfl
      have j9 : E3[9]? = some (some ED) := by rw [hE3, hE2, hE1]; rfl
      have j12 : E3[12]? = some (some (.int (c : Nat))) := by rw [hE3, hE2, hE1]; rfl
      have j13 : E3[13]? = some (some (.rol (([(qa.1, many), (qa.1, many + 1), (many, many + 1)] ++ [(many, qa.2), (many + 1, qa.2)]).map prD))) := by rw [hE3, hE2, hE1]; rfl
      rw [← hE3, wp_sst]
      refine made_wp (n := many + 2) (G := .rol ((es.take c ++ ([(qa.1, many), (qa.1, many + 1), (many, many + 1)] ++ [(many, qa.2), (many + 1, qa.2)]) ++ es.drop (c + 1)).map prD)) (fun Q E q => by simp [j6, xm0]; simpa using q) (fun Q E q => addC red j9 j12 j13 e2 (by simp; omega) q) blws_pr ?_
      subst hE3; subst hE2; subst hE1
      exact finR (many + 2) _ _ ⟨by omega, by omega, by simp; omega, by simp; omega, fun q hq => by
        rcases List.mem_append.mp hq with hq | hq
        · rcases List.mem_append.mp hq with hq | hq
          · have := h5 q (List.mem_of_mem_take hq); omega
          · simp only [List.mem_append, List.mem_cons, List.not_mem_nil, or_false] at hq
            rcases hq with (rfl | rfl | rfl) | (rfl | rfl) <;> exact ⟨by simp only; omega, by simp only; omega⟩
        · have := h5 q (List.mem_of_mem_drop hq); omega⟩
    · rw [wp_nop]
      exact stay
  intro e h hj
  obtain ⟨p1, g, M, many, es, v7, v8, v9, v10, v11, v12, v13, rfl, rfl, h1, h2⟩ := (hJ _ _).mp hj
  rw [wp_ret, wp_vr]
  exact ⟨_, rfl, hq M p1 g many es h1 h2⟩
end K09
namespace K09
open PySem Det
/-! ### sorted(set(numbers)) -/
def ddN : List Nat → List Nat → List Nat
  | ys, [] => ys
  | ys, x :: xs => ddN (if x ∈ ys then ys else ys ++ [x]) xs
def kN (i : Nat) : L2.Key := .inl (i : Int)
theorem kN_inj {a b : Nat} (h : kN a = kN b) : a = b := by
  unfold kN at h
  injection h with h
  exact_mod_cast h
theorem keysOf_n : ∀ xs : List Nat, keysOf (xs.map nD) = some (xs.map kN)
  | [] => rfl
  | x :: xs => by
    rw [List.map_cons, keysOf, keysOf_n xs]
    rfl
theorem addKs_n : ∀ (xs ys : List Nat), addKs (ys.map kN) (xs.map kN) = (ddN ys xs).map kN
  | [], ys => rfl
  | x :: xs, ys => by
    show addKs (addK (ys.map kN) (kN x)) (xs.map kN) = _
    have e : addK (ys.map kN) (kN x) = ((if x ∈ ys then ys else ys ++ [x]).map kN : List L2.Key) := by
      unfold addK
      by_cases h : x ∈ ys
      · rw [if_pos (List.mem_map.mpr ⟨x, h, rfl⟩), if_pos h]
      · rw [if_neg (fun z => by obtain ⟨y, hy, e⟩ := List.mem_map.mp z; exact h (kN_inj e ▸ hy)), if_neg h]; simp
    rw [e, addKs_n xs]
    rfl
theorem ddN_mem : ∀ (xs ys : List Nat) (a : Nat), a ∈ ddN ys xs → a ∈ ys ∨ a ∈ xs
  | [], ys, a, h => .inl h
  | x :: xs, ys, a, h => by
    unfold ddN at h
    rcases ddN_mem xs _ a h with h | h
    · split at h
      · exact .inl h
      · rcases List.mem_append.mp h with h | h
        · exact .inl h
        · rw [List.mem_singleton.mp h]; exact .inr List.mem_cons_self
    · exact .inr (List.mem_cons_of_mem _ h)
theorem ddN_len : ∀ (xs ys : List Nat), (ddN ys xs).length ≤ ys.length + xs.length
  | [], ys => by simp [ddN]
  | x :: xs, ys => by
    unfold ddN
    by_cases h : x ∈ ys
    · rw [if_pos h]
      have := ddN_len xs ys
      simp; omega
    · rw [if_neg h]
      have := ddN_len xs (ys ++ [x])
      simp at this ⊢; omega
theorem o_sset_n {l : List Nat} {mh : MH} (hl : l.length ≤ 4000) : ∃ m : List Nat, oSSet (.rol (l.map nD)) mh = some (.ref mh.length, mh ++ [.lst (m.map nD)]) ∧ (∀ x ∈ m, x ∈ l) ∧ m.length ≤ l.length := by
  have h0 : addKs [] (l.map kN) = (ddN [] l).map kN := addKs_n l []
  have hev : evenK ((ddN [] l).map kN) = true := by
    unfold evenK
    rw [Bool.or_eq_true]
    refine .inl ?_
    rw [List.all_map]
    exact List.all_eq_true.mpr fun _ _ => rfl
  refine ⟨isort (fun x y => leK (kN x) (kN y)) (ddN [] l), ?_, fun x hx => ?_, ?_⟩
  · unfold oSSet
    simp only [it_rol, keysOf_n, h0]
    rw [if_pos ⟨by rw [List.length_map]; omega, hev⟩, isort_map, List.map_map]
    rfl
  · have := (isort_perm_self (le := fun x y => leK (kN x) (kN y)) (ddN [] l)).mem_iff.mp hx
    rcases ddN_mem l [] x this with h | h
    · cases h
    · exact h
  · rw [(isort_perm_self (le := fun x y => leK (kN x) (kN y)) (ddN [] l)).length_eq]
    have := ddN_len l []
    simpa using this
/-- [x for x in range(n) if a draw is 0] -/
theorem some_rg {p : Pq} {loc : MH} {Q : D → MH → Prop} {E : Exn → MH → Prop} {env : Nv} {many : Int} {v : Nat} {n : Nat} (h1 : 0 < many) (h2 : many < 1000000000) (hn : n ≤ 1000) (hv : 0 < v) (h0 : (wipeD env [v])[0]? = some (some (.ref 0))) (hlv : v < env.length)
    (hd : ∀ (bs : List Nat) p', (∀ b ∈ bs, b < n) → bs.length ≤ n → Q (.rol (bs.map nD)) (Pq.ob p' :: loc)) :
    (loopC (loc.length + 1) (fun _ => true) (.nm v) (tb (bi oEq (cal 2 m__law_pick (acons (vr 0) (acons (kn (.int many)) anil))) (kn (.int 0)))) (vr v) (wipeD env [v]) (rgD 0 n) (p.ob :: (loc ++ [.lst []]))).wp (FQ (p.ob :: loc) Q) E := by
  have hz : (10000 : Nat) ≤ sizeLine := by decide
  rw [rg0]
  obtain ⟨I, hI⟩ : ∃ I : Nat → List D → MH → Prop, ∀ i acc h, I i acc h ↔ ∃ (p' : Pq) (bs : List Nat), h = p'.ob :: (loc ++ [.lst acc]) ∧ acc = bs.map nD ∧ (∀ b ∈ bs, b < n) ∧ bs.length ≤ i := ⟨_, fun _ _ _ => Iff.rfl⟩
  refine comp_wp I [] (by simp) ((hI _ _ _).mpr ⟨p, [], rfl, rfl, by simp, by simp⟩) ?_ ?_ ?_
  · intro i acc h hi
    obtain ⟨p', bs, rfl, rfl, _⟩ := (hI _ _ _).mp hi
    simp
  · intro i d acc h hd hi
    obtain ⟨p', bs, rfl, rfl, hlt, hl⟩ := (hI _ _ _).mp hi
    have hil : i < n := by have := (List.getElem?_eq_some_iff.mp hd).1; simpa using this
    have hdi : d = nD i := by
      rw [List.getElem?_map, List.getElem?_range hil] at hd
      exact (Option.some.inj hd).symm
    subst hdi
    refine ⟨rfl, _, rfl, ?_⟩
    rw [wp_tb, wp_bi, wp_cal, wp_acons, wp_vr]
    refine ⟨.ref 0, by rw [List.getElem?_set_ne (by omega)]; exact h0, ?_⟩
    rw [wp_acons, wp_kn, wp_anil]
    refine ⟨rfl, ?_⟩
    refine pick_ok h1 h2 fun r p2 r0 r1 => ?_
    rw [wp_kn, o_eq_i, owp_some]
    refine ⟨_, rfl, fun hb => ?_, fun hb => ?_⟩
    · rw [wp_vr]
      refine ⟨nD i, by rw [List.getElem?_set_self]; simpa [wipeD] using hlv, by simp, by simp; omega, ?_⟩
      rw [hI]
      refine ⟨p2, bs ++ [i], by simp, by simp, fun b hb => ?_, by simp; omega⟩
      rcases List.mem_append.mp hb with hb | hb
      · exact hlt b hb
      · rw [List.mem_singleton.mp hb]; exact hil
    · rw [hI]
      exact ⟨p2, bs, rfl, rfl, hlt, by omega⟩
  · intro acc h hi
    obtain ⟨p', bs, rfl, rfl, hlt, hl⟩ := (hI _ _ _).mp hi
    refine ⟨rfl, ?_⟩
    simp at hl
    exact fq_pq_lst (g := []) blws_n (hd bs p' hlt hl)
theorem watch_ok {p : Pq} {loc : MH} {many : Nat} {Q : D → MH → Prop} {E : Exn → MH → Prop} (h2 : 2 ≤ many) (hm : many ≤ 60) (hq : ∀ (ws : List Nat) p', (∀ i ∈ ws, i < many) → ws.length ≤ 60 → Q (.rol (ws.map nD)) (Pq.ob p' :: loc)) : (m__law_watch [.ref 0, .int (many : Nat)] (p.ob :: loc)).wp Q E := by
  have hz : (10000 : Nat) ≤ sizeLine := by decide
  have z0 : (0 : Nat) ≤ sizeLine := by decide
  have z1 : (1 : Nat) ≤ sizeLine := by decide
  have z2 : (2 : Nat) ≤ sizeLine := by decide
  have z3 : (3 : Nat) ≤ sizeLine := by decide
  unfold m__law_watch
  rw [wp_zF, wp_runF]
  show (sq _ _ [some (.ref 0), some (.int (many : Nat)), none, none] (p.ob :: loc)).wp _
  refine seq_cutJ (fun e h => ∃ (p' : Pq) (w : Nat), e = [some (.ref 0), some (.int (many : Nat)), some (.int (w : Nat)), none] ∧ h = p'.ob :: loc ∧ w < 9) (fun J hJ => ?_) ?_
  · simp
    refine pick_ok (by omega) (by omega) fun r p2 r0 r1 => ?_
    obtain ⟨w, rfl⟩ := Int.eq_ofNat_of_zero_le r0
    exact hJ _ _ ⟨p2, w, rfl, rfl, by omega⟩
  rintro e h ⟨p2, w, rfl, rfl, hw⟩
  have fin : ∀ (p' : Pq) (ws : List Nat), (∀ i ∈ ws, i < many) → ws.length ≤ 60 → FQ (p.ob :: loc) Q (.rol (ws.map nD)) (p'.ob :: loc) := fun p' ws h1 h2 => fq_pq0 (fun n => by simp) (by rw [blw_rol]; exact blws_n) (hq ws p' h1 h2)
  have go : ∀ (t : MT) (s rest : MS) (c : Prop) (O : Po), (∀ (Q : Bool → MH → Prop) (E : Exn → MH → Prop), (∀ b : Bool, (b = true ↔ c) → Q b (p2.ob :: loc)) → (t [some (.ref 0), some (.int (many : Nat)), some (.int (w : Nat)), none] (p2.ob :: loc)).wp Q E) → (c → (s [some (.ref 0), some (.int (many : Nat)), some (.int (w : Nat)), none] (p2.ob :: loc)).wp { O with nx := fun e h => (rest e h).wp O }) → (¬ c → (rest [some (.ref 0), some (.int (many : Nat)), some (.int (w : Nat)), none] (p2.ob :: loc)).wp O) → (sq (sif t s nop) rest [some (.ref 0), some (.int (many : Nat)), some (.int (w : Nat)), none] (p2.ob :: loc)).wp O := fun t s rest c O ht hs hr => by
    rw [wp_sq, wp_sif]
    refine ht _ _ fun b hb => ⟨fun h => hs (hb.mp h), fun h => ?_⟩
    rw [wp_nop]
    exact hr fun z => by rw [hb.mpr z] at h; cases h
  have eqt : ∀ (k : Nat) (Q : Bool → MH → Prop) (E : Exn → MH → Prop), (∀ b : Bool, (b = true ↔ w = k) → Q b (p2.ob :: loc)) → ((tb (bi oEq (vr 2) (kn (.int (k : Nat))))) [some (.ref 0), some (.int (many : Nat)), some (.int (w : Nat)), none] (p2.ob :: loc)).wp Q E := fun k Q E h => by
    rw [wp_tb, wp_bi, wp_vr]
    refine ⟨_, rfl, ?_⟩
    rw [wp_kn, o_eq_i, owp_some]
    refine ⟨_, rfl, h _ ?_⟩
    simp
    omega
  refine go _ _ _ (w < 4) _ (fun Q E h => ?_) (fun _ => ?_) fun _ => ?_
  · rw [wp_tb, wp_bi, wp_vr]
    refine ⟨_, rfl, ?_⟩
    rw [wp_kn, o_lt_i, owp_some]
    refine ⟨_, rfl, h _ ?_⟩
    simp; omega
  · simp [-fq_rol, z2]
    exact fq_pq_lst (g := []) (by simp) (fin p2 [0, 1] (by simp; omega) (by simp))
  refine go _ _ _ (w = 4) _ (eqt 4) (fun _ => ?_) fun _ => ?_
  · simp [-fq_rol, z0]
    exact fq_pq_lst (g := []) (by simp) (fin p2 [] (by simp) (by simp))
  refine go _ _ _ (w = 5) _ (eqt 5) (fun _ => ?_) fun _ => ?_
  · rw [wp_ret, wp_fz, wp_dlst, wp_acons, wp_cal, wp_acons, wp_vr]
    refine ⟨_, rfl, ?_⟩
    rw [wp_acons, wp_vr]
    refine ⟨_, rfl, ?_⟩
    rw [wp_anil]
    refine ⟨rfl, pick_ok (by omega) (by omega) fun r p3 r0 r1 => ?_⟩
    obtain ⟨a, rfl⟩ := Int.eq_ofNat_of_zero_le r0
    rw [wp_anil]
    refine ⟨z1, fq_pq_lst (g := []) (by simp) ?_⟩
    exact fin p3 [a] (by simp; omega) (by simp)
  refine go _ _ _ (w = 6) _ (eqt 6) (fun _ => ?_) fun _ => ?_
  · rw [wp_ret, wp_fz, wp_un, wp_fz, wp_dlst, wp_acons, wp_kn, wp_acons, wp_kn, wp_acons, wp_cal, wp_acons, wp_vr]
    refine ⟨_, rfl, ?_⟩
    rw [wp_acons, wp_vr]
    refine ⟨_, rfl, ?_⟩
    rw [wp_anil]
    refine ⟨rfl, pick_ok (by omega) (by omega) fun r p3 r0 r1 => ?_⟩
    obtain ⟨a, rfl⟩ := Int.eq_ofNat_of_zero_le r0
    rw [wp_anil]
    refine ⟨z3, fq_pq_lst (g := []) (by simp) ?_⟩
    obtain ⟨m, hm1, hm2, hm3⟩ := o_sset_n (l := [0, 1, a]) (mh := p3.ob :: loc) (by simp)
    have e : [D.int 0, D.int 1, D.int (a : Nat)] = [0, 1, a].map nD := rfl
    show owp (oSSet (.rol [D.int 0, D.int 1, D.int (a : Nat)]) _) _
    rw [e, hm1, owp_some]
    refine fq_pq_lst (g := []) blws_n ?_
    exact fin p3 m (fun i hi => by
      have := hm2 i hi
      simp at this
      rcases this with rfl | rfl | rfl <;> omega) (by simp at hm3; omega)
  · rw [wp_ret, wp_fz, wp_lc, wp_range1, wp_vr]
    refine ⟨_, rfl, _, rfl, okB_of (by omega) (by omega), ?_⟩
    rw [show ((many : Int)).toNat = many by omega]
    exact some_rg (by omega) (by omega) (by omega) (by omega) rfl (by simp) fun bs p3 h1 h2 => fin p3 bs h1 (by omega)
end K09
namespace K09
open PySem Det
/-- a dressed shape -/
structure Shape (many : Nat) (nodes names : List Str) (es : List (Nat × Nat)) (ws gs : List Nat) : Prop where
  dr : Dr many nodes names es
  wl : ∀ i ∈ ws, i < many
  wn : ws.length ≤ 60
  gl : ∀ i ∈ gs, i < es.length
  gn : gs.length ≤ 60
/-- what _law_dress hands back in h -/
def DressQ (h : MH) (d : D) (many : Nat) (nodes names : List Str) (es : List (Nat × Nat)) (ws gs : List Nat) : Prop := ∃ k kn km, d = .ref k ∧ h[k]? = some (.lst [dressN nodes names es ws gs, .ref kn, .ref km]) ∧ h[kn]? = some (.lst (nodes.map .str)) ∧ h[km]? = some (.lst (names.map .str))
theorem dress_ok2 {p : Pq} {loc : MH} {many : Nat} {ED : D} {es : List (Nat × Nat)} {ws gs : List Nat} {Q : D → MH → Prop} {E : Exn → MH → Prop} (hm : many ≤ 60) (he : es.length ≤ 60) (hlt : ∀ q ∈ es, q.1 < many ∧ q.2 < many) (hws : ∀ i ∈ ws, i < many) (hwl : ws.length ≤ 60) (hgs : ∀ i ∈ gs, i < es.length) (hgl : gs.length ≤ 60) (hE : EdAt loc ED es)
    (hq : ∀ (nodes names : List Str) (p' : Pq) (g : MH) (d : D), Shape many nodes names es ws gs → DressQ (p'.ob :: (loc ++ g)) d many nodes names es ws gs → Q d (p'.ob :: (loc ++ g))) :
    (m__law_dress [.ref 0, .rol [.int (many : Nat), ED, .rol (ws.map nD), .rol (gs.map nD)]] (p.ob :: loc)).wp Q E :=
  dress_ok hm he hlt hws (by omega) hgs (by omega) (fun p' g => by
    have r := (hE.mono g).rd p'.ob
    have h1 := r.i []
    have h2 := r.n []
    rw [List.append_nil] at h1 h2
    refine ⟨h1, ?_⟩
    rcases hE.mono g with rfl | ⟨j, rfl, h3⟩
    · simp [lenD]
    · simp [lenD, h3]) fun nodes names p' g k kn km dr h1 h2 h3 => hq nodes names p' g _ ⟨dr, hws, hwl, hgs, hgl⟩ ⟨k, kn, km, rfl, h1, h2, h3⟩
/-- [made[0], made[1], watch, given] -/
theorem shape_wp {H : MH} {env : Nv} {Q : List D → MH → Prop} {E : Exn → MH → Prop} {f1 f2 f3 f4 : ME} {many : Nat} {ED : D} {ws gs : List Nat} (h1 : ∀ (Q : D → MH → Prop) (E : Exn → MH → Prop), Q (.int (many : Nat)) H → (f1 env H).wp Q E) (h2 : ∀ (Q : D → MH → Prop) (E : Exn → MH → Prop), Q ED H → (f2 env H).wp Q E) (h3 : ∀ (Q : D → MH → Prop) (E : Exn → MH → Prop), Q (.rol (ws.map nD)) H → (f3 env H).wp Q E) (h4 : ∀ (Q : D → MH → Prop) (E : Exn → MH → Prop), Q (.rol (gs.map nD)) H → (f4 env H).wp Q E) (hb : ED.blw H.length = true) (h0 : env[0]? = some (some (.ref 0)))
    (hq : Q [.ref 0, .rol [.int (many : Nat), ED, .rol (ws.map nD), .rol (gs.map nD)]] H) : ((acons (vr 0) (acons (fz (dlst (acons f1 (acons f2 (acons f3 (acons f4 (anil))))))) (anil))) env H).wp Q E := by
  have z4 : (4 : Nat) ≤ sizeLine := by decide
  rw [wp_acons, wp_vr]
  refine ⟨_, h0, ?_⟩
  rw [wp_acons, wp_fz, wp_dlst, wp_acons]
  refine h1 _ _ ?_
  rw [wp_acons]
  refine h2 _ _ ?_
  rw [wp_acons]
  refine h3 _ _ ?_
  rw [wp_acons]
  refine h4 _ _ ?_
  rw [wp_anil]
  refine ⟨z4, ?_⟩
  rw [fq_push]
  refine ⟨by simp [hb, blws_n], ?_⟩
  rw [wp_anil]
  exact hq
theorem drawn_ok {p : Pq} {loc : MH} {most wires : Nat} {Q : D → MH → Prop} {E : Exn → MH → Prop} (hm : 6 ≤ most) (hm2 : most ≤ 28) (hw : 9 ≤ wires) (hw2 : wires ≤ 60)
    (hq : ∀ (many : Nat) (nodes names : List Str) (es : List (Nat × Nat)) (ws gs : List Nat) (p' : Pq) (g : MH) (d : D), Shape many nodes names es ws gs → many ≤ 40 → DressQ (p'.ob :: (loc ++ g)) d many nodes names es ws gs → Q d (p'.ob :: (loc ++ g))) :
    (m__law_drawn [.ref 0, .int (most : Nat), .int (wires : Nat)] (p.ob :: loc)).wp Q E := by
  have hz : (10000 : Nat) ≤ sizeLine := by decide
  have z0 : (0 : Nat) ≤ sizeLine := by decide
  have z2 : (2 : Nat) ≤ sizeLine := by decide
  unfold m__law_drawn
  rw [wp_runF]
  show (sq _ _ [some (.ref 0), some (.int (most : Nat)), some (.int (wires : Nat)), none, none, none, none, none, none, none, none, none, none] (p.ob :: loc)).wp _
  refine seq_cutJ (fun e h => ∃ (p' : Pq) (k : Nat), e = [some (.ref 0), some (.int (most : Nat)), some (.int (wires : Nat)), some (.int (k : Nat)), none, none, none, none, none, none, none, none, none] ∧ h = p'.ob :: loc ∧ k < 11) (fun J hJ => ?_) ?_
  · simp
    refine pick_ok (by omega) (by omega) fun r p2 r0 r1 => ?_
    obtain ⟨w, rfl⟩ := Int.eq_ofNat_of_zero_le r0
    exact hJ _ _ ⟨p2, w, rfl, rfl, by omega⟩
  rintro e h ⟨p1, kind, rfl, rfl, hk⟩
  refine seq_cutJ (fun e h => ∃ (p' : Pq) (g : MH) (M : D) (many : Nat) (es : List (Nat × Nat)) (v4 v5 v6 v7 v8 : Option D), h = p'.ob :: (loc ++ g) ∧ e = [some (.ref 0), some (.int (most : Nat)), some (.int (wires : Nat)), some (.int (kind : Nat)), v4, v5, v6, v7, v8, some M, none, none, none] ∧ MdAt (loc ++ g) M many es ∧ many ≤ 40 ∧ es.length ≤ 60 ∧ ∀ q ∈ es, q.1 < many ∧ q.2 < many) (fun J hJ => ?_) ?_
  · rw [wp_sif, wp_tb, wp_bi, wp_vr]
    refine ⟨_, rfl, ?_⟩
    rw [wp_kn, o_eq_i, owp_some]
    refine ⟨_, rfl, fun _ => ?_, fun hne => ?_⟩
    · refine seq_cutJ (fun e h => ∃ (p' : Pq) (many : Nat), e = [some (.ref 0), some (.int (most : Nat)), some (.int (wires : Nat)), some (.int (kind : Nat)), some (.int (many : Nat)), none, none, none, none, none, none, none, none] ∧ h = p'.ob :: loc ∧ many ≤ most) (fun J' hJ' => ?_) ?_
      · simp
        refine pick_ok (by omega) (by omega) fun r p2 r0 r1 => ?_
        obtain ⟨w, rfl⟩ := Int.eq_ofNat_of_zero_le r0
        exact hJ' _ _ ⟨p2, w, rfl, rfl, by omega⟩
      rintro e h ⟨p2, many, rfl, rfl, hmm⟩
      refine seq_cut (fun e h => e = [some (.ref 0), some (.int (most : Nat)), some (.int (wires : Nat)), some (.int (kind : Nat)), some (.int (many : Nat)), some (.ref (loc.length + 1)), none, none, none, none, none, none, none] ∧ h = p2.ob :: (loc ++ [.lst []])) (by simp) ?_
      rintro e h ⟨rfl, rfl⟩
      obtain ⟨K, hK⟩ : ∃ K : Nat → Nv → MH → Prop, ∀ i e h, K i e h ↔ ∃ (p' : Pq) (es : List (Nat × Nat)) (v6 v7 v8 : Option D), h = p'.ob :: (loc ++ [.lst (es.map prD)]) ∧ e = [some (.ref 0), some (.int (most : Nat)), some (.int (wires : Nat)), some (.int (kind : Nat)), some (.int (many : Nat)), some (.ref (loc.length + 1)), v6, v7, v8, none, none, none, none] ∧ es.length ≤ i ∧ ∀ q ∈ es, q.1 < many ∧ q.2 < many := ⟨_, fun _ _ _ => Iff.rfl⟩
      refine seq_cut (K 60) ?_ ?_
      · simp
        refine pick_ok (loc := loc ++ [Ob.lst []]) (by omega) (by omega) fun r p3 r0 r1 => ?_
        obtain ⟨n, rfl⟩ := Int.eq_ofNat_of_zero_le r0
        refine ⟨_, rfl, okB_of (by omega) (by omega), ?_⟩
        refine loop_n K ((hK _ _ _).mpr ⟨p3, [], none, none, none, rfl, rfl, by simp, by simp⟩) ?_ ?_
        · intro i e h hi q
          obtain ⟨p4, es, v6, v7, v8, rfl, rfl, el, ep⟩ := (hK _ _ _).mp q
          have hi60 : i < 60 := by
            have : i < n := by simpa using hi
            omega
          refine ⟨rfl, _, rfl, ?_⟩
          obtain ⟨mx, hmx⟩ : ∃ mx : Nat, mx = max many 1 := ⟨_, rfl⟩
          have hmxo : ∀ h, oMax2 [.int (many : Nat), .int 1] h = some (.int (mx : Nat), h) := fun h => by
            rw [o_max_i]
            by_cases hc : (1 : Int) > many
            · rw [if_pos hc, show (mx : Int) = 1 by omega]
            · rw [if_neg hc, show (mx : Int) = many by omega]
          refine seq_cutJ (fun e h => ∃ (p' : Pq) (a : Nat), h = p'.ob :: (loc ++ [.lst (es.map prD)]) ∧ e = [some (.ref 0), some (.int (most : Nat)), some (.int (wires : Nat)), some (.int (kind : Nat)), some (.int (many : Nat)), some (.ref (loc.length + 1)), some (.int (i : Nat)), some (.int (a : Nat)), v8, none, none, none, none] ∧ a < mx) (fun J' hJ' => ?_) ?_
          · rw [wp_sst, wp_cal, wp_acons, wp_vr]
            refine ⟨_, rfl, ?_⟩
            rw [wp_acons, wp_ap, wp_acons, wp_vr]
            refine ⟨_, rfl, ?_⟩
            rw [wp_acons, wp_kn, wp_anil, hmxo, owp_some, wp_anil]
            refine ⟨rfl, pick_ok (loc := loc ++ [Ob.lst (es.map prD)]) (by omega) (by omega) fun r p5 r0 r1 => ?_⟩
            obtain ⟨a, rfl⟩ := Int.eq_ofNat_of_zero_le r0
            exact hJ' _ _ ⟨p5, a, rfl, rfl, by omega⟩
          rintro e h ⟨p5, a, rfl, rfl, ha⟩
          refine seq_cutJ (fun e h => ∃ (p' : Pq) (b : Nat), h = p'.ob :: (loc ++ [.lst (es.map prD)]) ∧ e = [some (.ref 0), some (.int (most : Nat)), some (.int (wires : Nat)), some (.int (kind : Nat)), some (.int (many : Nat)), some (.ref (loc.length + 1)), some (.int (i : Nat)), some (.int (a : Nat)), some (.int (b : Nat)), none, none, none, none] ∧ b < mx) (fun J' hJ' => ?_) ?_
          · rw [wp_sst, wp_cal, wp_acons, wp_vr]
            refine ⟨_, rfl, ?_⟩
            rw [wp_acons, wp_ap, wp_acons, wp_vr]
            refine ⟨_, rfl, ?_⟩
            rw [wp_acons, wp_kn, wp_anil, hmxo, owp_some, wp_anil]
            refine ⟨rfl, pick_ok (loc := loc ++ [Ob.lst (es.map prD)]) (by omega) (by omega) fun r p5 r0 r1 => ?_⟩
            obtain ⟨a, rfl⟩ := Int.eq_ofNat_of_zero_le r0
            exact hJ' _ _ ⟨p5, a, rfl, rfl, by omega⟩
          rintro e h ⟨p6, b, rfl, rfl, hb⟩
          rw [wp_sif, wp_tb, wp_bi, wp_vr]
          refine ⟨_, rfl, ?_⟩
          rw [wp_vr]
          refine ⟨_, rfl, ?_⟩
          rw [o_ne_i, owp_some]
          refine ⟨_, rfl, fun hd => ?_, fun _ => ?_⟩
          · have hd : a ≠ b := fun e => by subst e; simp at hd
            have hlt : es.length < sizeLine := by omega
            simp [z2, hlt]
            rw [hK]
            refine ⟨p6, es ++ [(a, b)], _, _, _, by simp [prD], rfl, by simp; omega, fun q hq => ?_⟩
            rcases List.mem_append.mp hq with hq | hq
            · exact ep q hq
            · rw [List.mem_singleton.mp hq]; exact ⟨show a < many by omega, show b < many by omega⟩
          · rw [wp_nop]
            show K (i + 1) _ _
            rw [hK]
            exact ⟨p6, es, _, _, _, rfl, rfl, by omega, ep⟩
        · intro e h q
          obtain ⟨p4, es, v6, v7, v8, rfl, rfl, el, ep⟩ := (hK _ _ _).mp q
          refine ⟨rfl, ?_⟩
          show K 60 _ _
          rw [hK]
          have : (Int.ofNat n).toNat = n := rfl
          exact ⟨p4, es, _, _, _, rfl, rfl, by simp at el; omega, ep⟩
      intro e h q
      obtain ⟨p4, es, v6, v7, v8, rfl, rfl, el, ep⟩ := (hK _ _ _).mp q
      rw [wp_sst, wp_fz, wp_dlst, wp_acons, wp_vr]
      refine ⟨_, rfl, ?_⟩
      rw [wp_acons, wp_vr]
      refine ⟨_, rfl, ?_⟩
      rw [wp_anil]
      refine ⟨z2, ?_⟩
      rw [fq_push]
      refine ⟨by simp, ?_⟩
      refine hJ _ _ ⟨p4, [.lst (es.map prD)], .rol [.int (many : Nat), .ref (loc.length + 1)], many, es, _, _, _, _, _, rfl, rfl, ⟨.ref (loc.length + 1), .inr ⟨loc.length, rfl, by simp⟩, .inl rfl⟩, by omega, by omega, ep⟩
    · have hk9 : kind ≤ 9 := by
        have : (kind : Int) ≠ 10 := by simpa using hne
        omega
      simp
      refine pick_ok (by omega) (by omega) fun r p2 r0 r1 => ?_
      refine pick_ok (by omega) (by omega) fun s p3 s0 s1 => ?_
      obtain ⟨size, rfl⟩ := Int.eq_ofNat_of_zero_le r0
      obtain ⟨turns, rfl⟩ := Int.eq_ofNat_of_zero_le s0
      refine grown_ok hk9 (by omega) (by omega) hm (by omega) hw hw2 fun M p4 g many es h1 h2 => ?_
      obtain ⟨f1, f2, f3, _, f4⟩ := h2
      exact hJ _ _ ⟨p4, g, M, many, es, _, _, _, _, _, rfl, rfl, h1, by omega, by omega, f4⟩
  rintro e h ⟨p2, g, M, many, es, v4, v5, v6, v7, v8, rfl, rfl, hM, hmany, hes, hlt⟩
  obtain ⟨ED, hed, hM⟩ := hM
  have x0 : ∀ p' : Pq, oIx M (.int 0) (p'.ob :: (loc ++ g)) = some (.int (many : Nat), p'.ob :: (loc ++ g)) := fun p' => by
    have := (md_rd hed hM p'.ob).ix [] (k := 0) (d := .int (many : Nat)) (by simp)
    simpa using this
  have x1 : ∀ p' : Pq, oIx M (.int 1) (p'.ob :: (loc ++ g)) = some (ED, p'.ob :: (loc ++ g)) := fun p' => by
    have := (md_rd hed hM p'.ob).ix [] (k := 1) (d := ED) (by simp)
    simpa using this
  have nn : ∀ p' : Pq, oLen [ED] (p'.ob :: (loc ++ g)) = some (.int (es.length : Nat), p'.ob :: (loc ++ g)) := fun p' => by
    have := (hed.rd p'.ob).n []
    simpa using this
  obtain ⟨L, hL⟩ : ∃ L, L = loc ++ g := ⟨_, rfl⟩
  rw [← hL] at hed x0 x1 nn ⊢
  refine seq_cut (fun e h => e = [some (.ref 0), some (.int (most : Nat)), some (.int (wires : Nat)), some (.int (kind : Nat)), v4, v5, v6, v7, v8, some M, some (.rol []), none, none] ∧ h = p2.ob :: L) (by simp [z0]; exact fq_pq_lst (xs := []) (g := []) (by simp) ⟨rfl, rfl⟩) ?_
  rintro e h ⟨rfl, rfl⟩
  refine seq_cutJ (fun e h => ∃ (p' : Pq) (ws : List Nat), e = [some (.ref 0), some (.int (most : Nat)), some (.int (wires : Nat)), some (.int (kind : Nat)), v4, v5, v6, v7, v8, some M, some (.rol (ws.map nD)), none, none] ∧ h = p'.ob :: L ∧ (∀ i ∈ ws, i < many) ∧ ws.length ≤ 60) (fun J hJ => ?_) ?_
  · by_cases h1 : 1 < many
    · have h1' : (1 : Int) < many := by omega
      simp [x0, h1']
      exact watch_ok (by omega) (by omega) fun ws p3 hw1 hw2 => hJ _ _ ⟨p3, ws, rfl, rfl, hw1, hw2⟩
    · have h1' : (many : Int) ≤ 1 := by omega
      have h2 : ¬ (1 : Int) < many := by omega
      simp [x0, h1', h2]
      exact hJ _ _ ⟨p2, [], rfl, rfl, by simp, by simp⟩
  rintro e h ⟨p3, ws, rfl, rfl, wl, wn⟩
  refine seq_cut (fun e h => e = [some (.ref 0), some (.int (most : Nat)), some (.int (wires : Nat)), some (.int (kind : Nat)), v4, v5, v6, v7, v8, some M, some (.rol (ws.map nD)), some (.rol []), none] ∧ h = p3.ob :: L) (by simp [z0]; exact fq_pq_lst (xs := []) (g := []) (by simp) ⟨rfl, rfl⟩) ?_
  rintro e h ⟨rfl, rfl⟩
  refine seq_cutJ (fun e h => ∃ (p' : Pq) (gs : List Nat), e = [some (.ref 0), some (.int (most : Nat)), some (.int (wires : Nat)), some (.int (kind : Nat)), v4, v5, v6, v7, v8, some M, some (.rol (ws.map nD)), some (.rol (gs.map nD)), none] ∧ h = p'.ob :: L ∧ (∀ i ∈ gs, i < es.length) ∧ gs.length ≤ 60) (fun J hJ => ?_) ?_
  · rw [wp_sif, wp_tb, wp_bi, wp_cal, wp_acons, wp_vr]
    refine ⟨_, rfl, ?_⟩
    rw [wp_acons, wp_kn, wp_anil]
    refine ⟨rfl, pick_ok (by omega) (by omega) fun r p4 r0 r1 => ?_⟩
    rw [wp_kn, o_eq_i, owp_some]
    refine ⟨_, rfl, fun _ => ?_, fun _ => ?_⟩
    · rw [wp_sst, wp_fz, wp_lc, wp_range1, wp_ap, wp_acons, wp_bi, wp_vr]
      refine ⟨_, rfl, ?_⟩
      rw [wp_kn, x1, owp_some, wp_anil, nn, owp_some]
      refine ⟨_, rfl, okB_of (by omega) (by omega), ?_⟩
      rw [show ((es.length : Nat) : Int).toNat = es.length by omega]
      exact some_rg (by omega) (by omega) (by omega) (by omega) rfl (by simp) fun bs p5 b1 b2 => hJ _ _ ⟨p5, bs, rfl, rfl, b1, by omega⟩
    · rw [wp_nop]
      exact hJ _ _ ⟨p4, [], rfl, rfl, by simp, by simp⟩
  rintro e h ⟨p4, gs, rfl, rfl, gl, gn⟩
  rw [wp_ret, wp_cal]
  refine shape_wp (many := many) (ED := ED) (ws := ws) (gs := gs) (fun Q E q => by simp [x0]; exact q) (fun Q E q => by simp [x1]; exact q) (fun Q E q => by simp; exact q) (fun Q E q => by simp; exact q) (hed.rd p4.ob).b rfl ?_
  refine ⟨rfl, dress_ok2 (by omega) hes hlt wl wn gl gn hed fun nodes names p5 g' d sh dq => ?_⟩
  rw [hL, List.append_assoc] at dq ⊢
  exact hq many nodes names es ws gs p5 (g ++ g') d sh hmany dq
end K09
namespace K09
open PySem Det
theorem wide_ok {p : Pq} {loc : MH} {Q : D → MH → Prop} {E : Exn → MH → Prop}
    (hq : ∀ (many : Nat) (nodes names : List Str) (es : List (Nat × Nat)) (ws gs : List Nat) (p' : Pq) (g : MH) (d : D), Shape many nodes names es ws gs → many ≤ 40 → es.length = 60 → DressQ (p'.ob :: (loc ++ g)) d many nodes names es ws gs → Q d (p'.ob :: (loc ++ g))) :
    (m__law_wide [.ref 0] (p.ob :: loc)).wp Q E := by
  have hz : (10000 : Nat) ≤ sizeLine := by decide
  have z1 : (1 : Nat) ≤ sizeLine := by decide
  unfold m__law_wide
  rw [wp_runF]
  show (sq _ _ [some (.ref 0), none, none, none, none, none] (p.ob :: loc)).wp _
  refine seq_cutJ (fun e h => ∃ (p' : Pq) (g : MH) (M : D) (many : Nat) (es : List (Nat × Nat)), e = [some (.ref 0), some M, none, none, none, none] ∧ h = p'.ob :: (loc ++ g) ∧ MdAt (loc ++ g) M many es ∧ Fits many es 30 60) (fun J hJ => ?_) ?_
  · simp
    refine pick_ok (by omega) (by omega) fun r p2 r0 r1 => ?_
    obtain ⟨k, rfl⟩ := Int.eq_ofNat_of_zero_le r0
    refine grown_ok (kind := k) (size := 27) (turns := 80) (most := 30) (wires := 60) (by omega) (by omega) (by omega) (by omega) (by omega) (by omega) (by omega) fun M p4 g many es h1 h2 => ?_
    exact hJ _ _ ⟨p4, g, M, many, es, rfl, rfl, h1, h2⟩
  rintro e h ⟨p2, g, M, many, es, rfl, rfl, ⟨ED, hed, hM⟩, f1, f2, f3, f4, f5⟩
  have x0 : ∀ p' : Pq, oIx M (.int 0) (p'.ob :: (loc ++ g)) = some (.int (many : Nat), p'.ob :: (loc ++ g)) := fun p' => by
    have := (md_rd hed hM p'.ob).ix [] (k := 0) (d := .int (many : Nat)) (by simp)
    simpa using this
  have x1 : ∀ p' : Pq, oIx M (.int 1) (p'.ob :: (loc ++ g)) = some (ED, p'.ob :: (loc ++ g)) := fun p' => by
    have := (md_rd hed hM p'.ob).ix [] (k := 1) (d := ED) (by simp)
    simpa using this
  obtain ⟨L, hL⟩ : ∃ L, L = loc ++ g := ⟨_, rfl⟩
  rw [← hL] at hed x0 x1 ⊢
  obtain ⟨I, hI⟩ : ∃ I : Nat → Nv → MH → Prop, ∀ i e h, I i e h ↔ ∃ (p' : Pq) (ED : D) (es : List (Nat × Nat)) (v3 : Option D), e = [some (.ref 0), some M, some ED, v3, none, none] ∧ h = p'.ob :: L ∧ EdAt L ED es ∧ 1 ≤ es.length ∧ es.length ≤ 60 ∧ (i ≤ es.length ∨ es.length = 60) ∧ ∀ q ∈ es, q.1 < many ∧ q.2 < many := ⟨_, fun _ _ _ => Iff.rfl⟩
  refine seq_cut (I 0) ?_ ?_
  · simp [x1]
    rw [hI]
    exact ⟨p2, ED, es, none, rfl, rfl, hed, f4, f3, .inl (by omega), f5⟩
  intro e h hi0
  refine seq_cut (I 60) ?_ ?_
  · obtain ⟨p3, ED, es, v3, rfl, rfl, hed, e1, e2, e3, e4⟩ := (hI _ _ _).mp hi0
    rw [wp_sfor, wp_range1, wp_kn]
    refine ⟨_, rfl, okB_of (by omega) (by omega), ?_⟩
    refine loop_n I hi0 ?_ (fun e h q => ⟨rfl, q⟩)
    clear hi0 e1 e2 e3 e4 hed v3 es ED p3
    intro i e h hi q
    obtain ⟨p3, ED, es, v3, rfl, rfl, hed, e1, e2, e3, e4⟩ := (hI _ _ _).mp q
    have hi60 : i < 60 := hi
    refine ⟨rfl, _, rfl, ?_⟩
    have nn : ∀ p' : Pq, oLen [ED] (p'.ob :: L) = some (.int (es.length : Nat), p'.ob :: L) := fun p' => by
      have := (hed.rd p'.ob).n []
      simpa using this
    by_cases h60 : es.length = 60
    · have h60' : (60 : Int) ≤ es.length := by omega
      simp [nn, h60']
      rw [hI]
      exact ⟨p3, ED, es, _, rfl, rfl, hed, e1, e2, .inr h60, e4⟩
    · refine seq_cut (fun e h => e = [some (.ref 0), some M, some ED, some (.int (i : Nat)), none, none] ∧ p3.ob :: L = h) ?_ ?_
      · have h60' : ¬ (60 : Int) ≤ es.length := by omega
        simp [nn, h60']
      rintro e h ⟨rfl, rfl⟩
      -- one more
      rw [wp_sst, wp_fz, wp_bi, wp_vr]
      refine ⟨_, rfl, ?_⟩
      rw [wp_dlst, wp_acons, wp_bi, wp_vr]
      refine ⟨_, rfl, ?_⟩
      rw [wp_cal, wp_acons, wp_vr]
      refine ⟨_, rfl, ?_⟩
      rw [wp_acons, wp_ap, wp_acons, wp_vr]
      refine ⟨_, rfl, ?_⟩
      rw [wp_anil, nn, owp_some, wp_anil]
      refine ⟨rfl, pick_ok (by omega) (by omega) fun r p4 r0 r1 => ?_⟩
      obtain ⟨c, rfl⟩ := Int.eq_ofNat_of_zero_le r0
      have hc : c < es.length := by omega
      have red := hed.rd p4.ob
      have eix : oIx ED (.int (c : Nat)) (p4.ob :: L) = some (prD (es.getD c (0, 0)), p4.ob :: L) := by
        have := red.ix [] (k := (c : Nat)) (d := prD (es.getD c (0, 0))) (by rw [atI_nat, List.getElem?_map, List.getD_eq_getElem?_getD, List.getElem?_eq_getElem hc]; rfl)
        simpa using this
      have eg : (es.getD c (0, 0)).1 < many ∧ (es.getD c (0, 0)).2 < many := by
        rw [List.getD_eq_getElem?_getD, List.getElem?_eq_getElem hc]; exact e4 _ (List.getElem_mem _)
      show owp (oIx ED (.int (c : Nat)) _) _
      rw [eix, owp_some, wp_anil]
      refine ⟨z1, ?_⟩
      rw [addX_l (red.l _) (ys := [es.getD c (0, 0)].map prD) (by simp [lstD]) red.u (by simp; omega), owp_some, ← List.map_append]
      rw [fq_new (mh := p3.ob :: L) (xs := (es ++ [es.getD c (0, 0)]).map prD) (by simp) (by simp)]
      refine ⟨blws_pr, ?_, ?_⟩
      · have := kept_pqs (p := p3) (p' := p4) (loc := L) (g := [Ob.lst ([es.getD c (0, 0)].map prD), Ob.lst ((es ++ [es.getD c (0, 0)]).map prD)])
        simpa using this
      · have ht : List.take (p3.ob :: L).length (p4.ob :: L ++ [Ob.lst ([es.getD c (0, 0)].map prD)] ++ [Ob.lst ((es ++ [es.getD c (0, 0)]).map prD)]) = p4.ob :: L := by simp
        show I (i + 1) _ (List.take (p3.ob :: L).length (p4.ob :: L ++ [Ob.lst ([es.getD c (0, 0)].map prD)] ++ [Ob.lst ((es ++ [es.getD c (0, 0)]).map prD)]))
        rw [ht]
        exact (hI _ _ _).mpr ⟨p4, .rol ((es ++ [es.getD c (0, 0)]).map prD), es ++ [es.getD c (0, 0)], _, rfl, rfl, .inl rfl, by simp, by simp; omega, .inl (by simp; omega), fun q hq => by
          rcases List.mem_append.mp hq with hq | hq
          · exact e4 q hq
          · rw [List.mem_singleton.mp hq]; exact eg⟩
  intro e h q
  obtain ⟨p3, ED, es, v3, rfl, rfl, hed, e1, e2, e3, e4⟩ := (hI _ _ _).mp q
  have es60 : es.length = 60 := by omega
  clear q hI I hi0
  refine seq_cutJ (fun e h => ∃ (p' : Pq) (gs : List Nat), e = [some (.ref 0), some M, some ED, v3, some (.rol (gs.map nD)), none] ∧ h = p'.ob :: L ∧ (∀ i ∈ gs, i < es.length) ∧ gs.length ≤ 60) (fun J hJ => ?_) ?_
  · rw [wp_sst, wp_fz, wp_lc, wp_range1, wp_kn]
    refine ⟨_, rfl, okB_of (by omega) (by omega), ?_⟩
    exact some_rg (n := 60) (by omega) (by omega) (by omega) (by omega) rfl (by simp) fun bs p5 b1 b2 => hJ _ _ ⟨p5, bs, rfl, rfl, fun i hi => by have := b1 i hi; omega, b2⟩
  rintro e h ⟨p4, gs, rfl, rfl, gl, gn⟩
  rw [wp_ret, wp_cal, wp_acons, wp_vr]
  refine ⟨_, rfl, ?_⟩
  have z4 : (4 : Nat) ≤ sizeLine := by decide
  rw [wp_acons, wp_fz, wp_dlst, wp_acons, wp_bi, wp_vr]
  refine ⟨_, rfl, ?_⟩
  rw [wp_kn, x0, owp_some, wp_acons, wp_vr]
  refine ⟨_, rfl, ?_⟩
  rw [wp_acons, wp_cal, wp_acons, wp_vr]
  refine ⟨_, rfl, ?_⟩
  rw [wp_acons, wp_bi, wp_vr]
  refine ⟨_, rfl, ?_⟩
  rw [wp_kn, x0, owp_some, wp_anil]
  refine ⟨rfl, watch_ok (by omega) (by omega) fun ws p5 wl wn => ?_⟩
  rw [wp_acons, wp_vr]
  refine ⟨_, rfl, ?_⟩
  rw [wp_anil]
  refine ⟨z4, fq_pq_lst (g := []) (by have := (hed.rd p5.ob).b; simp at this; simp [this, blws_n]) ?_⟩
  rw [wp_anil]
  refine ⟨rfl, dress_ok2 (by omega) e2 e4 wl wn gl gn hed fun nodes names p6 g' d sh dq => ?_⟩
  rw [hL, List.append_assoc] at dq ⊢
  exact hq many nodes names es ws gs p6 (g ++ g') d sh (by omega) es60 dq
end K09
namespace K09
open PySem Det
mutual
def pln : D → Bool
  | .non => true
  | .bl _ => true
  | .int _ => true
  | .str _ => true
  | .tup xs => decide (xs.length ≤ 5000) && plns xs
  | .rol xs => decide (xs.length ≤ 5000) && plns xs
  | _ => false
def plns : List D → Bool
  | [] => true
  | d :: ds => pln d && plns ds
end
mutual
def szD : D → Nat
  | .tup xs => 1 + szDs xs
  | .rol xs => 1 + szDs xs
  | _ => 1
def szDs : List D → Nat
  | [] => 0
  | d :: ds => szD d + szDs ds
end
theorem plns_iff {xs : List D} : plns xs = true ↔ ∀ x ∈ xs, pln x = true := by
  induction xs with
  | nil => simp [plns]
  | cons x xs ih => simp [plns, ih]
theorem szDs_append (xs ys : List D) : szDs (xs ++ ys) = szDs xs + szDs ys := by
  induction xs with
  | nil => simp [szDs]
  | cons x xs ih => simp [szDs, ih]; omega
theorem szD_pos (d : D) : 1 ≤ szD d := by
  cases d <;> simp [szD]
theorem o_eq_bb {b : Bool} {mh : MH} : oEq (.bl b) (.bl b) mh = some (.bl true, mh) := by
  have : eqD mh (.bl b) (.bl b) = some true := by
    simp only [eqD, datD]
    cases b <;> decide +kernel
  simp only [oEq, this]
theorem wp_pop0_of {fo : ME} {env : Nv} {mh : MH} {Q : D → MH → Prop} {E : Exn → MH → Prop} {n : Nat} {xs : List D} {d : D} (h : ∀ (Q : D → MH → Prop) (E : Exn → MH → Prop), Q (.ref n) mh → (fo env mh).wp Q E) (hn : mh[n]? = some (.lst (xs ++ [d]))) (hq : Q d (mh.set n (.lst xs))) : (pop0 fo env mh).wp Q E := by
  unfold pop0
  rw [wp_bind]
  refine h _ _ ?_
  simp only [hn]
  have : (xs ++ [d])[(xs ++ [d]).length - 1]? = some d := by simp
  simp only [this, List.dropLast_concat]
  exact .ok hq
abbrev twin (d : D) : D := .tup [d, d]
theorem same_ok {d : D} {mh : MH} (hp : pln d = true) (hs : szD d < 90000) : m__law_same [d, d] mh = .ok (.bl true) mh := by
  have hz : (100000 : Nat) ≤ sizeLine := by decide
  have z1 : (1 : Nat) ≤ sizeLine := by decide
  have z2 : (2 : Nat) ≤ sizeLine := by decide
  refine ok_of_wp ?_
  unfold m__law_same
  rw [wp_zF, wp_runF]
  show (sq _ _ [some d, some d, none, none, none, none] mh).wp _
  refine seq_cut (fun e h => e = [some d, some d, some (.ref mh.length), none, none, none] ∧ h = mh ++ [.lst ([d].map twin)]) (by simp [z1, z2]) ?_
  rintro e h ⟨rfl, rfl⟩
  obtain ⟨I, hI⟩ : ∃ I : Nat → Nv → MH → Prop, ∀ m e h, I m e h ↔ ∃ (td : List D) (v3 v4 v5 : Option D), e = [some d, some d, some (.ref mh.length), v3, v4, v5] ∧ h = mh ++ [.lst (td.map twin)] ∧ (∀ x ∈ td, pln x = true) ∧ szDs td = m ∧ m < 90000 := ⟨_, fun _ _ _ => Iff.rfl⟩
  obtain ⟨F, hF⟩ : ∃ F : Nv → MH → Prop, ∀ e h, F e h ↔ ∃ m, I m e h := ⟨_, fun _ _ => Iff.rfl⟩
  refine seq_cut F ?_ ?_
  · refine while_wp I (szD d) (by omega) ((hI _ _ _).mpr ⟨[d], none, none, none, rfl, rfl, by simpa using hp, by simp [szDs], hs⟩) ?_
    intro m e h q
    obtain ⟨td, v3, v4, v5, rfl, rfl, h1, h2, h3⟩ := (hI _ _ _).mp q
    have tru1 : truD (.ref mh.length) (mh ++ [Ob.lst (td.map twin)]) = some (!td.isEmpty) := by
      simp [truD]
    rw [wp_tru, wp_vr]
    refine ⟨_, rfl, _, tru1, fun hb => ?_, fun _ => (hF _ _).mpr ⟨m, q⟩⟩
    have hne : td ≠ [] := fun z => by rw [z] at hb; simp at hb
    obtain ⟨rest, x, rfl⟩ : ∃ rest x, td = rest ++ [x] := ⟨td.dropLast, td.getLast hne, (List.dropLast_concat_getLast hne).symm⟩
    have hx := h1 x (by simp)
    have hr : ∀ y ∈ rest, pln y = true := fun y hy => h1 y (List.mem_append_left _ hy)
    rw [szDs_append] at h2
    simp only [szDs, Nat.add_zero] at h2
    have xp := szD_pos x
    refine seq_cut (fun e h => e = [some d, some d, some (.ref mh.length), some x, some x, v5] ∧ mh ++ [.lst (rest.map twin)] = h) ?_ ?_
    · rw [wp_asg]
      refine wp_pop0_of (n := mh.length) (xs := rest.map twin) (d := twin x) (fun Q E q => by simp; simpa using q) (by simp) ?_
      exact ⟨_, rfl, rfl, by simp⟩
    rintro e h ⟨rfl, rfl⟩
    have one : ∀ v5, ∃ m', m' < m ∧ I m' [some d, some d, some (.ref mh.length), some x, some x, v5] (mh ++ [.lst (rest.map twin)]) := fun v5 => ⟨szDs rest, by omega, (hI _ _ _).mpr ⟨rest, _, _, _, rfl, rfl, hr, rfl, by omega⟩⟩
    have many : ∀ (xs : List D) (O : Po), (∀ y, itemsD y x = some xs) → plns xs = true → szD x = 1 + szDs xs → xs.length ≤ 5000 → (∀ h, oLen [x] h = some (.int (xs.length : Nat), h)) → (∀ e h, (∃ m', m' < m ∧ I m' e h) → O.nx e h) →
        (sfor (range1 (ap oLen (acons (vr 4) (anil)))) (.nm 5) (drp (app (vr 2) (dtup (acons (bi oIx (vr 3) (vr 5)) (acons (bi oIx (vr 4) (vr 5)) (anil)))))) [some d, some d, some (.ref mh.length), some x, some x, v5] (mh ++ [.lst (rest.map twin)])).wp O := fun xs O hxs hpx hsz hl hlen hO => by
      rw [wp_sfor, wp_range1, wp_ap, wp_acons, wp_vr]
      refine ⟨_, rfl, ?_⟩
      rw [wp_anil, hlen, owp_some]
      refine ⟨_, rfl, okB_of (by omega) (by omega), ?_⟩
      have szle : rest.length ≤ szDs rest := by
        clear h1 hne hb tru1 one q hx h2 hr
        induction rest with
        | nil => simp
        | cons a l ih => have := szD_pos a; simp [szDs]; omega
      obtain ⟨J, hJ⟩ : ∃ J : Nat → List D → Nv → MH → Prop, ∀ i ys e h, J i ys e h ↔ ∃ v5, e = [some d, some d, some (.ref mh.length), some x, some x, v5] ∧ h = mh ++ [.lst ((rest ++ xs.take i).map twin)] := ⟨_, fun _ _ _ _ => Iff.rfl⟩
      refine loop_rg xs (by simp) J ((hJ _ _ _ _).mpr ⟨v5, rfl, by simp⟩) ?_ ?_
      · intro i y ys e h hd hi hy q
        obtain ⟨v5, rfl, rfl⟩ := (hJ _ _ _ _).mp q
        refine ⟨rfl, _, rfl, ?_⟩
        have hat : L2.atI xs (i : Nat) = some y := by rw [atI_nat]; exact hy
        have hix : ∀ h, oIx x (.int (i : Nat)) h = some (y, h) := fun h => o_ix (hxs h) hat
        have hsz2 : rest.length + min i xs.length < sizeLine := by omega
        simp [hix, z2, hsz2]
        rw [hJ]
        exact ⟨_, rfl, by rw [List.take_add_one, hy]; simp⟩
      · intro e h q
        obtain ⟨v5, rfl, rfl⟩ := (hJ _ _ _ _).mp q
        refine ⟨rfl, hO _ _ ⟨szDs rest + szDs xs, by omega, (hI _ _ _).mpr ⟨rest ++ xs, _, _, _, rfl, by rw [List.take_length], fun z hz => ?_, szDs_append _ _, by omega⟩⟩⟩
        rcases List.mem_append.mp hz with hz | hz
        · exact hr z hz
        · exact plns_iff.mp hpx z hz
    generalize mh ++ [Ob.lst (rest.map twin)] = H at one many ⊢
    cases x with
    | non => simp [oIs, oIsNot, isD]; exact one _
    | bl b => simp [oIs, isD, o_eq_bb]; exact one _
    | int i => simp [oIs, isD]; exact one _
    | str s => simp [oIs, isD]; exact one _
    | tup xs =>
      simp only [pln, Bool.and_eq_true, decide_eq_true_eq] at hx
      simp [oIs, isD, -wp_sfor]
      exact many xs _ (fun _ => rfl) hx.2 (by simp [szD]) hx.1 (fun _ => rfl) (fun _ _ q => q)
    | rol xs =>
      simp only [pln, Bool.and_eq_true, decide_eq_true_eq] at hx
      simp [oIs, isD, -wp_sfor]
      exact many xs _ (fun _ => rfl) hx.2 (by simp [szD]) hx.1 (fun _ => rfl) (fun _ _ q => q)
    | ty _ => simp [pln] at hx
    | ref _ => simp [pln] at hx
    | exc _ _ _ => simp [pln] at hx
  intro e h q
  obtain ⟨m, q⟩ := (hF _ _).mp q
  obtain ⟨td, v3, v4, v5, rfl, rfl, h1, h2, h3⟩ := (hI _ _ _).mp q
  simp
end K09
/-! lots of a graph, plain -/
namespace Lots
variable {α : Type} [DecidableEq α]
/-- going on from s by nb, never into out -/
inductive Reach (nb : α → List α) (out : α → Prop) (s : α) : α → Prop
  | base : Reach nb out s s
  | step {x y : α} : Reach nb out s x → y ∈ nb x → ¬ out y → Reach nb out s y
/-- a lot that grows: all but those from at on have been gone on from -/
structure Grow (nb : α → List α) (out : α → Prop) (s : α) (lot : List α) (n : Nat) : Prop where
  nd : lot.Nodup
  st : s ∈ lot
  re : ∀ x ∈ lot, Reach nb out s x
  ok : ∀ x ∈ lot, ¬ out x
  cl : ∀ j x, j < n → lot[j]? = some x → ∀ y ∈ nb x, out y ∨ y ∈ lot
theorem Grow.start {nb : α → List α} {out : α → Prop} {s : α} (h : ¬ out s) : Grow nb out s [s] 0 :=
  ⟨by simp, by simp, fun x hx => by rw [List.mem_singleton.mp hx]; exact .base, fun x hx => by rw [List.mem_singleton.mp hx]; exact h, fun j x hj => absurd hj (Nat.not_lt_zero j)⟩
/-- one more -/
theorem Grow.add {nb : α → List α} {out : α → Prop} {s : α} {lot : List α} {n : Nat} (g : Grow nb out s lot n) {x y : α} (hx : x ∈ lot) (hy : y ∈ nb x) (ho : ¬ out y) (hn : y ∉ lot) (hn2 : n ≤ lot.length) : Grow nb out s (lot ++ [y]) n where
  nd := by
    rw [List.nodup_append]
    exact ⟨g.nd, by simp, fun a ha b hb e => by rw [List.mem_singleton] at hb; subst hb; subst e; exact hn ha⟩
  st := List.mem_append_left _ g.st
  re := fun z hz => by
    rcases List.mem_append.mp hz with hz | hz
    · exact g.re z hz
    · rw [List.mem_singleton.mp hz]; exact (g.re x hx).step hy ho
  ok := fun z hz => by
    rcases List.mem_append.mp hz with hz | hz
    · exact g.ok z hz
    · rw [List.mem_singleton.mp hz]; exact ho
  cl := fun j z hj hz w hw => by
    rw [List.getElem?_append_left (by omega)] at hz
    rcases g.cl j z hj hz w hw with h | h
    · exact .inl h
    · exact .inr (List.mem_append_left _ h)
/-- the one at n is done -/
theorem Grow.next {nb : α → List α} {out : α → Prop} {s : α} {lot : List α} {n : Nat} (g : Grow nb out s lot n) {x : α} (hx : lot[n]? = some x) (hd : ∀ y ∈ nb x, out y ∨ y ∈ lot) : Grow nb out s lot (n + 1) :=
  ⟨g.nd, g.st, g.re, g.ok, fun j z hj hz => by
    by_cases h : j = n
    · subst h; rw [hx] at hz; cases hz; exact hd
    · exact g.cl j z (by omega) hz⟩
theorem Grow.all {nb : α → List α} {out : α → Prop} {s : α} {lot : List α} (g : Grow nb out s lot lot.length) (x : α) : x ∈ lot ↔ Reach nb out s x := by
  refine ⟨g.re x, fun h => ?_⟩
  induction h with
  | base => exact g.st
  | step h hy ho ih =>
    obtain ⟨j, hj, e⟩ := List.mem_iff_getElem.mp ih
    rcases g.cl j _ hj (by rw [List.getElem?_eq_getElem hj, e]) _ hy with q | q
    · exact absurd q ho
    · exact q
/-! ### all lots -/
theorem Reach.trans {nb : α → List α} {out : α → Prop} {s x y : α} (h : Reach nb out s x) (k : Reach nb out x y) : Reach nb out s y := by
  induction k with
  | base => exact h
  | step _ hy ho ih => exact ih.step hy ho
theorem Reach.symm {nb : α → List α} {out : α → Prop} (sy : ∀ a b, b ∈ nb a → a ∈ nb b) {s x : α} (hs : ¬ out s) (h : Reach nb out s x) : Reach nb out x s ∧ ¬ out x := by
  induction h with
  | base => exact ⟨.base, hs⟩
  | step h hy ho ih => exact ⟨(Reach.base.step (sy _ _ hy) ih.2).trans ih.1, ho⟩
/-- out more than gone: only whole lots -/
theorem Reach.less {nb : α → List α} {gone out : α → Prop} {s x : α} (hg : ∀ a, gone a → out a) (h : Reach nb out s x) : Reach nb gone s x := by
  induction h with
  | base => exact .base
  | step _ hy ho ih => exact ih.step hy fun g => ho (hg _ g)
theorem Reach.more {nb : α → List α} {gone out : α → Prop} {s x : α} (hc : ∀ a b, ¬ out a → b ∈ nb a → ¬ gone b → ¬ out b) (hs : ¬ out s) (h : Reach nb gone s x) : Reach nb out s x ∧ ¬ out x := by
  induction h with
  | base => exact ⟨.base, hs⟩
  | step _ hy ho ih =>
    have := hc _ _ ih.2 hy ho
    exact ⟨ih.1.step hy this, this⟩
open Classical in
/-- the nodes of order in the lot of s -/
noncomputable def cls (order : List α) (nb : α → List α) (gone : α → Prop) (s : α) : List α := order.filter fun x => decide (Reach nb gone s x)
open Classical in
/-- the lots, by their least nodes -/
noncomputable def lots (order : List α) (nb : α → List α) (gone : α → Prop) : List α → List (List α) → List (List α)
  | [], acc => acc
  | s :: rest, acc => if gone s ∨ ∃ l ∈ acc, s ∈ l then lots order nb gone rest acc else lots order nb gone rest (acc ++ [cls order nb gone s])
/-- met already -/
def Seen (gone : α → Prop) (acc : List (List α)) (y : α) : Prop := gone y ∨ ∃ l ∈ acc, y ∈ l
/-- the lots so far are whole -/
def Whole (nb : α → List α) (gone : α → Prop) (acc : List (List α)) : Prop := ∀ l ∈ acc, ∀ x ∈ l, ¬ gone x ∧ ∀ y ∈ nb x, gone y ∨ y ∈ l
theorem reach_seen {nb : α → List α} {gone : α → Prop} {acc : List (List α)} (sy : ∀ a b, b ∈ nb a → a ∈ nb b) (A : Whole nb gone acc) {s x : α} (hs : ¬ Seen gone acc s) : Reach nb (Seen gone acc) s x ↔ Reach nb gone s x := by
  refine ⟨Reach.less fun a h => .inl h, fun h => (Reach.more (fun a b ha hb hg => ?_) hs h).1⟩
  rintro (z | ⟨l, hl, hbl⟩)
  · exact hg z
  · obtain ⟨_, k⟩ := A l hl b hbl
    rcases k a (sy _ _ hb) with z | z
    · exact ha (.inl z)
    · exact ha (.inr ⟨l, hl, z⟩)
theorem mem_cls {order : List α} {nb : α → List α} {gone : α → Prop} {s x : α} : x ∈ cls order nb gone s ↔ x ∈ order ∧ Reach nb gone s x := by
  classical
  unfold cls
  rw [List.mem_filter, decide_eq_true_eq]
theorem Reach.in {order : List α} {nb : α → List α} {gone : α → Prop} (dom : ∀ a ∈ order, ∀ b ∈ nb a, b ∈ order) {s x : α} (hs : s ∈ order) (h : Reach nb gone s x) : x ∈ order := by
  induction h with
  | base => exact hs
  | step _ hy _ ih => exact dom _ ih _ hy
theorem Reach.free {nb : α → List α} {gone : α → Prop} {s x : α} (hs : ¬ gone s) (h : Reach nb gone s x) : ¬ gone x := by
  cases h with
  | base => exact hs
  | step _ _ ho => exact ho
theorem Whole.push {order : List α} {nb : α → List α} {gone : α → Prop} {acc : List (List α)} (dom : ∀ a ∈ order, ∀ b ∈ nb a, b ∈ order) (A : Whole nb gone acc) {s : α} (hs : ¬ Seen gone acc s) : Whole nb gone (acc ++ [cls order nb gone s]) := by
  intro l hl x hx
  rcases List.mem_append.mp hl with hl | hl
  · exact A l hl x hx
  · rw [List.mem_singleton.mp hl] at hx ⊢
    obtain ⟨h1, h2⟩ := mem_cls.mp hx
    refine ⟨h2.free fun z => hs (.inl z), fun y hy => ?_⟩
    by_cases hg : gone y
    · exact .inl hg
    · exact .inr (mem_cls.mpr ⟨dom _ h1 _ hy, h2.step hy hg⟩)
theorem grown_cls {order : List α} {nb : α → List α} {gone : α → Prop} {acc : List (List α)} (sy : ∀ a b, b ∈ nb a → a ∈ nb b) (dom : ∀ a ∈ order, ∀ b ∈ nb a, b ∈ order) (A : Whole nb gone acc) {s : α} (ho : s ∈ order) (hs : ¬ Seen gone acc s) {lot : List α} (g : Grow nb (Seen gone acc) s lot lot.length) (x : α) : x ∈ lot ↔ x ∈ cls order nb gone s := by
  rw [g.all, mem_cls, reach_seen sy A hs]
  exact ⟨fun h => ⟨h.in dom ho, h⟩, fun h => h.2⟩
theorem lots_skip {order : List α} {nb : α → List α} {gone : α → Prop} {s : α} {rest : List α} {acc : List (List α)} (h : Seen gone acc s) : lots order nb gone (s :: rest) acc = lots order nb gone rest acc := by
  conv => lhs; unfold lots
  exact if_pos h
theorem lots_take {order : List α} {nb : α → List α} {gone : α → Prop} {s : α} {rest : List α} {acc : List (List α)} (h : ¬ Seen gone acc s) : lots order nb gone (s :: rest) acc = lots order nb gone rest (acc ++ [cls order nb gone s]) := by
  conv => lhs; unfold lots
  exact if_neg h
/-! ### other names -/
section
variable {β : Type} [DecidableEq β]
theorem reach_map {nb : α → List α} {nb' : β → List β} {gone : α → Prop} {gone' : β → Prop} (f : α → β) (order : List α) (dom : ∀ a ∈ order, ∀ b ∈ nb a, b ∈ order) (hn : ∀ a ∈ order, ∀ y, y ∈ nb' (f a) ↔ ∃ b ∈ nb a, f b = y) (hg : ∀ a ∈ order, gone' (f a) ↔ gone a) {s : α} (hs : s ∈ order) {y : β} : Reach nb' gone' (f s) y ↔ ∃ x, Reach nb gone s x ∧ f x = y := by
  constructor
  · intro h
    induction h with
    | base => exact ⟨s, .base, rfl⟩
    | step _ hy ho ih =>
      obtain ⟨x, hx, rfl⟩ := ih
      have hxo := hx.in dom hs
      obtain ⟨b, hb, rfl⟩ := (hn x hxo _).mp hy
      exact ⟨b, hx.step hb fun z => ho ((hg b (dom _ hxo _ hb)).mpr z), rfl⟩
  · rintro ⟨x, h, rfl⟩
    induction h with
    | base => exact .base
    | step h hy ho ih =>
      have hxo := h.in dom hs
      exact ih.step ((hn _ hxo _).mpr ⟨_, hy, rfl⟩) fun z => ho ((hg _ (dom _ hxo _ hy)).mp z)
theorem cls_map {nb : α → List α} {nb' : β → List β} {gone : α → Prop} {gone' : β → Prop} (f : α → β) (order : List α) (inj : ∀ a ∈ order, ∀ b ∈ order, f a = f b → a = b) (dom : ∀ a ∈ order, ∀ b ∈ nb a, b ∈ order) (hn : ∀ a ∈ order, ∀ y, y ∈ nb' (f a) ↔ ∃ b ∈ nb a, f b = y) (hg : ∀ a ∈ order, gone' (f a) ↔ gone a) {s : α} (hs : s ∈ order) : cls (order.map f) nb' gone' (f s) = (cls order nb gone s).map f := by
  classical
  unfold cls
  rw [List.filter_map]
  congr 1
  refine List.filter_congr fun x hx => ?_
  simp only [Function.comp]
  rw [decide_eq_decide, reach_map f order dom hn hg hs]
  exact ⟨fun ⟨z, h1, h2⟩ => inj z (h1.in dom hs) x hx h2 ▸ h1, fun h => ⟨x, h, rfl⟩⟩
theorem lots_map {nb : α → List α} {nb' : β → List β} {gone : α → Prop} {gone' : β → Prop} (f : α → β) (order : List α) (inj : ∀ a ∈ order, ∀ b ∈ order, f a = f b → a = b) (dom : ∀ a ∈ order, ∀ b ∈ nb a, b ∈ order) (hn : ∀ a ∈ order, ∀ y, y ∈ nb' (f a) ↔ ∃ b ∈ nb a, f b = y) (hg : ∀ a ∈ order, gone' (f a) ↔ gone a) : ∀ (rest : List α) (acc : List (List α)), (∀ s ∈ rest, s ∈ order) → (∀ l ∈ acc, ∀ x ∈ l, x ∈ order) → lots (order.map f) nb' gone' (rest.map f) (acc.map (List.map f)) = (lots order nb gone rest acc).map (List.map f)
  | [], acc, _, _ => rfl
  | s :: rest, acc, hr, ha => by
    have hs := hr s List.mem_cons_self
    have e : Seen gone' (acc.map (List.map f)) (f s) ↔ Seen gone acc s := by
      unfold Seen
      rw [hg s hs]
      refine or_congr Iff.rfl ⟨?_, ?_⟩
      · rintro ⟨l, hl, hx⟩
        obtain ⟨l0, hl0, rfl⟩ := List.mem_map.mp hl
        obtain ⟨x, hx, e⟩ := List.mem_map.mp hx
        exact ⟨l0, hl0, inj x (ha l0 hl0 x hx) s hs e ▸ hx⟩
      · rintro ⟨l, hl, hx⟩
        exact ⟨l.map f, List.mem_map.mpr ⟨l, hl, rfl⟩, List.mem_map.mpr ⟨s, hx, rfl⟩⟩
    rw [List.map_cons]
    by_cases h : Seen gone acc s
    · rw [lots_skip h, lots_skip (e.mpr h)]
      exact lots_map f order inj dom hn hg rest acc (fun x hx => hr x (List.mem_cons_of_mem _ hx)) ha
    · rw [lots_take h, lots_take fun z => h (e.mp z), cls_map f order inj dom hn hg hs]
      have := lots_map f order inj dom hn hg rest (acc ++ [cls order nb gone s]) (fun x hx => hr x (List.mem_cons_of_mem _ hx)) (fun l hl x hx => by
        rcases List.mem_append.mp hl with hl | hl
        · exact ha l hl x hx
        · rw [List.mem_singleton.mp hl] at hx; exact (mem_cls.mp hx).1)
      rw [List.map_append] at this
      exact this
end
end Lots
namespace K09
open PySem Det
def pos (ns : List Str) (x : Str) : Option Nat := ns.findIdx? fun y => decide (y = x)
theorem zip_find (x : Str) : ∀ (ns : List Str) (k : Nat), ((ns.zipIdx k).find? fun q => decide (q.1 = x)).map (·.2) = (ns.findIdx? fun y => decide (y = x)).map (· + k)
  | [], k => by simp
  | y :: ns, k => by
    rw [List.zipIdx_cons, List.find?_cons, List.findIdx?_cons]
    by_cases h : y = x
    · simp [h]
    · simp only [h, decide_false, Bool.false_eq_true, if_false]
      rw [zip_find x ns (k + 1), Option.map_map]
      congr 1
      funext i
      simp; omega
theorem pos_spec {ns : List Str} (nd : ns.Nodup) {x : Str} {i : Nat} : pos ns x = some i ↔ ns[i]? = some x := by
  unfold pos
  rw [List.findIdx?_eq_some_iff_getElem]
  constructor
  · rintro ⟨h, h1, _⟩
    have : ns[i] = x := by simpa using h1
    rw [List.getElem?_eq_getElem h, this]
  · intro h
    obtain ⟨hi, e⟩ := List.getElem?_eq_some_iff.mp h
    refine ⟨hi, by simpa using e, fun j hj => ?_⟩
    simp
    intro z
    have : j = i := (List.getElem_inj nd).mp (z.trans e.symm)
    omega
section
variable {mh : MH} {Q : D → MH → Prop} {E : Exn → MH → Prop} {rs : List Row} {ns : List Str} {B C : D}
theorem places_wp (hl : rs.length ≤ 500) (hl2 : ns.length ≤ 500) (hn : ns.Nodup) (hq : ∀ k1 k2, (∀ x, valD k1 (.inr x) = (pos ns x).map fun i => .int (i : Nat)) → Q (.tup [.ref mh.length, .ref (mh.length + 1)]) (mh ++ [.dk k1, .dk k2])) : (m_places_of [.tup [.tup (ns.map .str), .tup (rs.map rowD), B, C]] mh).wp Q E := by
  have hz : (1000 : Nat) ≤ sizeLine := by decide
  have h2 : (2 : Nat) ≤ sizeLine := by decide
  unfold m_places_of
  rw [wp_runF]
  simp
  rw [enF_idx]
  have e1 : ((ns.map D.str).zipIdx 0).map (fun q => D.tup [.int (q.2 : Nat), q.1]) = (ns.zipIdx 0).map fun q => D.tup [.int (q.2 : Nat), .str q.1] := by
    rw [List.zipIdx_map, List.map_map]; rfl
  rw [e1]
  refine loopX_put (fun q : Str × Nat => D.tup [.int (q.2 : Nat), .str q.1]) (fun q => q.1) (fun q => .int (q.2 : Nat)) (fun _ => rfl) _ [] (by simp; omega) ?_ ?_
  · intro l hl o
    refine ⟨_, rfl, ?_, ?_⟩ <;> simp [setMany, wipeD]
  have hk1 : ∀ x, valD ((ns.zipIdx 0).foldl (putS (fun q : Str × Nat => q.1) (fun q => .int (q.2 : Nat))) []) (.inr x) = (pos ns x).map fun i => .int (i : Nat) := fun x => by
    rw [valD_puts _ _ x _ [] (by
      have : (ns.zipIdx 0).map (fun q : Str × Nat => q.1) = ns := List.zipIdx_map_fst 0 ns
      rw [this]; exact hn)]
    have hz := zip_find x ns 0
    unfold pos
    cases hf : (ns.zipIdx 0).find? fun q => decide (q.1 = x) with
    | none =>
      rw [hf] at hz
      simp at hz
      simp [← hz, valD]
    | some q =>
      rw [hf] at hz
      simp at hz
      simp [← hz]
  rw [enF_idx]
  have e2 : ((rs.map rowD).zipIdx 0).map (fun q => D.tup [.int (q.2 : Nat), q.1]) = (rs.zipIdx 0).map fun q => D.tup [.int (q.2 : Nat), rowD q.1] := by
    rw [List.zipIdx_map, List.map_map]; rfl
  rw [e2]
  generalize (ns.zipIdx 0).foldl _ _ = k1 at hk1
  refine loopX_put (mh := mh ++ [Ob.dk k1]) (fun q : Row × Nat => D.tup [.int (q.2 : Nat), rowD q.1]) (fun q => q.1.1) (fun q => .int (q.2 : Nat)) (fun _ => rfl) _ [] (by simp; omega) ?_ ?_
  · intro l hl o
    refine ⟨_, rfl, ?_, ?_⟩ <;> simp [setMany, wipeD, rowD]
  · have := hq k1 ((rs.zipIdx 0).foldl (putS (fun q : Row × Nat => q.1.1) (fun q => .int (q.2 : Nat))) []) hk1
    simpa [h2] using this
end
/-! ### near lists -/
def nearOf : Nat → List (Nat × Nat) → Nat → List (Nat × Nat)
  | _, [], _ => []
  | t, (a, b) :: q, i => (if a = i then [(b, t)] else []) ++ (if b = i then [(a, t)] else []) ++ nearOf (t + 1) q i
theorem nearOf_snoc (a b i : Nat) : ∀ (q : List (Nat × Nat)) (t : Nat), nearOf t (q ++ [(a, b)]) i = nearOf t q i ++ ((if a = i then [(b, t + q.length)] else []) ++ (if b = i then [(a, t + q.length)] else []))
  | [], t => by simp [nearOf]
  | (c, d) :: q, t => by
    rw [List.cons_append, nearOf, nearOf_snoc a b i q (t + 1), nearOf]
    simp [Nat.add_comm, Nat.add_left_comm]
theorem mem_nearOf {i j : Nat} : ∀ (q : List (Nat × Nat)) (t : Nat), (∃ u, (j, u) ∈ nearOf t q i) ↔ (i, j) ∈ q ∨ (j, i) ∈ q
  | [], t => by simp [nearOf]
  | (a, b) :: q, t => by
    have ih := mem_nearOf (i := i) (j := j) q (t + 1)
    unfold nearOf
    simp only [List.mem_append, exists_or, ih, List.mem_cons, Prod.mk.injEq]
    by_cases h1 : a = i <;> by_cases h2 : b = i <;> by_cases h3 : a = j <;> by_cases h4 : b = j <;> simp [h1, h2, h3, h4, eq_comm] <;> grind
theorem range_set {n a : Nat} (F : Nat → Ob) (o : Ob) : ((List.range n).map F).set a o = (List.range n).map fun i => if i = a then o else F i := by
  refine List.ext_getElem? fun i => ?_
  by_cases h : i = a
  · subst h
    by_cases hi : i < n
    · rw [List.getElem?_set_self (by simpa using hi), List.getElem?_map, List.getElem?_range hi]; simp
    · rw [List.getElem?_eq_none (by simp; omega), List.getElem?_eq_none (by simp; omega)]
  · rw [List.getElem?_set_ne (fun e => h e.symm), List.getElem?_map, List.getElem?_map]
    by_cases hi : i < n
    · rw [List.getElem?_range hi]; simp [h]
    · rw [List.getElem?_eq_none (by simp; omega)]; rfl
end K09
namespace K09
open PySem Det
/-- nodes ascending, links between them -/
structure Gr (ns : List Str) (rs : List Row) : Prop where
  nd : ns.Nodup
  srt : ns.Pairwise fun x y => leS x y = true
  nl : ns.length ≤ 60
  rl : rs.length ≤ 60
  ends : ∀ l ∈ rs, l.2.1 ∈ ns ∧ l.2.2 ∈ ns
def pI (ns : List Str) (x : Str) : Nat := (pos ns x).getD 0
def rI (ns : List Str) (rs : List Row) : List (Nat × Nat) := rs.map fun l => (pI ns l.2.1, pI ns l.2.2)
theorem pI_spec {ns : List Str} (nd : ns.Nodup) {x : Str} (hx : x ∈ ns) : pos ns x = some (pI ns x) ∧ ns[pI ns x]? = some x ∧ pI ns x < ns.length := by
  obtain ⟨i, hi, e⟩ := List.mem_iff_getElem.mp hx
  have h : ns[i]? = some x := by rw [List.getElem?_eq_getElem hi, e]
  have hp := (pos_spec nd).mpr h
  have e2 : pI ns x = i := by unfold pI; rw [hp]; rfl
  rw [e2]
  exact ⟨hp, h, hi⟩
/-- near lists that stand in h -/
def NearAt (h : MH) (d : D) (N : List (List (Nat × Nat))) : Prop := ∃ b, d = .ref b ∧ h[b]? = some (.lst ((List.range N.length).map fun i => .ref (b + 1 + i))) ∧ ∀ i l, N[i]? = some l → h[b + 1 + i]? = some (.lst (l.map prD))
theorem NearAt.mono {h : MH} {d : D} {N : List (List (Nat × Nat))} (q : NearAt h d N) (g : MH) : NearAt (h ++ g) d N := by
  obtain ⟨b, e, h1, h2⟩ := q
  exact ⟨b, e, by rw [List.getElem?_append_left (List.getElem?_eq_some_iff.mp h1).1]; exact h1, fun i l hl => by
    have := h2 i l hl
    rw [List.getElem?_append_left (List.getElem?_eq_some_iff.mp this).1]; exact this⟩
def nearL (ns : List Str) (rs : List Row) : List (List (Nat × Nat)) := (List.range ns.length).map (nearOf 0 (rI ns rs))
section
variable {mh : MH} {Q : D → MH → Prop} {E : Exn → MH → Prop} {rs : List Row} {ns : List Str} {B C : D}
theorem near_lists_wp (G : Gr ns rs) (hq : ∀ g b, mh.length ≤ b → NearAt (mh ++ g) (.ref b) (nearL ns rs) → Q (.ref b) (mh ++ g)) : (m_near_lists [.tup [.tup (ns.map .str), .tup (rs.map rowD), B, C]] mh).wp Q E := by
  have hz : (10000 : Nat) ≤ sizeLine := by decide
  have z0 : (0 : Nat) ≤ sizeLine := by decide
  have z2 : (2 : Nat) ≤ sizeLine := by decide
  obtain ⟨nd, srt, nl, rl, ends⟩ := G
  unfold m_near_lists
  rw [wp_runF]
  obtain ⟨N, hN⟩ : ∃ N, N = D.tup [.tup (ns.map .str), .tup (rs.map rowD), B, C] := ⟨_, rfl⟩
  have on0 : ∀ h, oIx N (.int 0) h = some (.tup (ns.map .str), h) := fun h => by rw [hN]; simp [oIx, itemsD]
  have on1 : ∀ h, oIx N (.int 1) h = some (.tup (rs.map rowD), h) := fun h => by rw [hN]; simp [oIx, itemsD]
  rw [← hN]
  show (sq _ _ [some N, none, none, none, none, none, none, none] mh).wp _
  refine seq_cutJ (fun e h => ∃ k1 k2, e = [some N, some (.ref mh.length), none, none, none, none, none, none] ∧ h = mh ++ [.dk k1, .dk k2] ∧ ∀ x, valD k1 (.inr x) = (pos ns x).map fun i => .int (i : Nat)) (fun J hJ => ?_) ?_
  · rw [wp_sst, wp_bi, wp_cal, wp_acons, wp_vr]
    refine ⟨_, rfl, ?_⟩
    rw [wp_anil, hN]
    refine ⟨rfl, places_wp (by omega) (by omega) nd fun k1 k2 hk => ?_⟩
    rw [← hN]
    simp
    exact hJ _ _ ⟨k1, k2, rfl, rfl, hk⟩
  rintro e h ⟨k1, k2, rfl, rfl, hk⟩
  obtain ⟨P0, hP0⟩ : ∃ P0, P0 = mh ++ [Ob.dk k1, .dk k2] := ⟨_, rfl⟩
  have hP0l : P0.length = mh.length + 2 := by rw [hP0]; simp
  obtain ⟨RF, hRF⟩ : ∃ RF : Nat → List D, ∀ i, RF i = (List.range i).map fun i => .ref (mh.length + 2 + 1 + i) := ⟨_, fun _ => rfl⟩
  rw [← hP0]
  refine seq_cutJ (fun e h => e = [some N, some (.ref mh.length), some (.ref (mh.length + 2)), none, none, none, none, none] ∧ h = P0 ++ [.lst (RF ns.length)] ++ List.replicate ns.length (.lst [])) (fun J hJ => ?_) ?_
  · rw [wp_sst, wp_lc, wp_iter, wp_bi, wp_vr]
    refine ⟨_, rfl, ?_⟩
    rw [wp_kn, on0, owp_some]
    refine ⟨_, rfl, ?_⟩
    obtain ⟨I, hI⟩ : ∃ I : Nat → List D → MH → Prop, ∀ i acc h, I i acc h ↔ acc = RF i ∧ h = P0 ++ [.lst acc] ++ List.replicate i (.lst []) := ⟨_, fun _ _ _ => Iff.rfl⟩
    refine comp_wp I [] (by simp) ((hI _ _ _).mpr ⟨by rw [hRF]; rfl, by simp⟩) ?_ ?_ ?_
    · intro i acc h q
      obtain ⟨rfl, rfl⟩ := (hI _ _ _).mp q
      simp
    · intro i d acc h hd q
      obtain ⟨rfl, rfl⟩ := (hI _ _ _).mp q
      have hi := (List.getElem?_eq_some_iff.mp hd).1
      simp at hi
      refine ⟨rfl, _, rfl, ?_⟩
      rw [wp_yes]
      refine ⟨fun _ => ?_, fun z => by cases z⟩
      rw [wp_dlst, wp_anil]
      refine ⟨z0, by simp, by rw [hRF]; simp; omega, ?_⟩
      rw [hI]
      have e1 : RF (i + 1) = RF i ++ [.ref (P0 ++ [Ob.lst (RF i)] ++ List.replicate i (Ob.lst [])).length] := by
        rw [hRF, hRF, List.range_succ, List.map_append]
        simp [hP0l]
        omega
      refine ⟨e1.symm, ?_⟩
      rw [List.replicate_succ']
      simp
    · intro acc h q
      obtain ⟨rfl, rfl⟩ := (hI _ _ _).mp q
      refine ⟨rfl, ?_⟩
      simp
      rw [hP0l]
      exact hJ _ _ ⟨rfl, by simp⟩
  rintro e h ⟨rfl, rfl⟩
  obtain ⟨P, hP⟩ : ∃ P, P = P0 ++ [Ob.lst (RF ns.length)] := ⟨_, rfl⟩
  have hPl : P.length = mh.length + 3 := by rw [hP]; simp [hP0l]
  have pk : P[mh.length]? = some (.dk k1) := by rw [hP, hP0]; simp
  have pr : P[mh.length + 2]? = some (.lst (RF ns.length)) := by rw [hP, ← hP0l]; simp
  rw [← hP]
  obtain ⟨X, hX⟩ : ∃ X : List (Nat × Nat) → List Ob, ∀ q, X q = (List.range ns.length).map fun i => .lst ((nearOf 0 q i).map prD) := ⟨_, fun _ => rfl⟩
  obtain ⟨I, hI⟩ : ∃ I : Nat → List Row → Nv → MH → Prop, ∀ i xs e h, I i xs e h ↔ ∃ (v3 v4 v5 v6 : Option D), e = [some N, some (.ref mh.length), some (.ref (mh.length + 2)), v3, v4, v5, v6, none] ∧ h = P ++ X ((rI ns rs).take i) := ⟨_, fun _ _ _ _ => Iff.rfl⟩
  have fin : NearAt (P ++ X (rI ns rs)) (.ref (mh.length + 2)) (nearL ns rs) := by
    refine ⟨mh.length + 2, rfl, ?_, fun i l hl => ?_⟩
    · rw [List.getElem?_append_left (List.getElem?_eq_some_iff.mp pr).1, pr, hRF]
      simp [nearL]
    · rw [List.getElem?_append_right (by omega), hX]
      rw [nearL, List.getElem?_map] at hl
      rw [show mh.length + 2 + 1 + i - P.length = i by omega, List.getElem?_map]
      cases hr : (List.range ns.length)[i]? with
      | none => rw [hr] at hl; cases hl
      | some j =>
        rw [hr] at hl
        cases hl
        rfl
  refine seq_cutJ (fun e h => ∃ (v3 v4 v5 v6 : Option D), e = [some N, some (.ref mh.length), some (.ref (mh.length + 2)), v3, v4, v5, v6, none] ∧ h = P ++ X (rI ns rs)) (fun J hJ => ?_) ?_
  · rw [wp_sfor, wp_enm, wp_bi, wp_vr]
    refine ⟨_, rfl, ?_⟩
    rw [wp_kn, on1, owp_some]
    refine ⟨_, rfl, ?_⟩
    have rlen : (rI ns rs).length = rs.length := by rw [rI, List.length_map]
    refine loop_en rs rowD I ((hI _ _ _ _).mpr ⟨none, none, none, none, rfl, ?_⟩) ?_ (fun e h q => ?_)
    · rw [hX]
      simp [nearOf]
      congr 1
      refine List.ext_getElem? fun i => ?_
      rw [List.getElem?_replicate, List.getElem?_map]
      by_cases hi : i < ns.length
      · rw [if_pos hi, List.getElem?_range hi]; rfl
      · rw [if_neg hi, List.getElem?_eq_none (by simp; omega)]; rfl
    · intro i l xs e h hd hi hx q
      obtain ⟨v3, v4, v5, v6, rfl, rfl⟩ := (hI _ _ _ _).mp q
      refine ⟨rfl, _, rfl, ?_⟩
      obtain ⟨m1, m2⟩ := ends l (List.mem_of_getElem? hx)
      obtain ⟨a1, a2, a3⟩ := pI_spec nd m1
      obtain ⟨b1, b2, b3⟩ := pI_spec nd m2
      obtain ⟨a, ha⟩ : ∃ a, a = pI ns l.2.1 := ⟨_, rfl⟩
      obtain ⟨b, hb⟩ : ∃ b, b = pI ns l.2.2 := ⟨_, rfl⟩
      rw [← ha] at a1 a2 a3
      rw [← hb] at b1 b2 b3
      have tk : (rI ns rs).take (i + 1) = (rI ns rs).take i ++ [(a, b)] := by
        rw [List.take_add_one]
        congr 1
        rw [rI, List.getElem?_map, hx, ha, hb]; rfl
      have tl : ((rI ns rs).take i).length = i := by rw [List.length_take]; omega
      obtain ⟨q0, hq0⟩ : ∃ q0, q0 = (rI ns rs).take i := ⟨_, rfl⟩
      rw [← hq0] at tk tl ⊢
      have x1 : ∀ h, oIx (rowD l) (.int 1) h = some (.str l.2.1, h) := fun h => by simp [rowD, oIx, itemsD]
      have x2 : ∀ h, oIx (rowD l) (.int 2) h = some (.str l.2.2, h) := fun h => by simp [rowD, oIx, itemsD]
      have d1 : ∀ Y, oIxX (.ref mh.length) (.str l.2.1) (P ++ Y) = some (.int (a : Nat), P ++ Y) := fun Y => ixX_dk (kds := k1) (by rw [List.getElem?_append_left (List.getElem?_eq_some_iff.mp pk).1]; exact pk) (by rw [hk, a1]; rfl)
      have d2 : ∀ Y, oIxX (.ref mh.length) (.str l.2.2) (P ++ Y) = some (.int (b : Nat), P ++ Y) := fun Y => ixX_dk (kds := k1) (by rw [List.getElem?_append_left (List.getElem?_eq_some_iff.mp pk).1]; exact pk) (by rw [hk, b1]; rfl)
      have nx : ∀ (c : Nat) Y, c < ns.length → oIx (.ref (mh.length + 2)) (.int (c : Nat)) (P ++ Y) = some (.ref (mh.length + 3 + c), P ++ Y) := fun c Y hc => by
        have : itemsD (P ++ Y) (.ref (mh.length + 2)) = some (RF ns.length) := by rw [items_ref, List.getElem?_append_left (List.getElem?_eq_some_iff.mp pr).1]; exact pr
        refine o_ix this ?_
        rw [atI_nat, hRF, List.getElem?_map, List.getElem?_range hc]; rfl
      have nlen : ∀ q i, (nearOf 0 q i).length ≤ 2 * q.length := fun q i => by
        have : ∀ (q : List (Nat × Nat)) t, (nearOf t q i).length ≤ 2 * q.length := fun q => by
          induction q with
          | nil => intro t; simp [nearOf]
          | cons c q ih =>
            intro t
            obtain ⟨u, v⟩ := c
            have := ih (t + 1)
            unfold nearOf
            simp only [List.length_append, List.length_cons]
            split <;> split <;> simp <;> omega
        exact this q 0
      have nq := nlen q0
      refine seq_cut (fun e h => e = [some N, some (.ref mh.length), some (.ref (mh.length + 2)), some (.int (i : Nat)), some (rowD l), some (.int (a : Nat)), v6, none] ∧ P ++ X q0 = h) (by simp [setMany, x1, d1]) ?_
      rintro e h ⟨rfl, rfl⟩
      refine seq_cut (fun e h => e = [some N, some (.ref mh.length), some (.ref (mh.length + 2)), some (.int (i : Nat)), some (rowD l), some (.int (a : Nat)), some (.int (b : Nat)), none] ∧ P ++ X q0 = h) (by simp [x2, d2]) ?_
      rintro e h ⟨rfl, rfl⟩
      have get : ∀ (F : Nat → Ob) (c : Nat), c < ns.length → (P ++ (List.range ns.length).map F)[mh.length + 3 + c]? = some (F c) := fun F c hc => by
        rw [List.getElem?_append_right (by omega), show mh.length + 3 + c - P.length = c by omega, List.getElem?_map, List.getElem?_range hc]; rfl
      have put : ∀ (F : Nat → Ob) (c : Nat) (o : Ob), (P ++ (List.range ns.length).map F).set (mh.length + 3 + c) o = P ++ (List.range ns.length).map fun i => if i = c then o else F i := fun F c o => by
        rw [List.set_append_right _ _ (by omega), show mh.length + 3 + c - P.length = c by omega, range_set]
      have step : ∀ (F : Nat → List (Nat × Nat)) (c v : Nat) (k : Nat) (fo : ME), c < ns.length → (F c).length ≤ 200 → (∀ (Y : MH) (Q : D → MH → Prop) (E : Exn → MH → Prop), Q (.ref (mh.length + 3 + c)) (P ++ Y) → (fo [some N, some (.ref mh.length), some (.ref (mh.length + 2)), some (.int (i : Nat)), some (rowD l), some (.int (a : Nat)), some (.int (b : Nat)), none] (P ++ Y)).wp Q E) → ∀ O : Po,
          ([some N, some (.ref mh.length), some (.ref (mh.length + 2)), some (.int (i : Nat)), some (rowD l), some (.int (a : Nat)), some (.int (b : Nat)), none] : Nv)[k]? = some (some (.int (v : Nat))) →
          O.nx [some N, some (.ref mh.length), some (.ref (mh.length + 2)), some (.int (i : Nat)), some (rowD l), some (.int (a : Nat)), some (.int (b : Nat)), none] (P ++ (List.range ns.length).map fun j => .lst ((if j = c then F c ++ [(v, i)] else F j).map prD)) →
          (drp (app fo (dtup (acons (vr k) (acons (vr 3) (anil))))) [some N, some (.ref mh.length), some (.ref (mh.length + 2)), some (.int (i : Nat)), some (rowD l), some (.int (a : Nat)), some (.int (b : Nat)), none] (P ++ (List.range ns.length).map fun j => .lst ((F j).map prD))).wp O := fun F c v k fo hc hF hfo O hk hO => by
        rw [wp_drp, wp_app]
        refine hfo _ _ _ ⟨_, rfl, ⟨_, get _ c hc⟩, ?_⟩
        rw [wp_dtup, wp_acons, wp_vr]
        refine ⟨_, hk, ?_⟩
        rw [wp_acons, wp_vr]
        refine ⟨_, rfl, ?_⟩
        rw [wp_anil]
        refine ⟨z2, _, get _ c hc, by simp; omega, ?_⟩
        rw [put]
        have e9 : (fun j => if j = c then Ob.lst ((F c).map prD ++ [.tup [.int (v : Nat), .int (i : Nat)]]) else Ob.lst ((F j).map prD)) = fun j => Ob.lst ((if j = c then F c ++ [(v, i)] else F j).map prD) := by
          funext j
          by_cases hj : j = c
          · simp [hj, prD]
          · simp [hj]
        rw [e9]
        exact hO
      rw [hX]
      refine seq_cut (fun e h => e = [some N, some (.ref mh.length), some (.ref (mh.length + 2)), some (.int (i : Nat)), some (rowD l), some (.int (a : Nat)), some (.int (b : Nat)), none] ∧ h = P ++ (List.range ns.length).map fun j => .lst ((if j = a then nearOf 0 q0 a ++ [(b, i)] else nearOf 0 q0 j).map prD)) ?_ ?_
      · refine step (nearOf 0 q0) a b 6 _ a3 (by have := nq a; omega) (fun Y Q E q => ?_) _ rfl ⟨rfl, rfl⟩
        simp [nx a Y a3]; exact q
      rintro e h ⟨rfl, rfl⟩
      refine step (fun j => if j = a then nearOf 0 q0 a ++ [(b, i)] else nearOf 0 q0 j) b a 5 _ b3 ?_ (fun Y Q E q => ?_) _ rfl ?_
      · have h1 := nq a
        have h2 := nq b
        split
        · simp; omega
        · omega
      · simp [nx b Y b3]; exact q
      · show I (i + 1) xs _ _
        rw [hI]
        refine ⟨_, _, _, _, rfl, ?_⟩
        rw [tk, hX]
        congr 1
        refine List.map_congr_left fun j _ => ?_
        rw [nearOf_snoc, tl]
        congr 2
        by_cases h1 : j = b
        · subst h1
          by_cases h2 : j = a
          · subst h2; simp
          · have h3 : ¬ a = j := fun e => h2 e.symm
            simp [h2, h3]
        · have h3 : ¬ b = j := fun e => h1 e.symm
          by_cases h2 : j = a
          · subst h2; simp [h1, h3]
          · have h4 : ¬ a = j := fun e => h2 e.symm
            simp [h1, h2, h3, h4]
    · obtain ⟨v3, v4, v5, v6, rfl, rfl⟩ := (hI _ _ _ _).mp q
      refine ⟨rfl, hJ _ _ ⟨v3, v4, v5, v6, rfl, ?_⟩⟩
      rw [List.take_of_length_le (by omega)]
  rintro e h ⟨v3, v4, v5, v6, rfl, rfl⟩
  rw [wp_ret, wp_vr]
  refine ⟨_, rfl, ?_⟩
  have e9 : P ++ X (rI ns rs) = mh ++ ([Ob.dk k1, .dk k2, .lst (RF ns.length)] ++ X (rI ns rs)) := by rw [hP, hP0]; simp
  rw [e9] at fin ⊢
  exact hq _ _ (by omega) fin
end
end K09
namespace K09
open PySem Det
theorem o_mul_1 {d : D} {n k : Nat} {mh : MH} (h : mh[n]? = some (.lst [d])) (hk : k ≤ 1000) : oMulX (.ref n) (.int (k : Nat)) mh = some (.ref mh.length, mh ++ [.lst (List.replicate k d)]) := by
  have hz : (1000 : Nat) ≤ sizeLine := by decide
  simp only [oMulX, h]
  rw [if_pos ⟨by omega, by omega, by simp; omega⟩]
  simp [rep1]
/-! ### marks -/
def mkL (ns T : List Str) : List Bool := ns.map fun x => decide (x ∈ T)
theorem mkL_set {ns T : List Str} (nd : ns.Nodup) {x : Str} {i : Nat} (h : ns[i]? = some x) : (mkL ns T).set i true = mkL ns (T ++ [x]) := by
  obtain ⟨hi, hx⟩ := List.getElem?_eq_some_iff.mp h
  refine List.ext_getElem? fun j => ?_
  by_cases hj : i = j
  · subst hj
    rw [List.getElem?_set_self (by simpa [mkL] using hi)]
    simp [mkL, h]
  · rw [List.getElem?_set_ne hj]
    unfold mkL
    rw [List.getElem?_map, List.getElem?_map]
    cases hy : ns[j]? with
    | none => rfl
    | some y =>
      obtain ⟨hj2, hy2⟩ := List.getElem?_eq_some_iff.mp hy
      have : y ≠ x := fun e => hj ((List.getElem_inj nd).mp ((hx.trans e.symm).trans hy2.symm))
      simp [this]
theorem mkL_nil (ns : List Str) : (mkL ns []).map D.bl = List.replicate ns.length (.bl false) := by
  unfold mkL
  induction ns with
  | nil => rfl
  | cons x ns ih => simp [List.replicate_succ] at ih ⊢; exact ih
section
variable {mh : MH} {Q : D → MH → Prop} {E : Exn → MH → Prop} {rs : List Row} {ns : List Str} {B C : D}
theorem node_marks_wp (G : Gr ns rs) {S : List Str} (hS : ∀ x ∈ S, x ∈ ns) (hl : S.length ≤ 500) (hq : Q (.rol ((mkL ns S).map .bl)) mh) : (m_node_marks [.tup [.tup (ns.map .str), .tup (rs.map rowD), B, C], .tup (S.map .str)] mh).wp Q E := by
  have hz : (10000 : Nat) ≤ sizeLine := by decide
  have z1 : (1 : Nat) ≤ sizeLine := by decide
  obtain ⟨nd, srt, nl, rl, ends⟩ := G
  unfold m_node_marks
  rw [wp_zF, wp_runF]
  obtain ⟨N, hN⟩ : ∃ N, N = D.tup [.tup (ns.map .str), .tup (rs.map rowD), B, C] := ⟨_, rfl⟩
  have on0 : ∀ h, oIx N (.int 0) h = some (.tup (ns.map .str), h) := fun h => by rw [hN]; simp [oIx, itemsD]
  have len0 : ∀ h, oLen [.tup (ns.map .str)] h = some (.int (ns.length : Nat), h) := fun h => by simp [oLen, lenD]
  rw [← hN]
  obtain ⟨SS, hSS⟩ : ∃ SS, SS = D.tup (S.map .str) := ⟨_, rfl⟩
  rw [← hSS]
  show (sq _ _ [some N, some SS, none, none, none] mh).wp _
  refine seq_cutJ (fun e h => ∃ k1 k2, e = [some N, some SS, some (.ref mh.length), none, none] ∧ h = mh ++ [.dk k1, .dk k2] ∧ ∀ x, valD k1 (.inr x) = (pos ns x).map fun i => .int (i : Nat)) (fun J hJ => ?_) ?_
  · rw [wp_sst, wp_bi, wp_cal, wp_acons, wp_vr]
    refine ⟨_, rfl, ?_⟩
    rw [wp_anil, hN]
    refine ⟨rfl, places_wp (by omega) (by omega) nd fun k1 k2 hk => ?_⟩
    rw [← hN]
    simp
    exact hJ _ _ ⟨k1, k2, rfl, rfl, hk⟩
  rintro e h ⟨k1, k2, rfl, rfl, hk⟩
  obtain ⟨P, hP⟩ : ∃ P, P = mh ++ [Ob.dk k1, .dk k2, .lst [.bl false]] := ⟨_, rfl⟩
  have hPl : P.length = mh.length + 3 := by rw [hP]; simp
  have pk : P[mh.length]? = some (.dk k1) := by rw [hP]; simp
  refine seq_cutJ (fun e h => e = [some N, some SS, some (.ref mh.length), some (.ref (mh.length + 3)), none] ∧ h = P ++ [.lst ((mkL ns []).map .bl)]) (fun J hJ => ?_) ?_
  · rw [wp_sst, wp_bi, wp_dlst, wp_acons, wp_kn, wp_anil]
    refine ⟨z1, ?_⟩
    have e0 : mh ++ [Ob.dk k1, .dk k2] ++ [Ob.lst [.bl false]] = P := by rw [hP]; simp
    have e1 : (mh ++ [Ob.dk k1, Ob.dk k2]).length = mh.length + 2 := by simp
    rw [e0, e1, wp_ap, wp_acons, wp_bi, wp_vr]
    refine ⟨_, rfl, ?_⟩
    rw [wp_kn, on0, owp_some, wp_anil, len0, owp_some, o_mul_1 (k := ns.length) (d := .bl false) (n := mh.length + 2) (by rw [hP]; simp) (by omega), owp_some] <;> try simp
    rw [hPl]
    exact hJ _ _ ⟨rfl, by rw [mkL_nil]⟩
  rintro e h ⟨rfl, rfl⟩
  obtain ⟨I, hI⟩ : ∃ I : Nat → List Str → Nv → MH → Prop, ∀ i xs e h, I i xs e h ↔ ∃ v4, e = [some N, some SS, some (.ref mh.length), some (.ref (mh.length + 3)), v4] ∧ h = P ++ [.lst ((mkL ns (S.take i)).map .bl)] := ⟨_, fun _ _ _ _ => Iff.rfl⟩
  refine seq_cutJ (fun e h => ∃ v4, e = [some N, some SS, some (.ref mh.length), some (.ref (mh.length + 3)), v4] ∧ h = P ++ [.lst ((mkL ns S).map .bl)]) (fun J hJ => ?_) ?_
  · rw [wp_sfor, wp_iter, wp_vr]
    refine ⟨_, rfl, ?_⟩
    rw [hSS]
    refine ⟨_, rfl, ?_⟩
    rw [← hSS]
    refine loop_as S .str I ((hI _ _ _ _).mpr ⟨none, rfl, rfl⟩) ?_ fun e h q => ?_
    · intro i x xs e h hd hi hx q
      obtain ⟨v4, rfl, rfl⟩ := (hI _ _ _ _).mp q
      refine ⟨rfl, _, rfl, ?_⟩
      obtain ⟨a1, a2, a3⟩ := pI_spec nd (hS x (List.mem_of_getElem? hx))
      have d1 : ∀ Y, oIxX (.ref mh.length) (.str x) (P ++ Y) = some (.int (pI ns x : Nat), P ++ Y) := fun Y => ixX_dk (kds := k1) (by rw [List.getElem?_append_left (List.getElem?_eq_some_iff.mp pk).1]; exact pk) (by rw [hk, a1]; rfl)
      rw [wp_setIx, wp_kn, wp_vr]
      refine ⟨_, rfl, ?_⟩
      rw [wp_bi, wp_vr]
      refine ⟨_, rfl, ?_⟩
      rw [wp_vr]
      refine ⟨_, rfl, ?_⟩
      rw [d1, owp_some]
      refine ⟨_, _, (mkL ns (S.take i)).map .bl, pI ns x, rfl, rfl, by rw [← hPl]; simp, ?_, ?_⟩
      · simp [mkL, L2.ixN]; omega
      · show I (i + 1) xs _ _
        rw [hI]
        refine ⟨_, rfl, ?_⟩
        rw [← hPl]
        have : (mkL ns (S.take i)).set (pI ns x) true = mkL ns (S.take (i + 1)) := by
          rw [mkL_set nd a2, List.take_add_one, hx]; rfl
        rw [← this, List.map_set]
        simp
    · obtain ⟨v4, rfl, rfl⟩ := (hI _ _ _ _).mp q
      rw [List.take_length]
      exact ⟨rfl, hJ _ _ ⟨v4, rfl, rfl⟩⟩
  rintro e h ⟨v4, rfl, rfl⟩
  rw [wp_ret, wp_vr]
  refine ⟨_, rfl, ?_⟩
  show FQ mh Q _ _
  rw [fq_new (xs := (mkL ns S).map .bl) (by omega) (by rw [← hPl]; simp)]
  refine ⟨blws_map fun b _ => by simp, ?_, ?_⟩
  · rw [hP, List.append_assoc]; exact Kept.add
  · rw [hP, List.append_assoc]; simpa using hq
end
/-! ### sorted places -/
def leN (x y : Nat) : Bool := decide (x ≤ y)
theorem leD_nat : (fun x y : Nat => leD (nD x) (nD y)) = leN := by
  funext x y
  have : leD (nD x) (nD y) = decide ((x : Int) ≤ (y : Int)) := congrFun (congrFun (PySem.W.dataLe_int (fun x : Int => x)) (x : Int)) (y : Int)
  rw [this]
  simp [leN]
theorem okSort_nats (xs : List Nat) (h : xs.length ≤ sizeLine) : okSort (xs.map nD) = true := by
  unfold okSort
  rw [Bool.and_eq_true, Bool.and_eq_true, Bool.and_eq_true]
  refine ⟨⟨⟨?_, ?_⟩, ?_⟩, by rw [List.length_map]; exact decide_eq_true h⟩
  · rw [List.all_map]
    exact List.all_eq_true.mpr fun x _ => by simp [nD, datD, datP, PyData.depth]
  · rw [List.all_map]
    refine List.all_eq_true.mpr fun x _ => ?_
    show (xs.map nD).all _ = true
    rw [List.all_map]
    refine List.all_eq_true.mpr fun y _ => ?_
    show PySem.W.alike (datP (nD x)) (datP (nD y)) = true
    have dn : ∀ z, datP (nD z) = .int (z : Nat) := fun z => by simp [nD, datP, datD]
    rw [dn, dn]
    simp [PySem.W.alike]
  · rw [Bool.or_eq_true]
    refine .inr ?_
    rw [List.all_map]
    exact List.all_eq_true.mpr fun x _ => by simp [nD, datD, datP, notT]
theorem o_sorted_n {c : D} {mh : MH} {xs : List Nat} (h : itemsD mh c = some (xs.map nD)) (hl : xs.length ≤ sizeLine) : oSorted [c] mh = some (.ref mh.length, mh ++ [.lst ((isort leN xs).map nD)]) := by
  unfold oSorted
  simp only [h, okSort_nats xs hl, if_true, isort_map, leD_nat]
theorem leN_trans (a b c : Nat) (h : leN a b = true) (k : leN b c = true) : leN a c = true := by simp [leN] at *; omega
theorem leN_total (a b : Nat) : (leN a b || leN b a) = true := by simp [leN]; omega
/-- an ascending list is the sorted one of any list of the same -/
theorem isort_n {l xs : List Nat} (s : l.Pairwise (· < ·)) (nd : xs.Nodup) (hm : ∀ a, a ∈ xs ↔ a ∈ l) : isort leN xs = l := by
  have nl : l.Nodup := List.nodup_iff_pairwise_ne.mpr (s.imp fun h => Nat.ne_of_lt h)
  have p : xs.Perm l := (List.perm_ext_iff_of_nodup nd nl).mpr hm
  rw [isort_perm (le := leN) leN_trans leN_total p fun a _ b _ h k => by simp [leN] at h k; omega]
  exact isort_of_sorted _ (s.imp fun h => by simp [leN]; omega)
end K09
namespace K09
open PySem Det
/-! ### lots of places -/
def nbN (N : List (List (Nat × Nat))) (i : Nat) : List Nat := (N.getD i []).map (·.1)
def goneL (gl : List Bool) (i : Nat) : Prop := gl[i]? = some true
def outN (l : List Nat) : D := .rol (l.map nD)
noncomputable def lotsN (N : List (List (Nat × Nat))) (gl : List Bool) : List (List Nat) := Lots.lots (List.range N.length) (nbN N) (goneL gl) (List.range N.length) []
section
variable {mh g t : MH} {x y z w : Ob}
theorem hget0 : (mh ++ x :: t)[mh.length]? = some x := by simp
theorem hget1 : (mh ++ x :: y :: t)[mh.length + 1]? = some y := by rw [List.getElem?_append_right (by omega), show mh.length + 1 - mh.length = 1 by omega]; rfl
theorem hget2 : (mh ++ x :: y :: (g ++ z :: t))[mh.length + 2 + g.length]? = some z := by
  rw [List.getElem?_append_right (by omega), show mh.length + 2 + g.length - mh.length = g.length + 1 + 1 by omega, List.getElem?_cons_succ, List.getElem?_cons_succ]; simp
theorem hset0 : (mh ++ x :: t).set mh.length w = mh ++ w :: t := by simp
theorem hset1 : (mh ++ x :: y :: t).set (mh.length + 1) w = mh ++ x :: w :: t := by rw [List.set_append_right _ _ (by omega), show mh.length + 1 - mh.length = 1 by omega]; rfl
theorem hset2 : (mh ++ x :: y :: (g ++ z :: t)).set (mh.length + 2 + g.length) w = mh ++ x :: y :: (g ++ w :: t) := by
  rw [List.set_append_right _ _ (by omega), show mh.length + 2 + g.length - mh.length = g.length + 1 + 1 by omega, List.set_cons_succ, List.set_cons_succ, List.set_append_right _ _ (by omega), Nat.sub_self]; rfl
end
theorem nat_len {l : List Nat} {n : Nat} (h : l.Nodup) (hs : ∀ a ∈ l, a < n) : l.length ≤ n := by
  have := h.length_le_of_subset (l₂ := List.range n) fun a ha => List.mem_range.mpr (hs a ha)
  simpa using this
theorem set_iff {l : List Bool} {i j : Nat} (hi : i < l.length) : (l.set i true)[j]? = some true ↔ l[j]? = some true ∨ j = i := by
  by_cases h : i = j
  · subst h; rw [List.getElem?_set_self hi]; simp
  · rw [List.getElem?_set_ne h]
    constructor
    · exact .inl
    · rintro (h1 | h1)
      · exact h1
      · exact absurd h1.symm h
theorem not_true {l : List Bool} {j : Nat} (h : l[j]? = some false) : ¬ l[j]? = some true := by rw [h]; simp
section
variable {mh : MH} {Q : D → MH → Prop} {E : Exn → MH → Prop} {N : List (List (Nat × Nat))} {gl : List Bool}
/-- the heap of lots_of -/
abbrev hL (mh : MH) (sl : List Bool) (L : List (List Nat)) (g : MH) : MH := mh ++ .lst (sl.map .bl) :: .lst (L.map outN) :: g
theorem lots_of_wp {nb : Nat} (hN : NearAt mh (.ref nb) N) (dom : ∀ i j, j ∈ nbN N i → j < N.length) (sy : ∀ a b, b ∈ nbN N a → a ∈ nbN N b) (hn : N.length ≤ 1000) (hg : gl.length = N.length) (hq : Q (.rol ((lotsN N gl).map outN)) mh) : (m_lots_of [.ref nb, .rol (gl.map .bl)] mh).wp Q E := by
  have hz : (10000 : Nat) ≤ sizeLine := by decide
  have z1 : (1 : Nat) ≤ sizeLine := by decide
  have z0 : (0 : Nat) ≤ sizeLine := by decide
  unfold m_lots_of
  rw [wp_zF, wp_runF]
  obtain ⟨n, en⟩ : ∃ n, n = N.length := ⟨_, rfl⟩
  obtain ⟨G, eG⟩ : ∃ G, G = D.rol (gl.map .bl) := ⟨_, rfl⟩
  obtain ⟨F, eF⟩ : ∃ F, F = lotsN N gl := ⟨_, rfl⟩
  have hN0 := hN
  obtain ⟨_, e, hN1, hN2⟩ := hN
  cases e
  rw [← eG]
  have near_len : ∀ Y, oLen [.ref nb] (mh ++ Y) = some (.int (n : Nat), mh ++ Y) := fun Y => by
    have : (mh ++ Y)[nb]? = some (.lst ((List.range N.length).map fun i => .ref (nb + 1 + i))) := by
      rw [List.getElem?_append_left (List.getElem?_eq_some_iff.mp hN1).1]; exact hN1
    simp [oLen, lenD, this, en]
  have near_ix : ∀ Y i, i < n → oIx (.ref nb) (nD i) (mh ++ Y) = some (.ref (nb + 1 + i), mh ++ Y) := fun Y i hi => by
    have : (mh ++ Y)[nb]? = some (.lst ((List.range N.length).map fun i => .ref (nb + 1 + i))) := by
      rw [List.getElem?_append_left (List.getElem?_eq_some_iff.mp hN1).1]; exact hN1
    refine o_ix (it_ref this) ?_
    rw [atI_nat, List.getElem?_map, List.getElem?_range (by omega)]; rfl
  have near_at : ∀ Y i l, N[i]? = some l → (mh ++ Y)[nb + 1 + i]? = some (.lst (l.map prD)) := fun Y i l hl => by
    have := hN2 i l hl
    rw [List.getElem?_append_left (List.getElem?_eq_some_iff.mp this).1]; exact this
  show (sq _ _ [some (.ref nb), some G, none, none, none, none, none, none, none, none] mh).wp _
  refine seq_cut (fun e h => e = [some (.ref nb), some G, some (.ref mh.length), none, none, none, none, none, none, none] ∧ h = mh ++ [.lst (gl.map .bl)]) (by rw [eG]; simp [oList]) ?_
  rintro e h ⟨rfl, rfl⟩
  refine seq_cut (fun e h => e = [some (.ref nb), some G, some (.ref mh.length), some (.ref (mh.length + 1)), none, none, none, none, none, none] ∧ h = hL mh gl [] []) (by simp [z0, hL]) ?_
  rintro e h ⟨rfl, rfl⟩
  obtain ⟨I, hI⟩ : ∃ I : Nat → List Nat → Nv → MH → Prop, ∀ i xs e h, I i xs e h ↔ ∃ (sl : List Bool) (L : List (List Nat)) (g : MH) (v4 v5 v6 v7 v8 v9 : Option D), e = [some (.ref nb), some G, some (.ref mh.length), some (.ref (mh.length + 1)), v4, v5, v6, v7, v8, v9] ∧ h = hL mh sl L g ∧ sl.length = n ∧ (∀ j, j < n → (sl[j]? = some true ↔ Lots.Seen (goneL gl) L j)) ∧ Lots.Whole (nbN N) (goneL gl) L ∧ Lots.lots (List.range n) (nbN N) (goneL gl) xs L = F ∧ L.length ≤ i := ⟨_, fun _ _ _ _ => Iff.rfl⟩
  refine seq_cutJ (fun e h => ∃ (sl : List Bool) (g : MH) (v4 v5 v6 v7 v8 v9 : Option D), e = [some (.ref nb), some G, some (.ref mh.length), some (.ref (mh.length + 1)), v4, v5, v6, v7, v8, v9] ∧ h = hL mh sl F g) (fun J hJ => ?_) ?_
  · rw [wp_sfor, wp_range1, wp_ap, wp_acons, wp_vr]
    refine ⟨_, rfl, ?_⟩
    rw [wp_anil, near_len, owp_some]
    refine ⟨_, rfl, okB_of (by omega) (by omega), ?_⟩
    refine loop_rg (List.range n) (by simp) I ((hI _ _ _ _).mpr ⟨gl, [], [], none, none, none, none, none, none, rfl, rfl, by omega, fun j hj => ?_, fun l hl => by simp at hl, ?_, Nat.le_refl _⟩) ?_ fun e h q => ?_
    · unfold Lots.Seen goneL; simp
    · rw [eF, en]; rfl
    · intro i s rest e h hd hi hx q
      obtain ⟨sl, L, g, v4, v5, v6, v7, v8, v9, rfl, rfl, h1, h2, h3, h4, h5⟩ := (hI _ _ _ _).mp q
      refine ⟨rfl, _, rfl, ?_⟩
      rw [List.length_range] at hi
      have es : s = i := by rw [List.getElem?_range hi] at hx; exact (Option.some.inj hx).symm
      subst es
      obtain ⟨b, hb⟩ : ∃ b, sl[s]? = some b := ⟨_, List.getElem?_eq_getElem (by omega)⟩
      have slix : ∀ (sl : List Bool) (L : List (List Nat)) (g : MH) (j : Nat) (b : Bool), sl[j]? = some b → oIx (.ref mh.length) (nD j) (hL mh sl L g) = some (.bl b, hL mh sl L g) := fun sl L g j b hb => by
        refine o_ix (it_ref hget0) ?_
        rw [atI_nat, List.getElem?_map, hb]; rfl
      refine seq_cutJ (fun e h => sl[s]? = some false ∧ e = [some (.ref nb), some G, some (.ref mh.length), some (.ref (mh.length + 1)), some (nD s), v5, v6, v7, v8, v9] ∧ h = hL mh sl L g) (fun J2 hJ2 => ?_) ?_
      · rw [wp_sif, wp_tru, wp_bi, wp_vr]
        refine ⟨_, rfl, ?_⟩
        rw [wp_vr]
        refine ⟨_, rfl, ?_⟩
        show owp (oIx (.ref mh.length) (nD s) _) _
        rw [slix _ _ _ _ _ hb, owp_some]
        refine ⟨b, rfl, fun hb1 => ?_, fun hb1 => ?_⟩
        · subst hb1
          rw [wp_cnt]
          show I (s + 1) rest _ _
          rw [hI]
          exact ⟨sl, L, g, _, _, _, _, _, _, rfl, rfl, h1, h2, h3, by rw [← h4, Lots.lots_skip ((h2 s hi).mp hb)], by omega⟩
        · subst hb1
          rw [wp_nop]
          exact hJ2 _ _ ⟨hb, rfl, rfl⟩
      rintro e h ⟨hb, rfl, rfl⟩
      have ns : ¬ Lots.Seen (goneL gl) L s := fun z => not_true hb ((h2 s hi).mpr z)
      refine seq_cut (fun e h => e = [some (.ref nb), some G, some (.ref mh.length), some (.ref (mh.length + 1)), some (nD s), v5, v6, v7, v8, v9] ∧ h = hL mh (sl.set s true) L g) ?_ ?_
      · rw [wp_setIx, wp_kn, wp_vr]
        refine ⟨_, rfl, ?_⟩
        rw [wp_vr]
        refine ⟨_, rfl, _, _, sl.map .bl, s, rfl, rfl, hget0, by simp [L2.ixN]; omega, rfl, ?_⟩
        rw [hset0, ← List.map_set]
      rintro e h ⟨rfl, rfl⟩
      refine seq_cut (fun e h => e = [some (.ref nb), some G, some (.ref mh.length), some (.ref (mh.length + 1)), some (nD s), some (.ref (mh.length + 2 + g.length)), v6, v7, v8, v9] ∧ h = hL mh (sl.set s true) L (g ++ [.lst ([s].map nD)])) ?_ ?_
      · rw [wp_sst, wp_dlst, wp_acons, wp_vr]
        refine ⟨_, rfl, ?_⟩
        rw [wp_anil]
        refine ⟨z1, ?_, ?_⟩
        · simp [hL]; omega
        · simp [hL]
      rintro e h ⟨rfl, rfl⟩
      refine seq_cut (fun e h => e = [some (.ref nb), some G, some (.ref mh.length), some (.ref (mh.length + 1)), some (nD s), some (.ref (mh.length + 2 + g.length)), some (nD 0), v7, v8, v9] ∧ h = hL mh (sl.set s true) L (g ++ [.lst ([s].map nD)])) (by simp [nD]) ?_
      rintro e h ⟨rfl, rfl⟩
      obtain ⟨sn, esn⟩ : ∃ sn, sn = Lots.Seen (goneL gl) L := ⟨_, rfl⟩
      rw [← esn] at h2 ns
      obtain ⟨K, hK⟩ : ∃ K : Nat → Nv → MH → Prop, ∀ m e h, K m e h ↔ ∃ (sl : List Bool) (lot : List Nat) (at_ : Nat) (v7 v8 v9 : Option D), e = [some (.ref nb), some G, some (.ref mh.length), some (.ref (mh.length + 1)), some (nD s), some (.ref (mh.length + 2 + g.length)), some (nD at_), v7, v8, v9] ∧ h = hL mh sl L (g ++ [.lst (lot.map nD)]) ∧ sl.length = n ∧ (∀ j, j < n → (sl[j]? = some true ↔ sn j ∨ j ∈ lot)) ∧ Lots.Grow (nbN N) sn s lot at_ ∧ at_ ≤ lot.length ∧ (∀ j ∈ lot, j < n) ∧ m + at_ = n := ⟨_, fun _ _ _ => Iff.rfl⟩
      refine seq_cutJ (fun e h => ∃ (sl : List Bool) (lot : List Nat) (v6 v7 v8 v9 : Option D), e = [some (.ref nb), some G, some (.ref mh.length), some (.ref (mh.length + 1)), some (nD s), some (.ref (mh.length + 2 + g.length)), v6, v7, v8, v9] ∧ h = hL mh sl L (g ++ [.lst (lot.map nD)]) ∧ sl.length = n ∧ (∀ j, j < n → (sl[j]? = some true ↔ sn j ∨ j ∈ lot)) ∧ Lots.Grow (nbN N) sn s lot lot.length ∧ (∀ j ∈ lot, j < n)) (fun J2 hJ2 => ?_) ?_
      · refine while_wp K n (by omega) ((hK _ _ _).mpr ⟨sl.set s true, [s], 0, v7, v8, v9, rfl, rfl, by simpa using h1, fun j hj => ?_, .start ns, by simp, fun j hj => by rw [List.mem_singleton.mp hj]; exact hi, rfl⟩) ?_
        · rw [set_iff (by omega), h2 j hj, List.mem_singleton]
        intro m e h q
        obtain ⟨sl, lot, at_, v7, v8, v9, rfl, rfl, k1, k2, k3, k4, k5, k6⟩ := (hK _ _ _).mp q
        have ll := nat_len k3.nd k5
        have lotlen : ∀ (sl : List Bool) (lot : List Nat), oLen [.ref (mh.length + 2 + g.length)] (hL mh sl L (g ++ [.lst (lot.map nD)])) = some (.int (lot.length : Nat), hL mh sl L (g ++ [.lst (lot.map nD)])) := fun sl lot => by simp [oLen, lenD, hget2]
        rw [wp_tb, wp_bi, wp_vr]
        refine ⟨_, rfl, ?_⟩
        rw [wp_ap, wp_acons, wp_vr]
        refine ⟨_, rfl, ?_⟩
        rw [wp_anil, lotlen, owp_some]
        show owp (oLt (.int (at_ : Nat)) (.int (lot.length : Nat)) _) _
        rw [o_lt_i, owp_some]
        refine ⟨_, rfl, fun hb => ?_, fun hb => ?_⟩
        rotate_left
        · have hb := of_decide_eq_false hb
          have e : at_ = lot.length := by omega
          rw [e] at k3
          exact hJ2 _ _ ⟨sl, lot, _, _, _, _, rfl, rfl, k1, k2, k3, k5⟩
        have hb : at_ < lot.length := by have := of_decide_eq_true hb; omega
        obtain ⟨x, hx0⟩ : ∃ x, lot[at_]? = some x := ⟨_, List.getElem?_eq_getElem hb⟩
        have xl : x ∈ lot := List.mem_of_getElem? hx0
        have hxn := k5 x xl
        obtain ⟨row, hrow⟩ : ∃ row, N[x]? = some row := ⟨_, List.getElem?_eq_getElem (by omega)⟩
        have nbx : nbN N x = row.map (·.1) := by simp [nbN, List.getD, hrow]
        refine seq_cut (fun e h => e = [some (.ref nb), some G, some (.ref mh.length), some (.ref (mh.length + 1)), some (nD s), some (.ref (mh.length + 2 + g.length)), some (nD at_), some (.ref (nb + 1 + x)), v8, v9] ∧ h = hL mh sl L (g ++ [.lst (lot.map nD)])) ?_ ?_
        · rw [wp_sst, wp_bi, wp_vr]
          refine ⟨_, rfl, ?_⟩
          rw [wp_bi, wp_vr]
          refine ⟨_, rfl, ?_⟩
          rw [wp_vr]
          refine ⟨_, rfl, ?_⟩
          show owp (oIx (.ref (mh.length + 2 + g.length)) (.int (at_ : Nat)) _) _
          rw [o_ix (d := nD x) (it_ref hget2) (by rw [atI_nat, List.getElem?_map, hx0]; rfl), owp_some, near_ix _ _ hxn, owp_some]
          exact ⟨rfl, rfl⟩
        rintro e h ⟨rfl, rfl⟩
        obtain ⟨R, hR⟩ : ∃ R : Nat → List (Nat × Nat) → Nv → MH → Prop, ∀ k ys e h, R k ys e h ↔ ∃ (sl : List Bool) (lot : List Nat) (v8 v9 : Option D), e = [some (.ref nb), some G, some (.ref mh.length), some (.ref (mh.length + 1)), some (nD s), some (.ref (mh.length + 2 + g.length)), some (nD at_), some (.ref (nb + 1 + x)), v8, v9] ∧ h = hL mh sl L (g ++ [.lst (lot.map nD)]) ∧ sl.length = n ∧ (∀ j, j < n → (sl[j]? = some true ↔ sn j ∨ j ∈ lot)) ∧ Lots.Grow (nbN N) sn s lot at_ ∧ lot[at_]? = some x ∧ (∀ j ∈ lot, j < n) ∧ (∀ y ∈ (row.take k).map (·.1), sn y ∨ y ∈ lot) := ⟨_, fun _ _ _ _ => Iff.rfl⟩
        refine seq_cutJ (R row.length []) (fun J3 hJ3 => ?_) ?_
        · rw [wp_sfor, wp_iter, wp_vr]
          refine ⟨_, rfl, _, itD_ref (near_at _ x row hrow), ?_⟩
          refine loop_as row prD R ((hR _ _ _ _).mpr ⟨sl, lot, v8, v9, rfl, rfl, k1, k2, k3, hx0, k5, by simp⟩) ?_ fun e h q => ?_
          · intro k p ys e h hd hk hp q
            obtain ⟨sl, lot, v8, v9, rfl, rfl, k1, k2, k3, hx0, k5, k7⟩ := (hR _ _ _ _).mp q
            refine ⟨by simp [lstIs, near_at _ x row hrow], ?_⟩
            obtain ⟨y, u⟩ := p
            refine ⟨[some (.ref nb), some G, some (.ref mh.length), some (.ref (mh.length + 1)), some (nD s), some (.ref (mh.length + 2 + g.length)), some (nD at_), some (.ref (nb + 1 + x)), some (nD y), some (nD u)], by simp [setP, prD, nD, setMany], ?_⟩
            have hyx : y ∈ nbN N x := by rw [nbx]; exact List.mem_map.mpr ⟨(y, u), List.mem_of_getElem? hp, rfl⟩
            have hyn : y < n := by rw [en]; exact dom _ _ hyx
            obtain ⟨b, hb⟩ : ∃ b, sl[y]? = some b := ⟨_, List.getElem?_eq_getElem (by omega)⟩
            have tk : (row.take (k + 1)).map (·.1) = (row.take k).map (·.1) ++ [y] := by rw [List.take_add_one, hp]; simp
            rw [wp_sif, wp_tnot, wp_tru, wp_bi, wp_vr]
            refine ⟨_, rfl, ?_⟩
            rw [wp_vr]
            refine ⟨_, rfl, ?_⟩
            rw [slix _ _ _ _ _ hb, owp_some]
            refine ⟨b, rfl, fun hb1 => ?_, fun hb1 => ?_⟩
            · have hb2 : b = false := by simpa using hb1
              subst hb2
              have hno : ¬ (sn y ∨ y ∈ lot) := fun z => not_true hb ((k2 y hyn).mpr z)
              refine seq_cut (fun e h => e = [some (.ref nb), some G, some (.ref mh.length), some (.ref (mh.length + 1)), some (nD s), some (.ref (mh.length + 2 + g.length)), some (nD at_), some (.ref (nb + 1 + x)), some (nD y), some (nD u)] ∧ h = hL mh (sl.set y true) L (g ++ [.lst (lot.map nD)])) ?_ ?_
              · rw [wp_setIx, wp_kn, wp_vr]
                refine ⟨_, rfl, ?_⟩
                rw [wp_vr]
                refine ⟨_, rfl, _, _, sl.map .bl, y, rfl, rfl, hget0, by simp [L2.ixN]; omega, rfl, ?_⟩
                rw [hset0, ← List.map_set]
              rintro e h ⟨rfl, rfl⟩
              have ll := nat_len k3.nd k5
              rw [wp_drp, wp_app, wp_vr]
              refine ⟨_, rfl, _, rfl, ⟨_, hget2⟩, ?_⟩
              rw [wp_vr]
              refine ⟨_, rfl, lot.map nD, hget2, by simp; omega, ?_⟩
              rw [hset2]
              show R (k + 1) ys _ _
              rw [hR]
              have aln : at_ < lot.length := (List.getElem?_eq_some_iff.mp hx0).1
              refine ⟨sl.set y true, lot ++ [y], _, _, rfl, by simp, by simpa using k1, fun j hj => ?_, k3.add (List.mem_of_getElem? hx0) hyx (fun z => hno (.inl z)) (fun z => hno (.inr z)) (by omega), by rw [List.getElem?_append_left aln]; exact hx0, fun j hj => ?_, fun z hz => ?_⟩
              · rw [set_iff (by omega), k2 j hj, List.mem_append, List.mem_singleton, or_assoc]
              · rcases List.mem_append.mp hj with hj | hj
                · exact k5 j hj
                · rw [List.mem_singleton.mp hj]; exact hyn
              · rw [tk] at hz
                rcases List.mem_append.mp hz with hz | hz
                · exact (k7 z hz).imp id fun q => List.mem_append_left _ q
                · exact .inr (List.mem_append_right _ hz)
            · have hb2 : b = true := by simpa using hb1
              subst hb2
              simp only [wp_nop]
              show R (k + 1) ys _ _
              rw [hR]
              refine ⟨sl, lot, _, _, rfl, rfl, k1, k2, k3, hx0, k5, fun z hz => ?_⟩
              rw [tk] at hz
              rcases List.mem_append.mp hz with hz | hz
              · exact k7 z hz
              · rw [List.mem_singleton.mp hz]; exact (k2 y hyn).mp hb
          · obtain ⟨sl, lot, v8, v9, rfl, rfl, k⟩ := (hR _ _ _ _).mp q
            exact ⟨by simp [lstIs, near_at _ x row hrow], hJ3 _ _ ((hR _ _ _ _).mpr ⟨sl, lot, v8, v9, rfl, rfl, k⟩)⟩
        intro e h q
        obtain ⟨sl, lot, v8, v9, rfl, rfl, k1, k2, k3, hx0, k5, k7⟩ := (hR _ _ _ _).mp q
        rw [List.take_length, ← nbx] at k7
        rw [wp_sst, wp_bi, wp_vr]
        refine ⟨_, rfl, ?_⟩
        rw [wp_kn]
        show owp (oAddA (.int (at_ : Nat)) (.int 1) _) _
        rw [o_addA_i, owp_some]
        have aln : at_ < lot.length := (List.getElem?_eq_some_iff.mp hx0).1
        have ll := nat_len k3.nd k5
        refine ⟨m - 1, by omega, ?_⟩
        rw [hK]
        exact ⟨sl, lot, at_ + 1, some (.ref (nb + 1 + x)), v8, v9, by simp [nD], rfl, k1, k2, k3.next hx0 k7, by omega, k5, by omega⟩
      rintro e h ⟨sl2, lot, v6, v7, v8, v9, rfl, rfl, k1, k2, k3, k5⟩
      have ll := nat_len k3.nd k5
      have cl : isort leN lot = Lots.cls (List.range n) (nbN N) (goneL gl) s := by
        refine isort_n ?_ k3.nd fun a => ?_
        · exact List.Pairwise.filter _ List.pairwise_lt_range
        · rw [esn] at k3
          exact Lots.grown_cls sy (fun a _ b hb => List.mem_range.mpr (by rw [en]; exact dom a b hb)) h3 (List.mem_range.mpr hi) (by rw [← esn]; exact ns) k3 a
      rw [wp_drp, wp_app, wp_vr]
      refine ⟨_, rfl, _, rfl, ⟨_, hget1⟩, ?_⟩
      rw [wp_fz, wp_ap, wp_acons, wp_vr]
      refine ⟨_, rfl, ?_⟩
      rw [wp_anil, o_sorted_n (xs := lot) (it_ref hget2) (by omega), owp_some, fq_push]
      refine ⟨blws_map fun _ _ => by simp [nD], L.map outN, hget1, by simp; omega, ?_⟩
      rw [hset1]
      show I (s + 1) rest _ _
      rw [hI]
      refine ⟨sl2, L ++ [Lots.cls (List.range n) (nbN N) (goneL gl) s], g ++ [.lst (lot.map nD)], _, _, _, _, _, _, rfl, by simp [hL, outN, cl], k1, fun j hj => ?_, ?_, ?_, by simp; omega⟩
      · rw [k2 j hj, esn, ← cl]
        unfold Lots.Seen
        have : ∀ a, a ∈ isort leN lot ↔ a ∈ lot := fun a => (isort_perm_self _).mem_iff
        simp only [List.mem_append, List.mem_singleton, or_and_right, exists_or, exists_eq_left, this, or_assoc]
      · exact Lots.Whole.push (fun a _ b hb => List.mem_range.mpr (by rw [en]; exact dom a b hb)) h3 (by rw [← esn]; exact ns)
      · rw [← h4, Lots.lots_take (by rw [← esn]; exact ns)]
    · obtain ⟨sl, L, g, v4, v5, v6, v7, v8, v9, rfl, rfl, h1, h2, h3, h4, h5⟩ := (hI _ _ _ _).mp q
      have h4 : L = F := h4
      subst h4
      exact ⟨rfl, hJ _ _ ⟨sl, g, v4, v5, v6, v7, v8, v9, rfl, rfl⟩⟩
  rintro e h ⟨sl, g, v4, v5, v6, v7, v8, v9, rfl, rfl⟩
  rw [wp_ret, wp_vr]
  refine ⟨_, rfl, ?_⟩
  show FQ mh Q _ _
  rw [fq_new (xs := F.map outN) (by omega) hget1]
  refine ⟨blws_map fun l _ => blws_map (n := mh.length) (f := nD) fun _ _ => by simp [nD], Kept.add, ?_⟩
  rw [eF]
  simpa [hL] using hq
end
end K09
namespace K09
open PySem Det
theorem rI_lt {ns : List Str} {rs : List Row} (G : Gr ns rs) {a b : Nat} (h : (a, b) ∈ rI ns rs) : a < ns.length ∧ b < ns.length := by
  obtain ⟨l, hl, e⟩ := List.mem_map.mp h
  obtain ⟨h1, h2⟩ := G.ends l hl
  cases e
  exact ⟨(pI_spec G.nd h1).2.2, (pI_spec G.nd h2).2.2⟩
theorem nbN_mem {ns : List Str} {rs : List Row} (G : Gr ns rs) {i j : Nat} : j ∈ nbN (nearL ns rs) i ↔ (i, j) ∈ rI ns rs ∨ (j, i) ∈ rI ns rs := by
  by_cases hi : i < ns.length
  · have e : nbN (nearL ns rs) i = (nearOf 0 (rI ns rs) i).map (·.1) := by
      simp [nbN, nearL, List.getD, List.getElem?_range hi]
    rw [e, ← mem_nearOf (rI ns rs) 0]
    simp
  · have e : nbN (nearL ns rs) i = [] := by
      have h0 : (List.range ns.length)[i]? = none := List.getElem?_eq_none (by simp; omega)
      simp [nbN, nearL, List.getD, h0]
    rw [e]
    constructor
    · intro h; cases h
    · rintro (h | h)
      · exact absurd (rI_lt G h).1 hi
      · exact absurd (rI_lt G h).2 hi
theorem nbN_dom {ns : List Str} {rs : List Row} (G : Gr ns rs) (i j : Nat) (h : j ∈ nbN (nearL ns rs) i) : j < (nearL ns rs).length := by
  have e : (nearL ns rs).length = ns.length := by simp [nearL]
  rw [e]
  rcases (nbN_mem G).mp h with h | h
  · exact (rI_lt G h).2
  · exact (rI_lt G h).1
theorem nbN_sy {ns : List Str} {rs : List Row} (G : Gr ns rs) (i j : Nat) (h : j ∈ nbN (nearL ns rs) i) : i ∈ nbN (nearL ns rs) j := (nbN_mem G).mpr ((nbN_mem G).mp h).symm
def nm (ns : List Str) (i : Nat) : Str := ns.getD i ⟨#[]⟩
def foundL (S : List Str) (rs : List Row) : List Str := rs.flatMap fun l => (if l.2.1 ∈ S ∧ l.2.2 ∉ S then [l.2.2] else []) ++ (if l.2.2 ∈ S ∧ l.2.1 ∉ S then [l.2.1] else [])
section
variable {mh : MH} {Q : D → MH → Prop} {E : Exn → MH → Prop} {rs : List Row} {ns : List Str} {B C : D}
abbrev netT (ns : List Str) (rs : List Row) (B C : D) : D := .tup [.tup (ns.map .str), .tup (rs.map rowD), B, C]
theorem named_lot_wp {l : List Nat} (hl : l.length ≤ 1000) (h : ∀ i ∈ l, i < ns.length) (hq : Q (.tup (l.map fun i => .str (nm ns i))) mh) : (m_named_lot [netT ns rs B C, .rol (l.map nD)] mh).wp Q E := by
  have hz : (10000 : Nat) ≤ sizeLine := by decide
  unfold m_named_lot
  rw [wp_zF, wp_runF]
  obtain ⟨N, hN⟩ : ∃ N, N = netT ns rs B C := ⟨_, rfl⟩
  have on0 : ∀ h, oIx N (.int 0) h = some (.tup (ns.map .str), h) := fun h => by rw [hN]; simp [oIx, itemsD]
  rw [← hN]
  show (ret _ [some N, some (.rol (l.map nD)), none] mh).wp _
  rw [wp_ret, wp_ap, wp_acons, wp_fz, wp_lc, wp_iter, wp_vr]
  refine ⟨_, rfl, _, rfl, ?_⟩
  refine lc_map2 mh l nD (fun _ => true) (fun i => .str (nm ns i)) rfl rfl (by omega) (fun _ => rfl) ?_ ?_
  · intro i hi acc
    refine ⟨_, rfl, by simp, fun _ => ?_⟩
    have e : oIx (.tup (ns.map D.str)) (nD i) (mh ++ [Ob.lst acc]) = some (.str (nm ns i), mh ++ [Ob.lst acc]) := by
      refine o_ix it_tup ?_
      rw [atI_nat, List.getElem?_map, List.getElem?_eq_getElem (h i hi)]
      simp [nm, List.getD, List.getElem?_eq_getElem (h i hi)]
    simp [wipeD, setMany, on0, e]
  · rw [fq_push]
    refine ⟨blws_map fun _ _ => by simp, ?_⟩
    rw [wp_anil]
    simp
    rw [List.filter_eq_self.mpr (fun _ _ => rfl)]
    exact ⟨blws_map fun _ _ => by simp, hq⟩
theorem lotsN_len {N : List (List (Nat × Nat))} {gl : List Bool} : (lotsN N gl).length ≤ N.length := by
  have : ∀ (xs : List Nat) (acc : List (List Nat)), (Lots.lots (List.range N.length) (nbN N) (goneL gl) xs acc).length ≤ xs.length + acc.length := by
    intro xs
    induction xs with
    | nil => intro acc; simp [Lots.lots]
    | cons x xs ih =>
      intro acc
      unfold Lots.lots
      split
      · have := ih acc; simp; omega
      · have := ih (acc ++ [Lots.cls (List.range N.length) (nbN N) (goneL gl) x]); simp at this ⊢; omega
  have := this (List.range N.length) []
  simpa [lotsN] using this
theorem lotsN_sub {N : List (List (Nat × Nat))} {gl : List Bool} : ∀ l ∈ lotsN N gl, l.length ≤ N.length ∧ ∀ i ∈ l, i < N.length := by
  have : ∀ (xs : List Nat) (acc : List (List Nat)), (∀ l ∈ acc, l.Sublist (List.range N.length)) → ∀ l ∈ Lots.lots (List.range N.length) (nbN N) (goneL gl) xs acc, l.Sublist (List.range N.length) := by
    intro xs
    induction xs with
    | nil => intro acc h; simpa [Lots.lots] using h
    | cons x xs ih =>
      intro acc h
      unfold Lots.lots
      split
      · exact ih acc h
      · refine ih _ fun l hl => ?_
        rcases List.mem_append.mp hl with hl | hl
        · exact h l hl
        · rw [List.mem_singleton.mp hl]; exact List.filter_sublist
  intro l hl
  have h := this (List.range N.length) [] (by simp) l hl
  exact ⟨by simpa using h.length_le, fun i hi => by simpa using h.subset hi⟩
noncomputable def wantLots (ns : List Str) (rs : List Row) (gl : List Bool) : List (List Str) := (lotsN (nearL ns rs) gl).map (List.map (nm ns))
theorem lots_without_wp (G : Gr ns rs) {S : List Str} (hS : ∀ x ∈ S, x ∈ ns) (hl : S.length ≤ 500) (hq : Q (.tup ((wantLots ns rs (mkL ns S)).map fun l => .tup (l.map .str))) mh) : (m_lots_without [netT ns rs B C, .tup (S.map .str)] mh).wp Q E := by
  have hz : (10000 : Nat) ≤ sizeLine := by decide
  have en : (nearL ns rs).length = ns.length := by simp [nearL]
  unfold m_lots_without
  rw [wp_zF, wp_runF]
  obtain ⟨N, hN⟩ : ∃ N, N = netT ns rs B C := ⟨_, rfl⟩
  obtain ⟨SS, hSS⟩ : ∃ SS, SS = D.tup (S.map .str) := ⟨_, rfl⟩
  rw [← hN, ← hSS]
  show (sq _ _ [some N, some SS, none, none] mh).wp _
  refine seq_cutJ (fun e h => ∃ g, e = [some N, some SS, some (.rol ((lotsN (nearL ns rs) (mkL ns S)).map outN)), none] ∧ h = mh ++ g) (fun J hJ => ?_) ?_
  · rw [wp_sst, wp_cal, wp_acons, wp_cal, wp_acons, wp_vr]
    refine ⟨_, rfl, ?_⟩
    rw [wp_anil]
    refine ⟨rfl, ?_⟩
    rw [hN]
    refine near_lists_wp G fun g b hb nr => ?_
    rw [wp_acons, wp_cal, wp_acons, wp_vr]
    refine ⟨_, rfl, ?_⟩
    rw [wp_acons, wp_vr]
    refine ⟨_, rfl, ?_⟩
    rw [wp_anil]
    refine ⟨rfl, ?_⟩
    rw [hSS]
    refine node_marks_wp G hS hl ?_
    rw [wp_anil]
    refine ⟨rfl, ?_⟩
    refine lots_of_wp nr (nbN_dom G) (nbN_sy G) (by rw [en]; have := G.nl; omega) (by simp [mkL, en]) ?_
    exact hJ _ _ ⟨g, by rw [hN, hSS]; rfl, rfl⟩
  rintro e h ⟨g, rfl, rfl⟩
  rw [wp_ret, wp_ap, wp_acons, wp_fz, wp_lc, wp_iter, wp_vr]
  refine ⟨_, rfl, _, rfl, ?_⟩
  have ll := lotsN_len (N := nearL ns rs) (gl := mkL ns S)
  have nl := G.nl
  refine lc_map2 (mh ++ g) (lotsN (nearL ns rs) (mkL ns S)) outN (fun _ => true) (fun l => .tup (l.map fun i => .str (nm ns i))) rfl rfl (by omega) (fun _ => rfl) ?_ ?_
  · intro l hl acc
    refine ⟨_, rfl, by simp, fun _ => ?_⟩
    obtain ⟨l1, l2⟩ := lotsN_sub l hl
    rw [wp_cal, wp_acons, wp_vr]
    refine ⟨_, rfl, ?_⟩
    rw [wp_acons, wp_vr]
    refine ⟨_, rfl, ?_⟩
    rw [wp_anil, hN]
    exact ⟨rfl, named_lot_wp (by omega) (fun i hi => by have := l2 i hi; omega) ⟨rfl, rfl⟩⟩
  · have hb : ∀ n, D.blws n ((lotsN (nearL ns rs) (mkL ns S)).map fun l => D.tup (l.map fun i => .str (nm ns i))) = true := fun n => blws_map fun l _ => by simp; exact blws_map fun _ _ => by simp
    rw [List.filter_eq_self.mpr (fun _ _ => rfl), fq_push]
    refine ⟨hb _, ?_⟩
    rw [wp_anil]
    simp
    refine ⟨hb _, ?_⟩
    unfold wantLots at hq
    rw [List.map_map] at hq
    simpa [Function.comp_def] using hq
theorem hangs_wp (G : Gr ns rs) {S : List Str} (hS : ∀ x ∈ S, x ∈ ns) (hl : S.length ≤ 500) (hq : Q (.bl (decide ((lotsN (nearL ns rs) ((mkL ns S).map (!·))).length = 1))) mh) : (m_hangs_together [netT ns rs B C, .tup (S.map .str)] mh).wp Q E := by
  have hz : (10000 : Nat) ≤ sizeLine := by decide
  have en : (nearL ns rs).length = ns.length := by simp [nearL]
  unfold m_hangs_together
  rw [wp_zF, wp_runF]
  obtain ⟨N, hN⟩ : ∃ N, N = netT ns rs B C := ⟨_, rfl⟩
  obtain ⟨SS, hSS⟩ : ∃ SS, SS = D.tup (S.map .str) := ⟨_, rfl⟩
  rw [← hN, ← hSS]
  show (sq _ _ [some N, some SS, none, none] mh).wp _
  refine seq_cutJ (fun e h => e = [some N, some SS, some (.rol (((mkL ns S).map (!·)).map .bl)), none] ∧ h = mh) (fun J hJ => ?_) ?_
  · rw [wp_sst, wp_fz, wp_lc, wp_iter, wp_cal, wp_acons, wp_vr]
    refine ⟨_, rfl, ?_⟩
    rw [wp_acons, wp_vr]
    refine ⟨_, rfl, ?_⟩
    rw [wp_anil]
    refine ⟨rfl, ?_⟩
    rw [hN, hSS]
    refine node_marks_wp G hS hl ⟨_, rfl, ?_⟩
    refine lc_map2 mh (mkL ns S) .bl (fun _ => true) (fun b => .bl (!b)) rfl rfl (by have := G.nl; simp [mkL]; omega) (fun _ => rfl) ?_ ?_
    · intro b hb acc
      exact ⟨_, rfl, by simp, fun _ => by simp [wipeD, setMany, truD]⟩
    · rw [List.filter_eq_self.mpr (fun _ _ => rfl), fq_push]
      refine ⟨blws_map fun _ _ => by simp, ?_⟩
      exact hJ _ _ ⟨by rw [hN, hSS]; simp [Function.comp_def], rfl⟩
  rintro e h ⟨rfl, rfl⟩
  rw [wp_ret, wp_bi, wp_ap, wp_acons, wp_cal, wp_acons, wp_cal, wp_acons, wp_vr]
  refine ⟨_, rfl, ?_⟩
  rw [wp_anil]
  refine ⟨rfl, ?_⟩
  rw [hN]
  refine near_lists_wp G fun g b hb nr => ?_
  rw [wp_acons, wp_vr]
  refine ⟨_, rfl, ?_⟩
  rw [wp_anil]
  refine ⟨rfl, ?_⟩
  refine lots_of_wp nr (nbN_dom G) (nbN_sy G) (by rw [en]; have := G.nl; omega) (by simp [mkL, en]) ?_
  rw [wp_anil]
  have len1 : ∀ h, oLen [.rol ((lotsN (nearL ns rs) ((mkL ns S).map (!·))).map outN)] h = some (.int ((lotsN (nearL ns rs) ((mkL ns S).map (!·))).length : Nat), h) := fun h => by simp [oLen, lenD]
  rw [len1, owp_some, wp_kn, o_eq_i, owp_some]
  show FQ _ Q _ _
  rw [fq_any (fun n => by simp) (by simp)]
  have : (((lotsN (nearL ns rs) ((mkL ns S).map (!·))).length : Int) == 1) = decide ((lotsN (nearL ns rs) ((mkL ns S).map (!·))).length = 1) := by
    rw [Bool.eq_iff_iff, beq_iff_eq, decide_eq_true_eq]; omega
  rw [this]
  exact hq
theorem own_links_wp {S : List Str} (hl : rs.length ≤ 500) (hq : Q (.tup ((rs.filter fun l => decide (l.2.1 ∈ S) || decide (l.2.2 ∈ S)).map fun l => .str l.1)) mh) : (m_own_links [netT ns rs B C, .tup (S.map .str)] mh).wp Q E := by
  have hz : (10000 : Nat) ≤ sizeLine := by decide
  unfold m_own_links
  rw [wp_zF, wp_runF]
  obtain ⟨N, hN⟩ : ∃ N, N = netT ns rs B C := ⟨_, rfl⟩
  have on1 : ∀ h, oIx N (.int 1) h = some (.tup (rs.map rowD), h) := fun h => by rw [hN]; simp [oIx, itemsD]
  rw [← hN]
  show (ret _ [some N, some (.tup (S.map .str)), none, none, none] mh).wp _
  rw [wp_ret, wp_ap, wp_acons, wp_fz, wp_lc, wp_iter, wp_bi, wp_vr]
  refine ⟨_, rfl, ?_⟩
  rw [wp_kn, on1, owp_some]
  refine ⟨_, rfl, ?_⟩
  refine lc_map2 mh rs rowD (fun l => decide (l.2.1 ∈ S) || decide (l.2.2 ∈ S)) (fun l => .str l.1) rfl rfl (by omega) (fun _ => rfl) ?_ ?_
  · intro l hl acc
    have i1 : ∀ (x : Str) h, oIn (.str x) (.tup (S.map .str)) h = some (.bl (decide (x ∈ S)), h) := fun x h => o_in_s (l := S) rfl
    refine ⟨[some N, some (.tup (S.map .str)), some (.str l.1), some (.str l.2.1), some (.str l.2.2)], by simp [setP, rowD, setMany, wipeD], ?_, fun _ => by simp⟩
    rw [wp_tor, wp_tb, wp_bi, wp_vr]
    refine ⟨_, rfl, ?_⟩
    rw [wp_vr]
    refine ⟨_, rfl, ?_⟩
    rw [i1, owp_some]
    refine ⟨_, rfl, fun hb => ⟨rfl, by simp at hb ⊢; exact .inl hb⟩, fun hb => ?_⟩
    rw [wp_tb, wp_bi, wp_vr]
    refine ⟨_, rfl, ?_⟩
    rw [wp_vr]
    refine ⟨_, rfl, ?_⟩
    rw [i1, owp_some]
    exact ⟨_, rfl, rfl, by rw [hb]; rfl⟩
  · have hb : ∀ n, D.blws n ((rs.filter fun l => decide (l.2.1 ∈ S) || decide (l.2.2 ∈ S)).map fun l => D.str l.1) = true := fun n => blws_map fun _ _ => by simp
    rw [fq_push]
    refine ⟨hb _, ?_⟩
    rw [wp_anil]
    simp
    exact ⟨hb _, hq⟩
end
end K09
namespace K09
open PySem Det
theorem foundL_snoc (S : List Str) (rs : List Row) (l : Row) : foundL S (rs ++ [l]) = foundL S rs ++ ((if l.2.1 ∈ S ∧ l.2.2 ∉ S then [l.2.2] else []) ++ (if l.2.2 ∈ S ∧ l.2.1 ∉ S then [l.2.1] else [])) := by
  simp [foundL]
theorem foundL_len (S : List Str) (rs : List Row) : (foundL S rs).length ≤ 2 * rs.length := by
  induction rs with
  | nil => simp [foundL]
  | cons l rs ih =>
    have e : foundL S (l :: rs) = ((if l.2.1 ∈ S ∧ l.2.2 ∉ S then [l.2.2] else []) ++ (if l.2.2 ∈ S ∧ l.2.1 ∉ S then [l.2.1] else [])) ++ foundL S rs := by simp [foundL]
    rw [e, List.length_append, List.length_append, List.length_cons]
    split <;> split <;> simp <;> omega
section
variable {mh : MH} {Q : D → MH → Prop} {E : Exn → MH → Prop} {rs : List Row} {ns : List Str} {B C : D}
theorem gates_of_wp {S : List Str} (hl : rs.length ≤ 500) (hq : Q (.tup ((lotS (foundL S rs)).map .str)) mh) : (m_gates_of [netT ns rs B C, .tup (S.map .str)] mh).wp Q E := by
  have hz : (10000 : Nat) ≤ sizeLine := by decide
  have z0 : (0 : Nat) ≤ sizeLine := by decide
  unfold m_gates_of
  rw [wp_zF, wp_runF]
  obtain ⟨N, hN⟩ : ∃ N, N = netT ns rs B C := ⟨_, rfl⟩
  obtain ⟨SS, hSS⟩ : ∃ SS, SS = D.tup (S.map .str) := ⟨_, rfl⟩
  have on1 : ∀ h, oIx N (.int 1) h = some (.tup (rs.map rowD), h) := fun h => by rw [hN]; simp [oIx, itemsD]
  have i1 : ∀ (x : Str) h, oIn (.str x) SS h = some (.bl (decide (x ∈ S)), h) := fun x h => by rw [hSS]; exact o_in_s (l := S) rfl
  have i2 : ∀ (x : Str) h, oNotIn (.str x) SS h = some (.bl (!decide (x ∈ S)), h) := fun x h => by rw [hSS]; exact o_notIn_s (l := S) rfl
  rw [← hN, ← hSS]
  show (sq _ _ [some N, some SS, none, none, none, none] mh).wp _
  refine seq_cut (fun e h => e = [some N, some SS, some (.ref mh.length), none, none, none] ∧ h = mh ++ [.lst (([] : List Str).map .str)]) (by simp [z0]) ?_
  rintro e h ⟨rfl, rfl⟩
  obtain ⟨I, hI⟩ : ∃ I : Nat → List Row → Nv → MH → Prop, ∀ i xs e h, I i xs e h ↔ ∃ v3 v4 v5, e = [some N, some SS, some (.ref mh.length), v3, v4, v5] ∧ h = mh ++ [.lst ((foundL S (rs.take i)).map .str)] := ⟨_, fun _ _ _ _ => Iff.rfl⟩
  refine seq_cutJ (fun e h => ∃ v3 v4 v5, e = [some N, some SS, some (.ref mh.length), v3, v4, v5] ∧ h = mh ++ [.lst ((foundL S rs).map .str)]) (fun J hJ => ?_) ?_
  · rw [wp_sfor, wp_iter, wp_bi, wp_vr]
    refine ⟨_, rfl, ?_⟩
    rw [wp_kn, on1, owp_some]
    refine ⟨_, rfl, ?_⟩
    refine loop_as rs rowD I ((hI _ _ _ _).mpr ⟨none, none, none, rfl, rfl⟩) ?_ fun e h q => ?_
    · intro i l xs e h hd hi hx q
      obtain ⟨v3, v4, v5, rfl, rfl⟩ := (hI _ _ _ _).mp q
      refine ⟨rfl, [some N, some SS, some (.ref mh.length), some (.str l.1), some (.str l.2.1), some (.str l.2.2)], by simp [setP, rowD, setMany], ?_⟩
      have fl := foundL_len S (rs.take i)
      have tl : (rs.take i).length ≤ i := by rw [List.length_take]; omega
      have tk : rs.take (i + 1) = rs.take i ++ [l] := by rw [List.take_add_one, hx]; rfl
      obtain ⟨F, hF⟩ : ∃ F, F = foundL S (rs.take i) := ⟨_, rfl⟩
      rw [← hF] at fl
      rw [← hF]
      have one : ∀ (F : List Str) (a b : Nat) (x y : Str) (O : Po), F.length ≤ 2000 → ([some N, some SS, some (.ref mh.length), some (.str l.1), some (.str l.2.1), some (.str l.2.2)] : Nv)[a]? = some (some (.str x)) → ([some N, some SS, some (.ref mh.length), some (.str l.1), some (.str l.2.1), some (.str l.2.2)] : Nv)[b]? = some (some (.str y)) →
          O.nx [some N, some SS, some (.ref mh.length), some (.str l.1), some (.str l.2.1), some (.str l.2.2)] (mh ++ [.lst ((F ++ (if x ∈ S ∧ y ∉ S then [y] else [])).map .str)]) →
          (sif (tand (tb (bi oIn (vr a) (vr 1))) (tb (bi oNotIn (vr b) (vr 1)))) (drp (app (vr 2) (vr b))) (nop) [some N, some SS, some (.ref mh.length), some (.str l.1), some (.str l.2.1), some (.str l.2.2)] (mh ++ [.lst (F.map .str)])).wp O := fun F a b x y O hF2 ha hb hq => by
        rw [wp_sif, wp_tand, wp_tb, wp_bi, wp_vr]
        refine ⟨_, ha, ?_⟩
        rw [wp_vr]
        refine ⟨_, rfl, ?_⟩
        rw [i1, owp_some]
        refine ⟨_, rfl, fun c1 => ?_, fun c1 => ⟨fun z => (by cases z), fun _ => ?_⟩⟩
        · have c1 := of_decide_eq_true c1
          rw [wp_tb, wp_bi, wp_vr]
          refine ⟨_, hb, ?_⟩
          rw [wp_vr]
          refine ⟨_, rfl, ?_⟩
          rw [i2, owp_some]
          refine ⟨_, rfl, fun c2 => ?_, fun c2 => ?_⟩
          · have c2 : y ∉ S := by simpa using c2
            rw [if_pos ⟨c1, c2⟩] at hq
            rw [wp_drp, wp_app, wp_vr]
            refine ⟨_, rfl, _, rfl, ⟨F.map .str, by simp⟩, ?_⟩
            rw [wp_vr]
            refine ⟨_, hb, F.map .str, by simp, by simp; omega, ?_⟩
            simpa using hq
          · have c2 : y ∈ S := by simpa using c2
            rw [if_neg (fun z => z.2 c2)] at hq
            rw [wp_nop]
            simpa using hq
        · have c1 := of_decide_eq_false c1
          rw [if_neg (fun z => c1 z.1)] at hq
          rw [wp_nop]
          simpa using hq
      refine seq_cut (fun e h => e = [some N, some SS, some (.ref mh.length), some (.str l.1), some (.str l.2.1), some (.str l.2.2)] ∧ h = mh ++ [.lst ((F ++ (if l.2.1 ∈ S ∧ l.2.2 ∉ S then [l.2.2] else [])).map .str)]) ?_ ?_
      · exact one F 4 5 l.2.1 l.2.2 _ (by omega) rfl rfl ⟨rfl, rfl⟩
      rintro e h ⟨rfl, rfl⟩
      refine one _ 5 4 l.2.2 l.2.1 _ (by rw [List.length_append]; split <;> simp <;> omega) rfl rfl ?_
      show I (i + 1) xs _ _
      rw [hI]
      refine ⟨_, _, _, rfl, ?_⟩
      rw [tk, foundL_snoc, hF, List.append_assoc]
    · obtain ⟨v3, v4, v5, rfl, rfl⟩ := (hI _ _ _ _).mp q
      rw [List.take_length]
      exact ⟨rfl, hJ _ _ ⟨v3, v4, v5, rfl, rfl⟩⟩
  rintro e h ⟨v3, v4, v5, rfl, rfl⟩
  have fl := foundL_len S rs
  rw [wp_ret, wp_ap, wp_acons, wp_fz, wp_un, wp_vr]
  refine ⟨_, rfl, ?_⟩
  rw [o_sset (xs := foundL S rs) (it_ref (by simp)) (by omega), owp_some, fq_push]
  refine ⟨blws_str, ?_⟩
  rw [wp_anil]
  simp
  exact hq
end
end K09
namespace K09
open PySem Det
/-! ### the law's own near lists -/
theorem wp_setX {fo fi f : ME} {env : Nv} {mh : MH} {O : Po} : (setX fo fi f env mh).wp O ↔ (f env mh).wp (fun v h => (fo env h).wp (fun o h2 => (fi env h2).wp (fun i h3 => ∃ h4, stX h3 o i v = some h4 ∧ O.nx env h4) (fun x h => O.ex x env h)) (fun x h => O.ex x env h)) (fun x h => O.ex x env h) := wp_lift_iff fun v _ => wp_lift_iff fun o _ => wp_lift_iff fun i h3 => by cases stX h3 o i v <;> simp
def nbS (rs : List Row) (x : Str) : List Str := rs.flatMap fun l => (if l.2.1 = x then [l.2.2] else []) ++ (if l.2.2 = x then [l.2.1] else [])
theorem nbS_snoc (rs : List Row) (l : Row) (x : Str) : nbS (rs ++ [l]) x = nbS rs x ++ ((if l.2.1 = x then [l.2.2] else []) ++ (if l.2.2 = x then [l.2.1] else [])) := by
  simp [nbS]
theorem nbS_len (rs : List Row) (x : Str) : (nbS rs x).length ≤ 2 * rs.length := by
  induction rs with
  | nil => simp [nbS]
  | cons l rs ih =>
    have e : nbS (l :: rs) x = ((if l.2.1 = x then [l.2.2] else []) ++ (if l.2.2 = x then [l.2.1] else [])) ++ nbS rs x := by simp [nbS]
    rw [e, List.length_append, List.length_append, List.length_cons]
    split <;> split <;> simp <;> omega
theorem mem_nbS {rs : List Row} {x y : Str} : y ∈ nbS rs x ↔ ∃ l ∈ rs, (l.2.1 = x ∧ l.2.2 = y) ∨ (l.2.2 = x ∧ l.2.1 = y) := by
  unfold nbS
  rw [List.mem_flatMap]
  refine exists_congr fun l => and_congr Iff.rfl ?_
  rw [List.mem_append]
  refine or_congr ?_ ?_ <;> split <;> simp_all [eq_comm]
def kNear (b : Nat) (ns : List Str) : List (L2.Key × D) := (ns.zipIdx 0).map fun q => (.inr q.1, .ref (b + 1 + q.2))
theorem kNear_snoc (b : Nat) (ns : List Str) (x : Str) : kNear b (ns ++ [x]) = kNear b ns ++ [(.inr x, .ref (b + 1 + ns.length))] := by
  simp [kNear, List.zipIdx_append]
theorem kNear_keys (b : Nat) (ns : List Str) : (kNear b ns).map (fun kv => keyD kv.1) = ns.map .str := by
  unfold kNear
  rw [List.map_map]
  have : ∀ k, (ns.zipIdx k).map ((fun kv : L2.Key × D => keyD kv.1) ∘ fun q => (.inr q.1, .ref (b + 1 + q.2))) = ns.map .str := by
    induction ns with
    | nil => intro k; rfl
    | cons x ns ih => intro k; rw [List.zipIdx_cons, List.map_cons, ih]; rfl
  exact this 0
theorem kNear_val (b : Nat) (ns : List Str) (x : Str) : valD (kNear b ns) (.inr x) = (pos ns x).map fun i => .ref (b + 1 + i) := by
  have : ∀ (ns : List Str) (k : Nat), valD ((ns.zipIdx k).map fun q => ((.inr q.1 : L2.Key), D.ref (b + 1 + q.2))) (.inr x) = (pos ns x).map fun i => .ref (b + 1 + (i + k)) := by
    intro ns
    induction ns with
    | nil => intro k; rfl
    | cons y ns ih =>
      intro k
      rw [List.zipIdx_cons, List.map_cons, valD_cons]
      unfold pos at ih ⊢
      rw [List.findIdx?_cons]
      by_cases h : y = x
      · simp [h]
      · have h2 : ¬ (Sum.inr y : L2.Key) = .inr x := fun e => h (by injection e)
        rw [if_neg h2, ih (k + 1)]
        simp only [h, decide_false, Bool.false_eq_true, if_false, Option.map_map]
        congr 1
        funext i
        simp only [Function.comp]
        congr 1
        omega
  exact this ns 0
def LNear (h : MH) (b : Nat) (ns : List Str) (rs : List Row) : Prop := h[b]? = some (.dk (kNear b ns)) ∧ ∀ i x, ns[i]? = some x → h[b + 1 + i]? = some (.lst ((nbS rs x).map .str))
theorem LNear.mono {h : MH} {b : Nat} {ns : List Str} {rs : List Row} (q : LNear h b ns rs) (g : MH) : LNear (h ++ g) b ns rs :=
  ⟨by rw [List.getElem?_append_left (List.getElem?_eq_some_iff.mp q.1).1]; exact q.1, fun i x hx => by
    have := q.2 i x hx
    rw [List.getElem?_append_left (List.getElem?_eq_some_iff.mp this).1]; exact this⟩
theorem map_set_nodup {ns : List Str} (nd : ns.Nodup) {x : Str} {i : Nat} (h : ns[i]? = some x) (F : Str → Ob) (w : Ob) : (ns.map F).set i w = ns.map fun y => if y = x then w else F y := by
  obtain ⟨hi, hx⟩ := List.getElem?_eq_some_iff.mp h
  refine List.ext_getElem? fun j => ?_
  by_cases hj : i = j
  · subst hj
    rw [List.getElem?_set_self (by simpa using hi)]
    simp [h]
  · rw [List.getElem?_set_ne hj, List.getElem?_map, List.getElem?_map]
    cases hy : ns[j]? with
    | none => rfl
    | some y =>
      obtain ⟨hj2, hy2⟩ := List.getElem?_eq_some_iff.mp hy
      have : y ≠ x := fun e => hj ((List.getElem_inj nd).mp ((hx.trans e.symm).trans hy2.symm))
      simp [this]
theorem pos_none {ns : List Str} {x : Str} (h : x ∉ ns) : pos ns x = none := by
  unfold pos
  rw [List.findIdx?_eq_none_iff]
  intro y hy
  simp only [decide_eq_false_iff_not]
  exact fun e => h (e ▸ hy)
theorem putD_new {b : Nat} {ns : List Str} {x : Str} {d : D} (h : x ∉ ns) : putD (kNear b ns) (.inr x) d = kNear b ns ++ [(.inr x, d)] := by
  unfold putD
  have := valD_any (k := .inr x) (kNear b ns)
  rw [kNear_val, pos_none h] at this
  rw [if_neg (by rw [← this]; simp)]
abbrev hLN (mh : MH) (ns : List Str) (V : Str → List Str) : MH := mh ++ .dk (kNear mh.length ns) :: ns.map fun x => .lst ((V x).map .str)
theorem hLN_near {mh : MH} {ns : List Str} {rs : List Row} : LNear (hLN mh ns (nbS rs)) mh.length ns rs := by
  refine ⟨hget0, fun i x hx => ?_⟩
  rw [List.getElem?_append_right (by omega), show mh.length + 1 + i - mh.length = i + 1 by omega, List.getElem?_cons_succ, List.getElem?_map, hx]; rfl
section
variable {mh : MH} {Q : D → MH → Prop} {E : Exn → MH → Prop} {rs : List Row} {ns : List Str} {B C : D}
theorem law_near_wp (G : Gr ns rs) (hq : Q (.ref mh.length) (hLN mh ns (nbS rs))) : (m__law_near [.tup (ns.map .str), .tup (rs.map rowD)] mh).wp Q E := by
  have hz : (10000 : Nat) ≤ sizeLine := by decide
  have z0 : (0 : Nat) ≤ sizeLine := by decide
  obtain ⟨nd, srt, nl, rl, ends⟩ := G
  unfold m__law_near
  rw [wp_runF]
  obtain ⟨A, hA⟩ : ∃ A, A = D.tup (ns.map .str) := ⟨_, rfl⟩
  obtain ⟨B, hB⟩ : ∃ B, B = D.tup (rs.map rowD) := ⟨_, rfl⟩
  rw [← hA, ← hB]
  show (sq _ _ [some A, some B, none, none, none] mh).wp _
  refine seq_cut (fun e h => e = [some A, some B, some (.ref mh.length), none, none] ∧ h = hLN mh [] (fun _ => [])) (by simp [dct0, kNear, hLN]) ?_
  rintro e h ⟨rfl, rfl⟩
  obtain ⟨I, hI⟩ : ∃ I : Nat → List Str → Nv → MH → Prop, ∀ i xs e h, I i xs e h ↔ ∃ v3, e = [some A, some B, some (.ref mh.length), v3, none] ∧ h = hLN mh (ns.take i) (fun _ => []) := ⟨_, fun _ _ _ _ => Iff.rfl⟩
  refine seq_cutJ (fun e h => ∃ v3, e = [some A, some B, some (.ref mh.length), v3, none] ∧ h = hLN mh ns (fun _ => [])) (fun J hJ => ?_) ?_
  · rw [wp_sfor, wp_iter, wp_vr]
    refine ⟨_, rfl, ?_⟩
    rw [hA]
    refine ⟨_, rfl, ?_⟩
    rw [← hA]
    refine loop_as ns .str I ((hI _ _ _ _).mpr ⟨none, rfl, rfl⟩) ?_ fun e h q => ?_
    · intro i x xs e h hd hi hx q
      obtain ⟨v3, rfl, rfl⟩ := (hI _ _ _ _).mp q
      refine ⟨rfl, [some A, some B, some (.ref mh.length), some (.str x), none], by simp [setP], ?_⟩
      have tk : ns.take (i + 1) = ns.take i ++ [x] := by rw [List.take_add_one, hx]; rfl
      have tl : (ns.take i).length = i := by rw [List.length_take]; omega
      have hnx : x ∉ ns.take i := fun z => by
        have h1 : (ns.take (i + 1)).Nodup := nd.sublist (List.take_sublist _ _)
        rw [tk, List.nodup_append] at h1
        exact h1.2.2 x z x (by simp) rfl
      rw [wp_setX, wp_dlst, wp_anil]
      refine ⟨z0, ?_⟩
      rw [wp_vr]
      refine ⟨_, rfl, ?_⟩
      rw [wp_vr]
      refine ⟨_, rfl, hLN mh (ns.take (i + 1)) (fun _ => []), ?_, ?_⟩
      · have kl : (kNear mh.length (ns.take i)).length < sizeLine := by simp [kNear, tl]; omega
        have hl : (hLN mh (ns.take i) fun _ => []).length = mh.length + 1 + i := by simp [hLN]; omega
        rw [hl]
        show stX (hLN mh (ns.take i) (fun _ => []) ++ [Ob.lst []]) (.ref mh.length) (.str x) _ = _
        have e0 : hLN mh (ns.take i) (fun _ => []) ++ [Ob.lst []] = mh ++ .dk (kNear mh.length (ns.take i)) :: ((ns.take i).map (fun x => Ob.lst []) ++ [.lst []]) := by simp [hLN]
        rw [e0]
        simp only [stX, hget0, dKey]
        rw [if_pos kl, hset0, putD_new hnx]
        congr 1
        rw [tk]
        simp only [hLN, kNear_snoc, List.map_append, tl]
        rfl
      · show I (i + 1) xs _ _
        rw [hI]
        exact ⟨_, rfl, rfl⟩
    · obtain ⟨v3, rfl, rfl⟩ := (hI _ _ _ _).mp q
      rw [List.take_length]
      exact ⟨rfl, hJ _ _ ⟨v3, rfl, rfl⟩⟩
  rintro e h ⟨v3, rfl, rfl⟩
  obtain ⟨K, hK⟩ : ∃ K : Nat → List Row → Nv → MH → Prop, ∀ i xs e h, K i xs e h ↔ ∃ v4, e = [some A, some B, some (.ref mh.length), v3, v4] ∧ h = hLN mh ns (nbS (rs.take i)) := ⟨_, fun _ _ _ _ => Iff.rfl⟩
  refine seq_cutJ (fun e h => ∃ v4, e = [some A, some B, some (.ref mh.length), v3, v4] ∧ h = hLN mh ns (nbS rs)) (fun J hJ => ?_) ?_
  · rw [wp_sfor, wp_iter, wp_vr]
    refine ⟨_, rfl, ?_⟩
    rw [hB]
    refine ⟨_, rfl, ?_⟩
    rw [← hB]
    refine loop_as rs rowD K ((hK _ _ _ _).mpr ⟨none, rfl, rfl⟩) ?_ fun e h q => ?_
    · intro i l xs e h hd hi hx q
      obtain ⟨v4, rfl, rfl⟩ := (hK _ _ _ _).mp q
      refine ⟨rfl, [some A, some B, some (.ref mh.length), v3, some (rowD l)], by simp [setP], ?_⟩
      have tk : rs.take (i + 1) = rs.take i ++ [l] := by rw [List.take_add_one, hx]; rfl
      obtain ⟨m1, m2⟩ := ends l (List.mem_of_getElem? hx)
      obtain ⟨a1, a2, a3⟩ := pI_spec nd m1
      obtain ⟨b1, b2, b3⟩ := pI_spec nd m2
      have x1 : ∀ h, oIx (rowD l) (.int 1) h = some (.str l.2.1, h) := fun h => by simp [rowD, oIx, itemsD]
      have x2 : ∀ h, oIx (rowD l) (.int 2) h = some (.str l.2.2, h) := fun h => by simp [rowD, oIx, itemsD]
      have inx : ∀ V (x : Str), x ∈ ns → oInX (.str x) (.ref mh.length) (hLN mh ns V) = some (.bl true, hLN mh ns V) := fun V x hx => by
        have := (pI_spec nd hx).1
        simp [oInX, dctD, hLN, dKey, kNear_val, this]
      have nx : ∀ V (x : Str), x ∈ ns → oIxX (.ref mh.length) (.str x) (hLN mh ns V) = some (.ref (mh.length + 1 + pI ns x), hLN mh ns V) := fun V x hx => by
        have := (pI_spec nd hx).1
        exact ixX_dk (kds := kNear mh.length ns) hget0 (by rw [kNear_val, this]; rfl)
      have at_ : ∀ (V : Str → List Str) (x : Str), x ∈ ns → (hLN mh ns V)[mh.length + 1 + pI ns x]? = some (.lst ((V x).map .str)) := fun V x hx => by
        rw [List.getElem?_append_right (by omega), show mh.length + 1 + pI ns x - mh.length = pI ns x + 1 by omega, List.getElem?_cons_succ, List.getElem?_map, (pI_spec nd hx).2.1]; rfl
      have put : ∀ (V : Str → List Str) (x y : Str), x ∈ ns → (hLN mh ns V).set (mh.length + 1 + pI ns x) (.lst ((V x).map .str ++ [.str y])) = hLN mh ns fun z => V z ++ if z = x then [y] else [] := fun V x y hx => by
        rw [List.set_append_right _ _ (by omega), show mh.length + 1 + pI ns x - mh.length = pI ns x + 1 by omega, List.set_cons_succ, map_set_nodup nd (pI_spec nd hx).2.1]
        simp only [hLN]
        congr 2
        refine List.map_congr_left fun z _ => ?_
        by_cases hz : z = x
        · subst hz; simp
        · simp [hz]
      have nlen := nbS_len (rs.take i)
      have tl : (rs.take i).length ≤ i := by rw [List.length_take]; omega
      rw [wp_sif, wp_tand, wp_tb, wp_bi, wp_bi, wp_vr]
      refine ⟨_, rfl, ?_⟩
      rw [wp_kn, x1, owp_some, wp_vr]
      refine ⟨_, rfl, ?_⟩
      rw [inx _ _ m1, owp_some]
      refine ⟨_, rfl, fun _ => ?_, fun z => nomatch z⟩
      rw [wp_tb, wp_bi, wp_bi, wp_vr]
      refine ⟨_, rfl, ?_⟩
      rw [wp_kn, x2, owp_some, wp_vr]
      refine ⟨_, rfl, ?_⟩
      rw [inx _ _ m2, owp_some]
      refine ⟨_, rfl, fun _ => ?_, fun z => nomatch z⟩
      have one : ∀ (V : Str → List Str) (a b : Int) (x y : Str) (O : Po), (∀ z, (V z).length ≤ 2000) → x ∈ ns → (∀ h, oIx (rowD l) (.int a) h = some (.str x, h)) → (∀ h, oIx (rowD l) (.int b) h = some (.str y, h)) →
          O.nx [some A, some B, some (.ref mh.length), v3, some (rowD l)] (hLN mh ns fun z => V z ++ if z = x then [y] else []) →
          (drp (app (bi oIxX (vr 2) (bi oIx (vr 4) (kn (.int a)))) (bi oIx (vr 4) (kn (.int b)))) [some A, some B, some (.ref mh.length), v3, some (rowD l)] (hLN mh ns V)).wp O := fun V a b x y O hV hx ha hb hq => by
        rw [wp_drp, wp_app, wp_bi, wp_vr]
        refine ⟨_, rfl, ?_⟩
        rw [wp_bi, wp_vr]
        refine ⟨_, rfl, ?_⟩
        rw [wp_kn, ha, owp_some, nx _ _ hx, owp_some]
        refine ⟨_, rfl, ⟨_, at_ V x hx⟩, ?_⟩
        rw [wp_bi, wp_vr]
        refine ⟨_, rfl, ?_⟩
        rw [wp_kn, hb, owp_some]
        refine ⟨_, at_ V x hx, by have := hV x; simp; omega, ?_⟩
        rw [put _ _ _ hx]
        exact hq
      refine seq_cut (fun e h => e = [some A, some B, some (.ref mh.length), v3, some (rowD l)] ∧ h = hLN mh ns fun z => nbS (rs.take i) z ++ if z = l.2.1 then [l.2.2] else []) ?_ ?_
      · exact one _ 1 2 l.2.1 l.2.2 _ (fun z => by have := nlen z; omega) m1 x1 x2 ⟨rfl, rfl⟩
      rintro e h ⟨rfl, rfl⟩
      refine one _ 2 1 l.2.2 l.2.1 _ (fun z => by have := nlen z; rw [List.length_append]; split <;> simp <;> omega) m2 x2 x1 ?_
      show K (i + 1) xs _ _
      rw [hK]
      refine ⟨_, rfl, ?_⟩
      congr 1
      funext z
      rw [tk, nbS_snoc, List.append_assoc]
      simp only [eq_comm]
    · obtain ⟨v4, rfl, rfl⟩ := (hK _ _ _ _).mp q
      rw [List.take_length]
      exact ⟨rfl, hJ _ _ ⟨v4, rfl, rfl⟩⟩
  rintro e h ⟨v4, rfl, rfl⟩
  rw [wp_ret, wp_vr]
  exact ⟨_, rfl, hq⟩
end
end K09
namespace K09
open PySem Det
/-! ### the law's own lots -/
theorem nbS_dom {ns : List Str} {rs : List Row} (G : Gr ns rs) (a b : Str) (h : b ∈ nbS rs a) : b ∈ ns := by
  obtain ⟨l, hl, h⟩ := mem_nbS.mp h
  obtain ⟨h1, h2⟩ := G.ends l hl
  rcases h with ⟨_, rfl⟩ | ⟨_, rfl⟩
  · exact h2
  · exact h1
theorem nbS_sy (rs : List Row) (a b : Str) (h : b ∈ nbS rs a) : a ∈ nbS rs b := by
  obtain ⟨l, hl, h⟩ := mem_nbS.mp h
  refine mem_nbS.mpr ⟨l, hl, ?_⟩
  rcases h with ⟨h1, h2⟩ | ⟨h1, h2⟩
  · exact .inr ⟨h2, h1⟩
  · exact .inl ⟨h2, h1⟩
def dT (T : List Str) : List (L2.Key × D) := T.map fun x => (.inr x, .bl true)
theorem dT_val (T : List Str) (x : Str) : (valD (dT T) (.inr x)).isSome = decide (x ∈ T) := by
  rw [find_none]
  congr 1
  unfold dT
  rw [List.map_map]
  apply propext
  constructor
  · intro h
    obtain ⟨y, hy, e⟩ := List.mem_map.mp h
    injection e with e
    exact e ▸ hy
  · intro h
    exact List.mem_map.mpr ⟨x, h, rfl⟩
theorem dT_put {T : List Str} {x : Str} (h : x ∉ T) : putD (dT T) (.inr x) (.bl true) = dT (T ++ [x]) := by
  unfold putD
  have := valD_any (k := .inr x) (dT T)
  rw [dT_val] at this
  rw [if_neg (by rw [← this]; simpa using h)]
  simp [dT]
def outS (l : List Str) : D := .tup (l.map .str)
def goneS (S : List Str) (x : Str) : Prop := x ∈ S
noncomputable def lotsS (ns : List Str) (rs : List Row) (S : List Str) : List (List Str) := Lots.lots ns (nbS rs) (goneS S) ns []
abbrev hS (mh : MH) (T : List Str) (L : List (List Str)) (g : MH) : MH := mh ++ .dk (dT T) :: .lst (L.map outS) :: g
section
variable {mh : MH} {Q : D → MH → Prop} {E : Exn → MH → Prop} {rs : List Row} {ns : List Str} {B C : D}
theorem law_lots_wp (G : Gr ns rs) {nb : Nat} (hN : LNear mh nb ns rs) {S : List Str} (hq : Q (.rol ((lotsS ns rs S).map outS)) mh) : (m__law_lots [.ref nb, .tup (S.map .str)] mh).wp Q E := by
  have hz : (10000 : Nat) ≤ sizeLine := by decide
  have z1 : (1 : Nat) ≤ sizeLine := by decide
  have z0 : (0 : Nat) ≤ sizeLine := by decide
  have G0 := G
  obtain ⟨nd, srt, nl, rl, ends⟩ := G0
  unfold m__law_lots
  rw [wp_zF, wp_runF]
  obtain ⟨G', eG⟩ : ∃ G', G' = D.tup (S.map .str) := ⟨_, rfl⟩
  obtain ⟨F, eF⟩ : ∃ F, F = lotsS ns rs S := ⟨_, rfl⟩
  rw [← eG]
  have i1 : ∀ (x : Str) h, oIn (.str x) G' h = some (.bl (decide (x ∈ S)), h) := fun x h => by rw [eG]; exact o_in_s (l := S) rfl
  have i2 : ∀ (x : Str) h, oNotIn (.str x) G' h = some (.bl (!decide (x ∈ S)), h) := fun x h => by rw [eG]; exact o_notIn_s (l := S) rfl
  have near_ix : ∀ Y x, x ∈ ns → oIxX (.ref nb) (.str x) (mh ++ Y) = some (.ref (nb + 1 + pI ns x), mh ++ Y) := fun Y x hx => by
    have := (pI_spec nd hx).1
    exact ixX_dk (kds := kNear nb ns) (hN.mono Y).1 (by rw [kNear_val, this]; rfl)
  have near_at : ∀ Y x, x ∈ ns → (mh ++ Y)[nb + 1 + pI ns x]? = some (.lst ((nbS rs x).map .str)) := fun Y x hx => (hN.mono Y).2 _ _ (pI_spec nd hx).2.1
  show (sq _ _ [some (.ref nb), some G', none, none, none, none, none, none, none] mh).wp _
  refine seq_cut (fun e h => e = [some (.ref nb), some G', some (.ref mh.length), none, none, none, none, none, none] ∧ h = mh ++ [.dk []]) (by simp [dct0]) ?_
  rintro e h ⟨rfl, rfl⟩
  refine seq_cut (fun e h => e = [some (.ref nb), some G', some (.ref mh.length), some (.ref (mh.length + 1)), none, none, none, none, none] ∧ h = hS mh [] [] []) (by simp [z0, hS, dT]) ?_
  rintro e h ⟨rfl, rfl⟩
  obtain ⟨I, hI⟩ : ∃ I : Nat → List Str → Nv → MH → Prop, ∀ i xs e h, I i xs e h ↔ ∃ (T : List Str) (L : List (List Str)) (g : MH) (v4 v5 v6 v7 v8 : Option D), e = [some (.ref nb), some G', some (.ref mh.length), some (.ref (mh.length + 1)), v4, v5, v6, v7, v8] ∧ h = hS mh T L g ∧ T.Nodup ∧ (∀ x ∈ T, x ∈ ns) ∧ (∀ x, x ∈ T ↔ ∃ l ∈ L, x ∈ l) ∧ Lots.Whole (nbS rs) (goneS S) L ∧ Lots.lots ns (nbS rs) (goneS S) xs L = F ∧ L.length ≤ i := ⟨_, fun _ _ _ _ => Iff.rfl⟩
  refine seq_cutJ (fun e h => ∃ (T : List Str) (g : MH) (v4 v5 v6 v7 v8 : Option D), e = [some (.ref nb), some G', some (.ref mh.length), some (.ref (mh.length + 1)), v4, v5, v6, v7, v8] ∧ h = hS mh T F g) (fun J hJ => ?_) ?_
  · rw [wp_sfor, wp_iter, wp_fz, wp_ap, wp_acons, wp_fz, wp_ap, wp_acons, wp_vr]
    refine ⟨_, rfl, ?_⟩
    rw [wp_anil]
    have lx : oListX [.ref nb] (hS mh [] [] []) = some (.ref (hS mh [] [] []).length, hS mh [] [] [] ++ [.lst (ns.map .str)]) := by
      have := (hN.mono (.dk (dT []) :: .lst (([] : List (List Str)).map outS) :: [])).1
      simp only [oListX, this, kNear_keys]
    rw [lx, owp_some, fq_push]
    refine ⟨blws_str, ?_⟩
    rw [wp_anil, o_sorted_s (xs := ns) rfl (by omega), owp_some, fq_push, isort_of_sorted _ srt]
    refine ⟨blws_str, _, rfl, ?_⟩
    refine loop_as ns .str I ((hI _ _ _ _).mpr ⟨[], [], [], none, none, none, none, none, rfl, rfl, List.nodup_nil, by simp, by simp, fun l hl => by simp at hl, ?_, Nat.le_refl _⟩) ?_ fun e h q => ?_
    · rw [eF]; rfl
    · intro i s rest e h hd hi hx q
      obtain ⟨T, L, g, v4, v5, v6, v7, v8, rfl, rfl, t1, t2, h2, h3, h4, h5⟩ := (hI _ _ _ _).mp q
      refine ⟨rfl, [some (.ref nb), some G', some (.ref mh.length), some (.ref (mh.length + 1)), some (.str s), v5, v6, v7, v8], by simp [setP], ?_⟩
      have hs : s ∈ ns := List.mem_of_getElem? hx
      have inT : ∀ (T : List Str) (L : List (List Str)) (g : MH) (x : Str), oInX (.str x) (.ref mh.length) (hS mh T L g) = some (.bl (decide (x ∈ T)), hS mh T L g) := fun T L g x => by
        simp only [oInX, dctD, hget0, dKey, dT_val]
      have ninT : ∀ (T : List Str) (L : List (List Str)) (g : MH) (x : Str), oNotInX (.str x) (.ref mh.length) (hS mh T L g) = some (.bl (!decide (x ∈ T)), hS mh T L g) := fun T L g x => by
        simp only [oNotInX, dctD, hget0, dKey, dT_val]
      have putT : ∀ (T : List Str) (L : List (List Str)) (g : MH) (x : Str), x ∉ T → T.length ≤ 1000 → stX (hS mh T L g) (.ref mh.length) (.str x) (.bl true) = some (hS mh (T ++ [x]) L g) := fun T L g x hx hl => by
        simp only [stX, hget0, dKey]
        rw [if_pos (by simp [dT]; omega), hset0, dT_put hx]
      refine seq_cutJ (fun e h => s ∉ T ∧ s ∉ S ∧ e = [some (.ref nb), some G', some (.ref mh.length), some (.ref (mh.length + 1)), some (.str s), v5, v6, v7, v8] ∧ h = hS mh T L g) (fun J2 hJ2 => ?_) ?_
      · rw [wp_sif, wp_tor, wp_tb, wp_bi, wp_vr]
        refine ⟨_, rfl, ?_⟩
        rw [wp_vr]
        refine ⟨_, rfl, ?_⟩
        rw [inT, owp_some]
        have skip : Lots.Seen (goneS S) L s → I (i + 1) rest [some (.ref nb), some G', some (.ref mh.length), some (.ref (mh.length + 1)), some (.str s), v5, v6, v7, v8] (hS mh T L g) := fun z =>
          (hI _ _ _ _).mpr ⟨T, L, g, _, _, _, _, _, rfl, rfl, t1, t2, h2, h3, by rw [← h4, Lots.lots_skip z], by omega⟩
        refine ⟨_, rfl, fun c => ?_, fun c => ?_⟩
        · have c := of_decide_eq_true c
          refine ⟨fun _ => ?_, fun z => nomatch z⟩
          rw [wp_cnt]
          exact skip (.inr ((h2 s).mp c))
        · have c := of_decide_eq_false c
          rw [wp_tb, wp_bi, wp_vr]
          refine ⟨_, rfl, ?_⟩
          rw [wp_vr]
          refine ⟨_, rfl, ?_⟩
          rw [i1, owp_some]
          refine ⟨_, rfl, fun c2 => ?_, fun c2 => ?_⟩
          · have c2 := of_decide_eq_true c2
            rw [wp_cnt]
            exact skip (.inl c2)
          · have c2 := of_decide_eq_false c2
            rw [wp_nop]
            exact hJ2 _ _ ⟨c, c2, rfl, rfl⟩
      rintro e h ⟨c1, c2, rfl, rfl⟩
      have ns' : ¬ Lots.Seen (goneS S) L s := fun z => by
        rcases z with z | z
        · exact c2 z
        · exact c1 ((h2 s).mpr z)
      have tl := nd_len t1 t2
      refine seq_cut (fun e h => e = [some (.ref nb), some G', some (.ref mh.length), some (.ref (mh.length + 1)), some (.str s), some (.ref (mh.length + 2 + g.length)), v6, v7, v8] ∧ h = hS mh T L (g ++ [.lst ([s].map .str)])) ?_ ?_
      · rw [wp_sst, wp_dlst, wp_acons, wp_vr]
        refine ⟨_, rfl, ?_⟩
        rw [wp_anil]
        refine ⟨z1, ?_, ?_⟩
        · simp [hS]; omega
        · simp [hS]
      rintro e h ⟨rfl, rfl⟩
      refine seq_cut (fun e h => e = [some (.ref nb), some G', some (.ref mh.length), some (.ref (mh.length + 1)), some (.str s), some (.ref (mh.length + 2 + g.length)), v6, v7, v8] ∧ h = hS mh (T ++ [s]) L (g ++ [.lst ([s].map .str)])) ?_ ?_
      · rw [wp_setX, wp_kn, wp_vr]
        refine ⟨_, rfl, ?_⟩
        rw [wp_vr]
        exact ⟨_, rfl, _, putT _ _ _ _ c1 (by omega), rfl, rfl⟩
      rintro e h ⟨rfl, rfl⟩
      refine seq_cut (fun e h => e = [some (.ref nb), some G', some (.ref mh.length), some (.ref (mh.length + 1)), some (.str s), some (.ref (mh.length + 2 + g.length)), some (nD 0), v7, v8] ∧ h = hS mh (T ++ [s]) L (g ++ [.lst ([s].map .str)])) (by simp [nD]) ?_
      rintro e h ⟨rfl, rfl⟩
      obtain ⟨sn, esn⟩ : ∃ sn, sn = Lots.Seen (goneS S) L := ⟨_, rfl⟩
      have sne : ∀ x, sn x ↔ x ∈ S ∨ ∃ l ∈ L, x ∈ l := fun x => by rw [esn]; rfl
      rw [← esn] at ns'
      obtain ⟨K, hK⟩ : ∃ K : Nat → Nv → MH → Prop, ∀ m e h, K m e h ↔ ∃ (T lot : List Str) (at_ : Nat) (v7 v8 : Option D), e = [some (.ref nb), some G', some (.ref mh.length), some (.ref (mh.length + 1)), some (.str s), some (.ref (mh.length + 2 + g.length)), some (nD at_), v7, v8] ∧ h = hS mh T L (g ++ [.lst (lot.map .str)]) ∧ T.Nodup ∧ (∀ x ∈ T, x ∈ ns) ∧ (∀ x, x ∈ T ↔ (∃ l ∈ L, x ∈ l) ∨ x ∈ lot) ∧ Lots.Grow (nbS rs) sn s lot at_ ∧ at_ ≤ lot.length ∧ (∀ j ∈ lot, j ∈ ns) ∧ m + at_ = ns.length := ⟨_, fun _ _ _ => Iff.rfl⟩
      refine seq_cutJ (fun e h => ∃ (T lot : List Str) (v6 v7 v8 : Option D), e = [some (.ref nb), some G', some (.ref mh.length), some (.ref (mh.length + 1)), some (.str s), some (.ref (mh.length + 2 + g.length)), v6, v7, v8] ∧ h = hS mh T L (g ++ [.lst (lot.map .str)]) ∧ T.Nodup ∧ (∀ x ∈ T, x ∈ ns) ∧ (∀ x, x ∈ T ↔ (∃ l ∈ L, x ∈ l) ∨ x ∈ lot) ∧ Lots.Grow (nbS rs) sn s lot lot.length ∧ (∀ j ∈ lot, j ∈ ns)) (fun J2 hJ2 => ?_) ?_
      · refine while_wp K ns.length (by omega) ((hK _ _ _).mpr ⟨T ++ [s], [s], 0, v7, v8, rfl, rfl, ?_, fun x hx => ?_, fun x => ?_, .start ns', by simp, fun j hj => by rw [List.mem_singleton.mp hj]; exact hs, rfl⟩) ?_
        · rw [List.nodup_append]
          exact ⟨t1, by simp, fun a ha b hb e => c1 (by rw [List.mem_singleton] at hb; rw [← hb, ← e]; exact ha)⟩
        · rcases List.mem_append.mp hx with hx | hx
          · exact t2 x hx
          · rw [List.mem_singleton.mp hx]; exact hs
        · rw [List.mem_append, h2]
        intro m e h q
        obtain ⟨T, lot, at_, v7, v8, rfl, rfl, k1, k0, k2, k3, k4, k5, k6⟩ := (hK _ _ _).mp q
        have ll := nd_len k3.nd k5
        have lotlen : ∀ (T lot : List Str), oLen [.ref (mh.length + 2 + g.length)] (hS mh T L (g ++ [.lst (lot.map .str)])) = some (.int (lot.length : Nat), hS mh T L (g ++ [.lst (lot.map .str)])) := fun sl lot => by simp [oLen, lenD, hget2]
        rw [wp_tb, wp_bi, wp_vr]
        refine ⟨_, rfl, ?_⟩
        rw [wp_ap, wp_acons, wp_vr]
        refine ⟨_, rfl, ?_⟩
        rw [wp_anil, lotlen, owp_some]
        show owp (oLt (.int (at_ : Nat)) (.int (lot.length : Nat)) _) _
        rw [o_lt_i, owp_some]
        refine ⟨_, rfl, fun hb => ?_, fun hb => ?_⟩
        rotate_left
        · have hb := of_decide_eq_false hb
          have e : at_ = lot.length := by omega
          rw [e] at k3
          exact hJ2 _ _ ⟨T, lot, _, _, _, rfl, rfl, k1, k0, k2, k3, k5⟩
        have hb : at_ < lot.length := by have := of_decide_eq_true hb; omega
        obtain ⟨x, hx0⟩ : ∃ x, lot[at_]? = some x := ⟨_, List.getElem?_eq_getElem hb⟩
        have xl : x ∈ lot := List.mem_of_getElem? hx0
        have hxn := k5 x xl
        refine seq_cut (fun e h => e = [some (.ref nb), some G', some (.ref mh.length), some (.ref (mh.length + 1)), some (.str s), some (.ref (mh.length + 2 + g.length)), some (nD at_), some (.ref (nb + 1 + pI ns x)), v8] ∧ h = hS mh T L (g ++ [.lst (lot.map .str)])) ?_ ?_
        · rw [wp_sst, wp_bi, wp_vr]
          refine ⟨_, rfl, ?_⟩
          rw [wp_bi, wp_vr]
          refine ⟨_, rfl, ?_⟩
          rw [wp_vr]
          refine ⟨_, rfl, ?_⟩
          show owp (oIx (.ref (mh.length + 2 + g.length)) (.int (at_ : Nat)) _) _
          rw [o_ix (d := .str x) (it_ref hget2) (by rw [atI_nat, List.getElem?_map, hx0]; rfl), owp_some, near_ix _ _ hxn, owp_some]
          exact ⟨rfl, rfl⟩
        rintro e h ⟨rfl, rfl⟩
        obtain ⟨R, hR⟩ : ∃ R : Nat → List Str → Nv → MH → Prop, ∀ k ys e h, R k ys e h ↔ ∃ (T lot : List Str) (v8 : Option D), e = [some (.ref nb), some G', some (.ref mh.length), some (.ref (mh.length + 1)), some (.str s), some (.ref (mh.length + 2 + g.length)), some (nD at_), some (.ref (nb + 1 + pI ns x)), v8] ∧ h = hS mh T L (g ++ [.lst (lot.map .str)]) ∧ T.Nodup ∧ (∀ x ∈ T, x ∈ ns) ∧ (∀ x, x ∈ T ↔ (∃ l ∈ L, x ∈ l) ∨ x ∈ lot) ∧ Lots.Grow (nbS rs) sn s lot at_ ∧ lot[at_]? = some x ∧ (∀ j ∈ lot, j ∈ ns) ∧ (∀ y ∈ (nbS rs x).take k, sn y ∨ y ∈ lot) := ⟨_, fun _ _ _ _ => Iff.rfl⟩
        refine seq_cutJ (R (nbS rs x).length []) (fun J3 hJ3 => ?_) ?_
        · rw [wp_sfor, wp_iter, wp_vr]
          refine ⟨_, rfl, _, itD_ref (near_at _ x hxn), ?_⟩
          refine loop_as (nbS rs x) .str R ((hR _ _ _ _).mpr ⟨T, lot, v8, rfl, rfl, k1, k0, k2, k3, hx0, k5, by simp⟩) ?_ fun e h q => ?_
          · intro k y ys e h hd hk hp q
            obtain ⟨T, lot, v8, rfl, rfl, k1, k0, k2, k3, hx0, k5, k7⟩ := (hR _ _ _ _).mp q
            refine ⟨by simp [lstIs, near_at _ x hxn], ?_⟩
            refine ⟨[some (.ref nb), some G', some (.ref mh.length), some (.ref (mh.length + 1)), some (.str s), some (.ref (mh.length + 2 + g.length)), some (nD at_), some (.ref (nb + 1 + pI ns x)), some (.str y)], by simp [setP], ?_⟩
            have hyx : y ∈ nbS rs x := List.mem_of_getElem? hp
            have hyn : y ∈ ns := nbS_dom G _ _ hyx
            have tk : (nbS rs x).take (k + 1) = (nbS rs x).take k ++ [y] := by rw [List.take_add_one, hp]; rfl
            have stay : (sn y ∨ y ∈ lot) → R (k + 1) ys [some (.ref nb), some G', some (.ref mh.length), some (.ref (mh.length + 1)), some (.str s), some (.ref (mh.length + 2 + g.length)), some (nD at_), some (.ref (nb + 1 + pI ns x)), some (.str y)] (hS mh T L (g ++ [.lst (lot.map .str)])) := fun z => by
              rw [hR]
              refine ⟨T, lot, _, rfl, rfl, k1, k0, k2, k3, hx0, k5, fun w hw => ?_⟩
              rw [tk] at hw
              rcases List.mem_append.mp hw with hw | hw
              · exact k7 w hw
              · rw [List.mem_singleton.mp hw]; exact z
            rw [wp_sif, wp_tand, wp_tb, wp_bi, wp_vr]
            refine ⟨_, rfl, ?_⟩
            rw [wp_vr]
            refine ⟨_, rfl, ?_⟩
            rw [ninT, owp_some]
            refine ⟨_, rfl, fun c1 => ?_, fun c1 => ⟨fun z => (nomatch z), fun _ => ?_⟩⟩
            rotate_left
            · have c1 : y ∈ T := by simpa using c1
              rw [wp_nop]
              refine stay ?_
              rcases (k2 y).mp c1 with z | z
              · exact .inl ((sne y).mpr (.inr z))
              · exact .inr z
            have c1 : y ∉ T := by simpa using c1
            rw [wp_tb, wp_bi, wp_vr]
            refine ⟨_, rfl, ?_⟩
            rw [wp_vr]
            refine ⟨_, rfl, ?_⟩
            rw [i2, owp_some]
            refine ⟨_, rfl, fun c2 => ?_, fun c2 => ?_⟩
            rotate_left
            · have c2 : y ∈ S := by simpa using c2
              rw [wp_nop]
              exact stay (.inl ((sne y).mpr (.inl c2)))
            have c2 : y ∉ S := by simpa using c2
            have hno : ¬ sn y := fun z => by
              rcases (sne y).mp z with z | z
              · exact c2 z
              · exact c1 ((k2 y).mpr (.inl z))
            have hnl : y ∉ lot := fun z => c1 ((k2 y).mpr (.inr z))
            have tl := nd_len k1 k0
            refine seq_cut (fun e h => e = [some (.ref nb), some G', some (.ref mh.length), some (.ref (mh.length + 1)), some (.str s), some (.ref (mh.length + 2 + g.length)), some (nD at_), some (.ref (nb + 1 + pI ns x)), some (.str y)] ∧ h = hS mh (T ++ [y]) L (g ++ [.lst (lot.map .str)])) ?_ ?_
            · rw [wp_setX, wp_kn, wp_vr]
              refine ⟨_, rfl, ?_⟩
              rw [wp_vr]
              exact ⟨_, rfl, _, putT _ _ _ _ c1 (by omega), rfl, rfl⟩
            rintro e h ⟨rfl, rfl⟩
            have ll := nd_len k3.nd k5
            rw [wp_drp, wp_app, wp_vr]
            refine ⟨_, rfl, _, rfl, ⟨_, hget2⟩, ?_⟩
            rw [wp_vr]
            refine ⟨_, rfl, lot.map .str, hget2, by simp; omega, ?_⟩
            rw [hset2]
            show R (k + 1) ys _ _
            rw [hR]
            have aln : at_ < lot.length := (List.getElem?_eq_some_iff.mp hx0).1
            refine ⟨T ++ [y], lot ++ [y], _, rfl, by simp, ?_, fun j hj => ?_, fun j => ?_, k3.add (List.mem_of_getElem? hx0) hyx hno hnl (by omega), by rw [List.getElem?_append_left aln]; exact hx0, fun j hj => ?_, fun z hz => ?_⟩
            · rw [List.nodup_append]
              exact ⟨k1, by simp, fun a ha b hb e => c1 (by rw [List.mem_singleton] at hb; rw [← hb, ← e]; exact ha)⟩
            · rcases List.mem_append.mp hj with hj | hj
              · exact k0 j hj
              · rw [List.mem_singleton.mp hj]; exact hyn
            · rw [List.mem_append, List.mem_append, k2, or_assoc]
            · rcases List.mem_append.mp hj with hj | hj
              · exact k5 j hj
              · rw [List.mem_singleton.mp hj]; exact hyn
            · rw [tk] at hz
              rcases List.mem_append.mp hz with hz | hz
              · exact (k7 z hz).imp id fun q => List.mem_append_left _ q
              · exact .inr (List.mem_append_right _ hz)
          · obtain ⟨T, lot, v8, rfl, rfl, k⟩ := (hR _ _ _ _).mp q
            exact ⟨by simp [lstIs, near_at _ x hxn], hJ3 _ _ ((hR _ _ _ _).mpr ⟨T, lot, v8, rfl, rfl, k⟩)⟩
        intro e h q
        obtain ⟨T, lot, v8, rfl, rfl, k1, k0, k2, k3, hx0, k5, k7⟩ := (hR _ _ _ _).mp q
        rw [List.take_length] at k7
        rw [wp_sst, wp_bi, wp_vr]
        refine ⟨_, rfl, ?_⟩
        rw [wp_kn]
        show owp (oAdd (.int (at_ : Nat)) (.int 1) _) _
        rw [o_add_i, owp_some]
        have aln : at_ < lot.length := (List.getElem?_eq_some_iff.mp hx0).1
        have ll := nd_len k3.nd k5
        refine ⟨m - 1, by omega, ?_⟩
        rw [hK]
        exact ⟨T, lot, at_ + 1, some (.ref (nb + 1 + pI ns x)), v8, by simp [nD], rfl, k1, k0, k2, k3.next hx0 k7, by omega, k5, by omega⟩
      rintro e h ⟨T2, lot, v6, v7, v8, rfl, rfl, k1, k0, k2, k3, k5⟩
      have ll := nd_len k3.nd k5
      have dm : ∀ a ∈ ns, ∀ b ∈ nbS rs a, b ∈ ns := fun a _ b hb => nbS_dom G a b hb
      have cl : isort leS lot = Lots.cls ns (nbS rs) (goneS S) s := by
        have p := isort_perm_self (le := leS) lot
        refine sorted_one (isort_sorted (le := leS) (fun a b c h k => leS_trans h k) leS_total _) (List.Pairwise.filter _ srt) (p.nodup_iff.mpr k3.nd) (List.Pairwise.filter _ nd) fun a => ?_
        rw [p.mem_iff]
        rw [esn] at k3
        exact Lots.grown_cls (nbS_sy rs) dm h3 hs (by rw [← esn]; exact ns') k3 a
      rw [wp_drp, wp_app, wp_vr]
      refine ⟨_, rfl, _, rfl, ⟨_, hget1⟩, ?_⟩
      rw [wp_ap, wp_acons, wp_fz, wp_ap, wp_acons, wp_vr]
      refine ⟨_, rfl, ?_⟩
      rw [wp_anil, o_sorted_s (xs := lot) (it_ref hget2) (by omega), owp_some, fq_push]
      refine ⟨blws_str, ?_⟩
      rw [wp_anil, o_tuple]
      refine ⟨_, rfl, L.map outS, hget1, by simp; omega, ?_⟩
      rw [hset1]
      show I (i + 1) rest _ _
      rw [hI]
      refine ⟨T2, L ++ [Lots.cls ns (nbS rs) (goneS S) s], g ++ [.lst (lot.map .str)], _, _, _, _, _, rfl, by simp [hS, outS, cl], k1, k0, fun j => ?_, ?_, ?_, by simp; omega⟩
      · rw [k2, ← cl]
        have : ∀ a, a ∈ isort leS lot ↔ a ∈ lot := fun a => (isort_perm_self _).mem_iff
        simp only [List.mem_append, List.mem_singleton, or_and_right, exists_or, exists_eq_left, this]
      · exact Lots.Whole.push dm h3 (by rw [← esn]; exact ns')
      · rw [← h4, Lots.lots_take (by rw [← esn]; exact ns')]
    · obtain ⟨T, L, g, v4, v5, v6, v7, v8, rfl, rfl, t1, t2, h2, h3, h4, h5⟩ := (hI _ _ _ _).mp q
      have h4 : L = F := h4
      subst h4
      exact ⟨rfl, hJ _ _ ⟨T, g, v4, v5, v6, v7, v8, rfl, rfl⟩⟩
  rintro e h ⟨T, g, v4, v5, v6, v7, v8, rfl, rfl⟩
  rw [wp_ret, wp_vr]
  refine ⟨_, rfl, ?_⟩
  show FQ mh Q _ _
  rw [fq_new (xs := F.map outS) (by omega) hget1]
  refine ⟨blws_map fun l _ => blws_map (n := mh.length) (f := D.str) fun _ _ => by simp, Kept.add, ?_⟩
  rw [eF]
  simpa [hS] using hq
end
end K09
namespace K09
open PySem Det
/-! ### both kinds of lots are one -/
theorem nm_at {ns : List Str} {i : Nat} (h : i < ns.length) : ns[i]? = some (nm ns i) := by
  simp [nm, List.getD, List.getElem?_eq_getElem h]
theorem nm_mem {ns : List Str} {i : Nat} (h : i < ns.length) : nm ns i ∈ ns := List.mem_of_getElem? (nm_at h)
theorem nm_map (ns : List Str) : (List.range ns.length).map (nm ns) = ns := by
  refine List.ext_getElem? fun i => ?_
  rw [List.getElem?_map]
  by_cases h : i < ns.length
  · rw [List.getElem?_range h, nm_at h]; rfl
  · rw [List.getElem?_eq_none (by simp; omega), List.getElem?_eq_none (by omega)]; rfl
theorem nm_inj {ns : List Str} (nd : ns.Nodup) {a b : Nat} (ha : a < ns.length) (hb : b < ns.length) (e : nm ns a = nm ns b) : a = b := by
  have h1 := (pos_spec nd).mpr (nm_at ha)
  have h2 := (pos_spec nd).mpr (nm_at hb)
  rw [e, h2] at h1
  exact (Option.some.inj h1).symm
theorem pI_nm {ns : List Str} (nd : ns.Nodup) {a : Nat} (ha : a < ns.length) : pI ns (nm ns a) = a := by
  unfold pI
  rw [(pos_spec nd).mpr (nm_at ha)]; rfl
theorem nm_pI {ns : List Str} (nd : ns.Nodup) {x : Str} (hx : x ∈ ns) : nm ns (pI ns x) = x := by
  have h := (pI_spec nd hx).2
  have := nm_at h.2
  rw [h.1] at this
  exact (Option.some.inj this).symm
theorem nb_map {ns : List Str} {rs : List Row} (G : Gr ns rs) {a : Nat} (ha : a < ns.length) (y : Str) : y ∈ nbS rs (nm ns a) ↔ ∃ b ∈ nbN (nearL ns rs) a, nm ns b = y := by
  have nd := G.nd
  rw [mem_nbS]
  constructor
  · rintro ⟨l, hl, h⟩
    obtain ⟨m1, m2⟩ := G.ends l hl
    have hm : (pI ns l.2.1, pI ns l.2.2) ∈ rI ns rs := List.mem_map.mpr ⟨l, hl, rfl⟩
    rcases h with ⟨h1, rfl⟩ | ⟨h1, rfl⟩
    · refine ⟨pI ns l.2.2, (nbN_mem G).mpr (.inl ?_), nm_pI nd m2⟩
      rw [h1, pI_nm nd ha] at hm; exact hm
    · refine ⟨pI ns l.2.1, (nbN_mem G).mpr (.inr ?_), nm_pI nd m1⟩
      rw [h1, pI_nm nd ha] at hm; exact hm
  · rintro ⟨b, hb, rfl⟩
    rcases (nbN_mem G).mp hb with h | h
    · obtain ⟨l, hl, e⟩ := List.mem_map.mp h
      obtain ⟨m1, m2⟩ := G.ends l hl
      injection e with e1 e2
      exact ⟨l, hl, .inl ⟨by rw [← e1, nm_pI nd m1], by rw [← e2, nm_pI nd m2]⟩⟩
    · obtain ⟨l, hl, e⟩ := List.mem_map.mp h
      obtain ⟨m1, m2⟩ := G.ends l hl
      injection e with e1 e2
      exact ⟨l, hl, .inr ⟨by rw [← e2, nm_pI nd m2], by rw [← e1, nm_pI nd m1]⟩⟩
theorem want_eq {ns : List Str} {rs : List Row} (G : Gr ns rs) (S : List Str) : wantLots ns rs (mkL ns S) = lotsS ns rs S := by
  have en : (nearL ns rs).length = ns.length := by simp [nearL]
  have h := Lots.lots_map (nb := nbN (nearL ns rs)) (nb' := nbS rs) (gone := goneL (mkL ns S)) (gone' := goneS S) (nm ns) (List.range ns.length)
    (fun a ha b hb e => nm_inj G.nd (List.mem_range.mp ha) (List.mem_range.mp hb) e)
    (fun a _ b hb => List.mem_range.mpr (by rw [← en]; exact nbN_dom G a b hb))
    (fun a ha y => nb_map G (List.mem_range.mp ha) y)
    (fun a ha => by
      have := nm_at (List.mem_range.mp ha)
      simp [goneS, goneL, mkL, this])
    (List.range ns.length) [] (fun _ h => h) (by simp)
  rw [nm_map] at h
  unfold wantLots lotsN lotsS
  rw [en]
  exact h.symm
theorem mkL_not (ns S : List Str) : (mkL ns S).map (!·) = mkL ns (ns.filter fun x => !decide (x ∈ S)) := by
  unfold mkL
  rw [List.map_map]
  refine List.map_congr_left fun x hx => ?_
  simp [hx]
theorem hang_eq {ns : List Str} {rs : List Row} (G : Gr ns rs) (S : List Str) : (lotsN (nearL ns rs) ((mkL ns S).map (!·))).length = (lotsS ns rs (ns.filter fun x => !decide (x ∈ S))).length := by
  rw [mkL_not, ← want_eq G, wantLots, List.length_map]
section
variable {mh : MH} {Q : D → MH → Prop} {E : Exn → MH → Prop} {rs : List Row} {ns : List Str} {B C : D}
theorem law_owns_wp {S : List Str} (hl : rs.length ≤ 500) (hq : Q (.tup ((rs.filter fun l => decide (l.2.1 ∈ S) || decide (l.2.2 ∈ S)).map fun l => .str l.1)) mh) : (m__law_owns [netT ns rs B C, .tup (S.map .str)] mh).wp Q E := by
  have hz : (10000 : Nat) ≤ sizeLine := by decide
  unfold m__law_owns
  rw [wp_zF, wp_runF]
  obtain ⟨N, hN⟩ : ∃ N, N = netT ns rs B C := ⟨_, rfl⟩
  have on1 : ∀ h, oIx N (.int 1) h = some (.tup (rs.map rowD), h) := fun h => by rw [hN]; simp [oIx, itemsD]
  rw [← hN]
  show (ret _ [some N, some (.tup (S.map .str)), none] mh).wp _
  rw [wp_ret, wp_ap, wp_acons, wp_fz, wp_lc, wp_iter, wp_bi, wp_vr]
  refine ⟨_, rfl, ?_⟩
  rw [wp_kn, on1, owp_some]
  refine ⟨_, rfl, ?_⟩
  refine lc_map2 mh rs rowD (fun l => decide (l.2.1 ∈ S) || decide (l.2.2 ∈ S)) (fun l => .str l.1) rfl rfl (by omega) (fun _ => rfl) ?_ ?_
  · intro l hl acc
    have i1 : ∀ (x : Str) h, oIn (.str x) (.tup (S.map .str)) h = some (.bl (decide (x ∈ S)), h) := fun x h => o_in_s (l := S) rfl
    have x0 : ∀ h, oIx (rowD l) (.int 0) h = some (.str l.1, h) := fun h => by simp [rowD, oIx, itemsD]
    have x1 : ∀ h, oIx (rowD l) (.int 1) h = some (.str l.2.1, h) := fun h => by simp [rowD, oIx, itemsD]
    have x2 : ∀ h, oIx (rowD l) (.int 2) h = some (.str l.2.2, h) := fun h => by simp [rowD, oIx, itemsD]
    refine ⟨[some N, some (.tup (S.map .str)), some (rowD l)], by simp [setP, wipeD], ?_, fun _ => by simp [x0]⟩
    rw [wp_tor, wp_tb, wp_bi, wp_bi, wp_vr]
    refine ⟨_, rfl, ?_⟩
    rw [wp_kn, x1, owp_some, wp_vr]
    refine ⟨_, rfl, ?_⟩
    rw [i1, owp_some]
    refine ⟨_, rfl, fun hb => ⟨rfl, by simp at hb ⊢; exact .inl hb⟩, fun hb => ?_⟩
    rw [wp_tb, wp_bi, wp_bi, wp_vr]
    refine ⟨_, rfl, ?_⟩
    rw [wp_kn, x2, owp_some, wp_vr]
    refine ⟨_, rfl, ?_⟩
    rw [i1, owp_some]
    exact ⟨_, rfl, rfl, by rw [hb]; rfl⟩
  · have hb : ∀ n, D.blws n ((rs.filter fun l => decide (l.2.1 ∈ S) || decide (l.2.2 ∈ S)).map fun l => D.str l.1) = true := fun n => blws_map fun _ _ => by simp
    rw [fq_push]
    refine ⟨hb _, ?_⟩
    rw [wp_anil]
    simp
    exact ⟨hb _, hq⟩
theorem mem_foundL {S : List Str} {rs : List Row} {y : Str} : y ∈ foundL S rs ↔ y ∉ S ∧ ∃ x ∈ S, y ∈ nbS rs x := by
  unfold foundL
  rw [List.mem_flatMap]
  constructor
  · rintro ⟨l, hl, h⟩
    rcases List.mem_append.mp h with h | h
    · split at h
      · rename_i c
        rw [List.mem_singleton] at h
        subst h
        exact ⟨c.2, l.2.1, c.1, mem_nbS.mpr ⟨l, hl, .inl ⟨rfl, rfl⟩⟩⟩
      · cases h
    · split at h
      · rename_i c
        rw [List.mem_singleton] at h
        subst h
        exact ⟨c.2, l.2.2, c.1, mem_nbS.mpr ⟨l, hl, .inr ⟨rfl, rfl⟩⟩⟩
      · cases h
  · rintro ⟨h1, x, hx, h2⟩
    obtain ⟨l, hl, h⟩ := mem_nbS.mp h2
    refine ⟨l, hl, List.mem_append.mpr ?_⟩
    rcases h with ⟨rfl, rfl⟩ | ⟨rfl, rfl⟩
    · exact .inl (by rw [if_pos ⟨hx, h1⟩]; simp)
    · exact .inr (by rw [if_pos ⟨hx, h1⟩]; simp)
theorem law_gates_wp (G : Gr ns rs) {nb : Nat} (hN : LNear mh nb ns rs) {S : List Str} (hS : ∀ x ∈ S, x ∈ ns) (sl : S.length ≤ 500) (hq : Q (.tup ((lotS (foundL S rs)).map .str)) mh) : (m__law_gates [.ref nb, .tup (S.map .str)] mh).wp Q E := by
  have hz : (10000 : Nat) ≤ sizeLine := by decide
  have z0 : (0 : Nat) ≤ sizeLine := by decide
  have G0 := G
  obtain ⟨nd, srt, nl, rl, ends⟩ := G0
  unfold m__law_gates
  rw [wp_zF, wp_runF]
  obtain ⟨A, eA⟩ : ∃ A, A = D.tup (S.map .str) := ⟨_, rfl⟩
  rw [← eA]
  have near_ix : ∀ Y x, x ∈ ns → oIxX (.ref nb) (.str x) (mh ++ Y) = some (.ref (nb + 1 + pI ns x), mh ++ Y) := fun Y x hx => by
    have := (pI_spec nd hx).1
    exact ixX_dk (kds := kNear nb ns) (hN.mono Y).1 (by rw [kNear_val, this]; rfl)
  have near_at : ∀ Y x, x ∈ ns → (mh ++ Y)[nb + 1 + pI ns x]? = some (.lst ((nbS rs x).map .str)) := fun Y x hx => (hN.mono Y).2 _ _ (pI_spec nd hx).2.1
  show (sq _ _ [some (.ref nb), some A, none, none, none, none] mh).wp _
  refine seq_cut (fun e h => e = [some (.ref nb), some A, some (.ref mh.length), none, none, none] ∧ h = mh ++ [.dk []]) (by simp [dct0]) ?_
  rintro e h ⟨rfl, rfl⟩
  obtain ⟨I, hI⟩ : ∃ I : Nat → List Str → Nv → MH → Prop, ∀ i xs e h, I i xs e h ↔ ∃ v3, ∃ kd, e = [some (.ref nb), some A, some (.ref mh.length), v3, none, none] ∧ h = mh ++ [.dk kd] ∧ kd.length ≤ i ∧ ∀ x, (valD kd (.inr x)).isSome = decide (x ∈ S.take i) := ⟨_, fun _ _ _ _ => Iff.rfl⟩
  refine seq_cutJ (fun e h => ∃ v3 kd, e = [some (.ref nb), some A, some (.ref mh.length), v3, none, none] ∧ h = mh ++ [.dk kd] ∧ ∀ x, (valD kd (.inr x)).isSome = decide (x ∈ S)) (fun J hJ => ?_) ?_
  · rw [wp_sfor, wp_iter, wp_vr]
    refine ⟨_, rfl, ?_⟩
    rw [eA]
    refine ⟨_, rfl, ?_⟩
    rw [← eA]
    refine loop_as S .str I ((hI _ _ _ _).mpr ⟨none, [], rfl, rfl, Nat.le_refl _, by simp [valD]⟩) ?_ fun e h q => ?_
    · intro i x xs e h hd hi hx q
      obtain ⟨v3, kd, rfl, rfl, k1, k2⟩ := (hI _ _ _ _).mp q
      refine ⟨rfl, [some (.ref nb), some A, some (.ref mh.length), some (.str x), none, none], by simp [setP], ?_⟩
      have tk : S.take (i + 1) = S.take i ++ [x] := by rw [List.take_add_one, hx]; rfl
      have tl : (S.take i).length ≤ i := by rw [List.length_take]; omega
      rw [wp_setX, wp_kn, wp_vr]
      refine ⟨_, rfl, ?_⟩
      rw [wp_vr]
      refine ⟨_, rfl, mh ++ [.dk (putD kd (.inr x) (.bl true))], ?_, ?_⟩
      · show stX (mh ++ [.dk kd]) (.ref mh.length) (.str x) (.bl true) = _
        simp only [stX, hget0, dKey]
        rw [if_pos (by omega), hset0]
      · show I (i + 1) xs _ _
        rw [hI]
        refine ⟨_, _, rfl, rfl, ?_, fun y => ?_⟩
        · have := putD_len (kds := kd) (k := .inr x) (d := .bl true)
          omega
        · rw [valD_put, tk]
          by_cases hy : x = y
          · subst hy; simp
          · have hy2 : ¬ (Sum.inr x : L2.Key) = .inr y := fun e => hy (by injection e)
            have hy3 : ¬ y = x := fun e => hy e.symm
            rw [if_neg hy2, k2]
            simp [hy3]
    · obtain ⟨v3, kd, rfl, rfl, k1, k2⟩ := (hI _ _ _ _).mp q
      rw [List.take_length] at k2
      exact ⟨rfl, hJ _ _ ⟨v3, kd, rfl, rfl, k2⟩⟩
  rintro e h ⟨v3, kd, rfl, rfl, kdv⟩
  refine seq_cut (fun e h => e = [some (.ref nb), some A, some (.ref mh.length), v3, some (.ref (mh.length + 1)), none] ∧ h = mh ++ .dk (kd) :: .lst (([] : List Str).map .str) :: []) (by simp [z0]) ?_
  rintro e h ⟨rfl, rfl⟩
  obtain ⟨K, hK⟩ : ∃ K : Nat → List Str → Nv → MH → Prop, ∀ i xs e h, K i xs e h ↔ ∃ (f : List Str) (v3 v5 : Option D), e = [some (.ref nb), some A, some (.ref mh.length), v3, some (.ref (mh.length + 1)), v5] ∧ h = mh ++ .dk (kd) :: .lst (f.map .str) :: [] ∧ f.Nodup ∧ (∀ y, y ∈ f ↔ y ∉ S ∧ ∃ x ∈ S.take i, y ∈ nbS rs x) := ⟨_, fun _ _ _ _ => Iff.rfl⟩
  refine seq_cutJ (fun e h => ∃ (f : List Str) (v3 v5 : Option D), e = [some (.ref nb), some A, some (.ref mh.length), v3, some (.ref (mh.length + 1)), v5] ∧ h = mh ++ .dk (kd) :: .lst (f.map .str) :: [] ∧ f.Nodup ∧ (∀ y, y ∈ f ↔ y ∈ foundL S rs)) (fun J hJ => ?_) ?_
  · rw [wp_sfor, wp_iter, wp_vr]
    refine ⟨_, rfl, ?_⟩
    rw [eA]
    refine ⟨_, rfl, ?_⟩
    rw [← eA]
    refine loop_as S .str K ((hK _ _ _ _).mpr ⟨[], v3, none, rfl, rfl, List.nodup_nil, by simp⟩) ?_ fun e h q => ?_
    · intro i x xs e h hd hi hx q
      obtain ⟨f, v3, v5, rfl, rfl, f1, f2⟩ := (hK _ _ _ _).mp q
      refine ⟨rfl, [some (.ref nb), some A, some (.ref mh.length), some (.str x), some (.ref (mh.length + 1)), v5], by simp [setP], ?_⟩
      have hxn := hS x (List.mem_of_getElem? hx)
      have tk : S.take (i + 1) = S.take i ++ [x] := by rw [List.take_add_one, hx]; rfl
      obtain ⟨R, hR⟩ : ∃ R : Nat → List Str → Nv → MH → Prop, ∀ k ys e h, R k ys e h ↔ ∃ (f : List Str) (v5 : Option D), e = [some (.ref nb), some A, some (.ref mh.length), some (.str x), some (.ref (mh.length + 1)), v5] ∧ h = mh ++ .dk (kd) :: .lst (f.map .str) :: [] ∧ f.Nodup ∧ (∀ y, y ∈ f ↔ y ∉ S ∧ ((∃ x ∈ S.take i, y ∈ nbS rs x) ∨ y ∈ (nbS rs x).take k)) := ⟨_, fun _ _ _ _ => Iff.rfl⟩
      rw [wp_sfor, wp_iter, wp_bi, wp_vr]
      refine ⟨_, rfl, ?_⟩
      rw [wp_vr]
      refine ⟨_, rfl, ?_⟩
      rw [near_ix _ _ hxn, owp_some]
      refine ⟨_, itD_ref (near_at _ x hxn), ?_⟩
      refine loop_as (nbS rs x) .str R ((hR _ _ _ _).mpr ⟨f, v5, rfl, rfl, f1, fun y => by rw [f2]; simp⟩) ?_ fun e h q => ?_
      · intro k y ys e h hd hk hp q
        obtain ⟨f, v5, rfl, rfl, f1, f2⟩ := (hR _ _ _ _).mp q
        refine ⟨by simp [lstIs, near_at _ x hxn], [some (.ref nb), some A, some (.ref mh.length), some (.str x), some (.ref (mh.length + 1)), some (.str y)], by simp [setP], ?_⟩
        have tk2 : (nbS rs x).take (k + 1) = (nbS rs x).take k ++ [y] := by rw [List.take_add_one, hp]; rfl
        have ninT : oNotInX (.str y) (.ref mh.length) (mh ++ .dk (kd) :: .lst (f.map .str) :: []) = some (.bl (!decide (y ∈ S)), mh ++ .dk (kd) :: .lst (f.map .str) :: []) := by
          simp only [oNotInX, dctD, hget0, dKey, kdv]
        have ninF : oNotIn (.str y) (.ref (mh.length + 1)) (mh ++ .dk (kd) :: .lst (f.map .str) :: []) = some (.bl (!decide (y ∈ f)), mh ++ .dk (kd) :: .lst (f.map .str) :: []) := o_notIn_s (l := f) (it_ref hget1)
        have stay : (y ∈ S ∨ y ∈ f) → R (k + 1) ys [some (.ref nb), some A, some (.ref mh.length), some (.str x), some (.ref (mh.length + 1)), some (.str y)] (mh ++ .dk (kd) :: .lst (f.map .str) :: []) := fun z => by
          rw [hR]
          refine ⟨f, _, rfl, rfl, f1, fun w => ?_⟩
          rw [f2, tk2, List.mem_append, List.mem_singleton]
          constructor
          · rintro ⟨a, b⟩
            exact ⟨a, b.imp id .inl⟩
          · rintro ⟨a, b | b | rfl⟩
            · exact ⟨a, .inl b⟩
            · exact ⟨a, .inr b⟩
            · rcases z with z | z
              · exact absurd z a
              · exact (f2 _).mp z
        rw [wp_sif, wp_tand, wp_tb, wp_bi, wp_vr]
        refine ⟨_, rfl, ?_⟩
        rw [wp_vr]
        refine ⟨_, rfl, ?_⟩
        rw [ninT, owp_some]
        refine ⟨_, rfl, fun c1 => ?_, fun c1 => ⟨fun z => (nomatch z), fun _ => ?_⟩⟩
        rotate_left
        · have c1 : y ∈ S := by simpa using c1
          rw [wp_nop]
          exact stay (.inl c1)
        have c1 : y ∉ S := by simpa using c1
        rw [wp_tb, wp_bi, wp_vr]
        refine ⟨_, rfl, ?_⟩
        rw [wp_vr]
        refine ⟨_, rfl, ?_⟩
        rw [ninF, owp_some]
        refine ⟨_, rfl, fun c2 => ?_, fun c2 => ?_⟩
        rotate_left
        · have c2 : y ∈ f := by simpa using c2
          rw [wp_nop]
          exact stay (.inr c2)
        have c2 : y ∉ f := by simpa using c2
        have fl : f.length ≤ ns.length := nd_len f1 fun w hw => by
          obtain ⟨_, h⟩ := (f2 w).mp hw
          rcases h with ⟨z, _, hz⟩ | h
          · exact nbS_dom G _ _ hz
          · exact nbS_dom G _ _ (List.mem_of_mem_take h)
        rw [wp_drp, wp_app, wp_vr]
        refine ⟨_, rfl, _, rfl, ⟨_, hget1⟩, ?_⟩
        rw [wp_vr]
        refine ⟨_, rfl, f.map .str, hget1, by simp; omega, ?_⟩
        rw [hset1]
        show R (k + 1) ys _ _
        rw [hR]
        refine ⟨f ++ [y], _, rfl, by simp, ?_, fun w => ?_⟩
        · rw [List.nodup_append]
          exact ⟨f1, by simp, fun a ha b hb e => c2 (by rw [List.mem_singleton] at hb; rw [← hb, ← e]; exact ha)⟩
        · rw [List.mem_append, f2, tk2, List.mem_append, List.mem_singleton]
          constructor
          · rintro (⟨a, b⟩ | rfl)
            · exact ⟨a, b.imp id .inl⟩
            · exact ⟨c1, .inr (.inr rfl)⟩
          · rintro ⟨a, b | b | rfl⟩
            · exact .inl ⟨a, .inl b⟩
            · exact .inl ⟨a, .inr b⟩
            · exact .inr rfl
      · obtain ⟨f, v5, rfl, rfl, f1, f2⟩ := (hR _ _ _ _).mp q
        refine ⟨by simp [lstIs, near_at _ x hxn], ?_⟩
        show K (i + 1) xs _ _
        rw [hK]
        refine ⟨f, _, v5, rfl, rfl, f1, fun y => ?_⟩
        rw [f2, List.take_length, tk]
        refine and_congr Iff.rfl ?_
        constructor
        · rintro (⟨z, hz, h⟩ | h)
          · exact ⟨z, List.mem_append_left _ hz, h⟩
          · exact ⟨x, by simp, h⟩
        · rintro ⟨z, hz, h⟩
          rcases List.mem_append.mp hz with hz | hz
          · exact .inl ⟨z, hz, h⟩
          · rw [List.mem_singleton.mp hz] at h; exact .inr h
    · obtain ⟨f, v3, v5, rfl, rfl, f1, f2⟩ := (hK _ _ _ _).mp q
      exact ⟨rfl, hJ _ _ ⟨f, v3, v5, rfl, rfl, f1, fun y => by rw [f2, List.take_length, mem_foundL]⟩⟩
  rintro e h ⟨f, v3, v5, rfl, rfl, f1, f2⟩
  have fl : f.length ≤ 2 * rs.length := Nat.le_trans (nd_len f1 fun w hw => (f2 w).mp hw) (foundL_len S rs)
  rw [wp_ret, wp_ap, wp_acons, wp_fz, wp_ap, wp_acons, wp_vr]
  refine ⟨_, rfl, ?_⟩
  rw [wp_anil, o_sorted_s (xs := f) (it_ref hget1) (by omega), owp_some, fq_push]
  have e1 : isort leS f = lotS (foundL S rs) := by
    have p := isort_perm_self (le := leS) f
    exact lotS_one (isort_sorted (le := leS) (fun a b c h k => leS_trans h k) leS_total _) (p.nodup_iff.mpr f1) fun a => by rw [p.mem_iff, f2]
  rw [e1]
  refine ⟨blws_str, ?_⟩
  rw [wp_anil, o_tuple]
  refine ⟨_, rfl, ?_⟩
  show FQ mh Q _ _
  rw [fq_any (fun n => by simp) (by simp)]
  exact hq
end
end K09
namespace K09
open PySem Det
noncomputable def dueD (ns : List Str) (rs : List Row) (S : List Str) : D := .tup [.tup ((lotsS ns rs S).map outS), .bl (decide ((lotsS ns rs (ns.filter fun x => !decide (x ∈ S))).length = 1)), .tup ((lotS (foundL S rs)).map .str), .tup ((rs.filter fun l => decide (l.2.1 ∈ S) || decide (l.2.2 ∈ S)).map fun l => .str l.1)]
theorem due_blw (ns : List Str) (rs : List Row) (S : List Str) (n : Nat) : D.blw n (dueD ns rs S) = true := by
  unfold dueD
  refine blws_iff.mpr fun x hx => ?_
  simp only [List.mem_cons, List.not_mem_nil, or_false] at hx
  rcases hx with rfl | rfl | rfl | rfl
  · exact blws_map (n := n) (f := outS) fun l _ => blws_map (n := n) (f := D.str) fun _ _ => rfl
  · rfl
  · exact blws_map (n := n) (f := D.str) fun _ _ => rfl
  · exact blws_map (n := n) (f := fun l : Row => D.str l.1) fun _ _ => rfl
theorem due_ref (ns : List Str) (rs : List Row) (S : List Str) (n : Nat) : dueD ns rs S ≠ .ref n := fun e => by unfold dueD at e; cases e
theorem lotsS_len {ns : List Str} {rs : List Row} (G : Gr ns rs) (S : List Str) : (lotsS ns rs S).length ≤ ns.length := by
  rw [← want_eq G, wantLots, List.length_map]
  have := lotsN_len (N := nearL ns rs) (gl := mkL ns S)
  simpa [nearL] using this
theorem lotsS_sub {ns : List Str} {rs : List Row} (G : Gr ns rs) (S : List Str) : ∀ l ∈ lotsS ns rs S, l.length ≤ ns.length := by
  intro l hl
  rw [← want_eq G, wantLots] at hl
  obtain ⟨l0, h0, rfl⟩ := List.mem_map.mp hl
  have := (lotsN_sub l0 h0).1
  simpa [nearL] using this
theorem szDs_le {c : Nat} : ∀ {xs : List D}, (∀ x ∈ xs, szD x ≤ c) → szDs xs ≤ xs.length * c
  | [], _ => by simp [szDs]
  | x :: xs, h => by
    have h1 := h x List.mem_cons_self
    have h2 := szDs_le fun y hy => h y (List.mem_cons_of_mem _ hy)
    rw [szDs, List.length_cons, Nat.succ_mul]
    omega
theorem strs_ok {xs : List Str} {n : Nat} (h : xs.length ≤ n) (hn : n ≤ 5000) : pln (.tup (xs.map .str)) = true ∧ szD (.tup (xs.map .str)) ≤ 1 + n := by
  constructor
  · rw [pln, Bool.and_eq_true, plns_iff]
    refine ⟨by simp; omega, fun x hx => ?_⟩
    obtain ⟨y, _, rfl⟩ := List.mem_map.mp hx
    rfl
  · rw [szD]
    have := szDs_le (c := 1) (xs := xs.map D.str) fun x hx => by
      obtain ⟨y, _, rfl⟩ := List.mem_map.mp hx
      simp [szD]
    simp at this
    omega
theorem due_ok {ns : List Str} {rs : List Row} (G : Gr ns rs) (S : List Str) : pln (dueD ns rs S) = true ∧ szD (dueD ns rs S) < 90000 := by
  have nl := G.nl
  have rl := G.rl
  have l1 := lotsS_len G S
  have l2 := lotsS_sub G S
  have a1 : (lotS (foundL S rs)).length ≤ 2 * rs.length := Nat.le_trans (nd_len (lotS_nodup _) fun a ha => (lotS_mem _ a).mp ha) (foundL_len S rs)
  have a2 : ((rs.filter fun l => decide (l.2.1 ∈ S) || decide (l.2.2 ∈ S)).map (·.1)).length ≤ rs.length := by rw [List.length_map]; exact List.length_filter_le _ _
  have b1 := strs_ok (n := 120) (xs := lotS (foundL S rs)) (by omega) (by omega)
  have b2 := strs_ok (n := 60) (xs := (rs.filter fun l => decide (l.2.1 ∈ S) || decide (l.2.2 ∈ S)).map (·.1)) (by omega) (by omega)
  rw [List.map_map] at b2
  have b3 : ∀ l ∈ lotsS ns rs S, pln (outS l) = true ∧ szD (outS l) ≤ 61 := fun l hl => strs_ok (n := 60) (xs := l) (by have := l2 l hl; omega) (by omega)
  have b4 : pln (.tup ((lotsS ns rs S).map outS)) = true := by
    rw [pln, Bool.and_eq_true, plns_iff]
    refine ⟨by simp; omega, fun x hx => ?_⟩
    obtain ⟨y, hy, rfl⟩ := List.mem_map.mp hx
    exact (b3 y hy).1
  have b5 := szDs_le (c := 61) (xs := (lotsS ns rs S).map outS) fun x hx => by
    obtain ⟨y, hy, rfl⟩ := List.mem_map.mp hx
    exact (b3 y hy).2
  rw [List.length_map] at b5
  have b6 : (lotsS ns rs S).length * 61 ≤ 60 * 61 := Nat.mul_le_mul_right _ (by omega)
  constructor
  · unfold dueD
    rw [pln, Bool.and_eq_true, plns_iff]
    refine ⟨by simp, fun x hx => ?_⟩
    simp only [List.mem_cons, List.not_mem_nil, or_false] at hx
    rcases hx with rfl | rfl | rfl | rfl
    · exact b4
    · rfl
    · exact b1.1
    · exact b2.1
  · unfold dueD
    have c1 := b1.2
    have c2 := b2.2
    have c3 : szD (.tup ((rs.filter fun l => decide (l.2.1 ∈ S) || decide (l.2.2 ∈ S)).map fun l => D.str l.1)) ≤ 1 + 60 := c2
    have c4 : szD (.tup ((lotsS ns rs S).map outS)) ≤ 1 + 60 * 61 := by rw [szD]; omega
    rw [szD, szDs, szDs, szDs, szDs, szDs]
    have c5 : ∀ b, szD (.bl b) = 1 := fun b => by simp [szD]
    rw [c5]
    omega
section
variable {mh : MH} {Q : D → MH → Prop} {E : Exn → MH → Prop} {rs : List Row} {ns : List Str} {B C : D}
theorem law_due_wp (G : Gr ns rs) {S : List Str} (hS : ∀ x ∈ S, x ∈ ns) (sl : S.length ≤ 500) (hq : Q (dueD ns rs S) mh) : (m__law_due [netT ns rs B C, .tup (S.map .str)] mh).wp Q E := by
  have hz : (10000 : Nat) ≤ sizeLine := by decide
  have z4 : (4 : Nat) ≤ sizeLine := by decide
  have nl := G.nl
  have rl := G.rl
  unfold m__law_due
  rw [wp_zF, wp_runF]
  obtain ⟨N, hN⟩ : ∃ N, N = netT ns rs B C := ⟨_, rfl⟩
  obtain ⟨A, eA⟩ : ∃ A, A = D.tup (S.map .str) := ⟨_, rfl⟩
  have on0 : ∀ h, oIx N (.int 0) h = some (.tup (ns.map .str), h) := fun h => by rw [hN]; simp [oIx, itemsD]
  have on1 : ∀ h, oIx N (.int 1) h = some (.tup (rs.map rowD), h) := fun h => by rw [hN]; simp [oIx, itemsD]
  have i2 : ∀ (x : Str) h, oNotIn (.str x) A h = some (.bl (!decide (x ∈ S)), h) := fun x h => by rw [eA]; exact o_notIn_s (l := S) rfl
  rw [← hN, ← eA]
  show (sq _ _ [some N, some A, none, none, none, none] mh).wp _
  refine seq_cut (fun e h => e = [some N, some A, some (.ref mh.length), none, none, none] ∧ h = hLN mh ns (nbS rs)) ?_ ?_
  · rw [wp_sst, wp_cal, wp_acons, wp_bi, wp_vr]
    refine ⟨_, rfl, ?_⟩
    rw [wp_kn, on0, owp_some, wp_acons, wp_bi, wp_vr]
    refine ⟨_, rfl, ?_⟩
    rw [wp_kn, on1, owp_some, wp_anil]
    exact ⟨rfl, law_near_wp G ⟨rfl, rfl⟩⟩
  rintro e h ⟨rfl, rfl⟩
  have near : LNear (hLN mh ns (nbS rs)) mh.length ns rs := hLN_near
  obtain ⟨g, hg⟩ : ∃ g, hLN mh ns (nbS rs) = mh ++ g := ⟨_, rfl⟩
  rw [hg] at near ⊢
  refine seq_cut (fun e h => e = [some N, some A, some (.ref mh.length), some (.tup ((ns.filter fun x => !decide (x ∈ S)).map .str)), none, none] ∧ h = mh ++ g) ?_ ?_
  · rw [wp_sst, wp_ap, wp_acons, wp_fz, wp_lc, wp_iter, wp_bi, wp_vr]
    refine ⟨_, rfl, ?_⟩
    rw [wp_kn, on0, owp_some]
    refine ⟨_, rfl, ?_⟩
    refine lc_map2 (mh ++ g) ns .str (fun x => !decide (x ∈ S)) .str rfl rfl (by omega) (fun _ => rfl) ?_ ?_
    · intro x hx acc
      refine ⟨[some N, some A, some (.ref mh.length), none, none, some (.str x)], by simp [setP, wipeD], ?_, fun _ => by simp⟩
      rw [wp_tb, wp_bi, wp_vr]
      refine ⟨_, rfl, ?_⟩
      rw [wp_vr]
      refine ⟨_, rfl, ?_⟩
      rw [i2, owp_some]
      exact ⟨_, rfl, rfl, rfl⟩
    · rw [fq_push]
      refine ⟨blws_str, ?_⟩
      rw [wp_anil, o_tuple]
      exact ⟨_, rfl, rfl, rfl⟩
  rintro e h ⟨rfl, rfl⟩
  obtain ⟨c, hc⟩ : ∃ c, c = decide ((lotsS ns rs (ns.filter fun x => !decide (x ∈ S))).length = 1) := ⟨_, rfl⟩
  refine seq_cut (fun e h => e = [some N, some A, some (.ref mh.length), some (.tup ((ns.filter fun x => !decide (x ∈ S)).map .str)), some (.bl c), none] ∧ h = mh ++ g) ?_ ?_
  · rw [wp_sst, wp_bi, wp_ap, wp_acons, wp_cal, wp_acons, wp_vr]
    refine ⟨_, rfl, ?_⟩
    rw [wp_acons, wp_vr]
    refine ⟨_, rfl, ?_⟩
    rw [wp_anil]
    refine ⟨rfl, law_lots_wp G near ?_⟩
    rw [wp_anil]
    have len1 : ∀ h, oLen [.rol ((lotsS ns rs (ns.filter fun x => !decide (x ∈ S))).map outS)] h = some (.int ((lotsS ns rs (ns.filter fun x => !decide (x ∈ S))).length : Nat), h) := fun h => by simp [oLen, lenD]
    rw [len1, owp_some, wp_kn, o_eq_i, owp_some]
    have : (((lotsS ns rs (ns.filter fun x => !decide (x ∈ S))).length : Int) == 1) = c := by
      rw [hc, Bool.eq_iff_iff, beq_iff_eq, decide_eq_true_eq]; omega
    rw [this]
    exact ⟨rfl, rfl⟩
  rintro e h ⟨rfl, rfl⟩
  rw [wp_ret, wp_dtup, wp_acons, wp_ap, wp_acons, wp_cal, wp_acons, wp_vr]
  refine ⟨_, rfl, ?_⟩
  rw [wp_acons, wp_vr]
  refine ⟨_, rfl, ?_⟩
  rw [wp_anil, eA]
  refine ⟨rfl, law_lots_wp G near ?_⟩
  rw [wp_anil, o_tuple]
  refine ⟨_, rfl, ?_⟩
  rw [wp_acons, wp_vr]
  refine ⟨_, rfl, ?_⟩
  rw [wp_acons, wp_cal, wp_acons, wp_vr]
  refine ⟨_, rfl, ?_⟩
  rw [wp_acons, wp_vr]
  refine ⟨_, rfl, ?_⟩
  rw [wp_anil]
  refine ⟨rfl, law_gates_wp G near hS sl ?_⟩
  rw [wp_acons, wp_cal, wp_acons, wp_vr]
  refine ⟨_, rfl, ?_⟩
  rw [wp_acons, wp_vr]
  refine ⟨_, rfl, ?_⟩
  rw [wp_anil, hN]
  refine ⟨rfl, law_owns_wp (by omega) ?_⟩
  rw [wp_anil]
  refine ⟨z4, ?_⟩
  show FQ mh Q _ _
  have hb := due_blw ns rs S mh.length
  have hr := due_ref ns rs S
  rw [hc]
  exact (fq_any hr hb).mpr hq
theorem law_told_wp (G : Gr ns rs) {S : List Str} (hS : ∀ x ∈ S, x ∈ ns) (sl : S.length ≤ 500) {t : Nat} (hq : Q (dueD ns rs S) mh) : (m__law_told [netT ns rs B C, .tup (S.map .str), .int (t : Nat)] mh).wp Q E := by
  have hz : (10000 : Nat) ≤ sizeLine := by decide
  have z4 : (4 : Nat) ≤ sizeLine := by decide
  have nl := G.nl
  have rl := G.rl
  unfold m__law_told
  rw [wp_zF, wp_runF]
  obtain ⟨N, hN⟩ : ∃ N, N = netT ns rs B C := ⟨_, rfl⟩
  obtain ⟨A, eA⟩ : ∃ A, A = D.tup (S.map .str) := ⟨_, rfl⟩
  rw [← hN, ← eA]
  have hb := due_blw ns rs S mh.length
  have hr := due_ref ns rs S
  have fin : FQ mh Q (.tup [.tup ((wantLots ns rs (mkL ns S)).map fun l => .tup (l.map .str)), .bl (decide ((lotsN (nearL ns rs) ((mkL ns S).map (!·))).length = 1)), .tup ((lotS (foundL S rs)).map .str), .tup ((rs.filter fun l => decide (l.2.1 ∈ S) || decide (l.2.2 ∈ S)).map fun l => .str l.1)]) mh := by
    rw [want_eq G, hang_eq G]
    exact (fq_any0 hr hb).mpr hq
  show (sq _ _ [some N, some A, some (.int (t : Nat)), none] mh).wp _
  refine seq_cutJ (fun e h => e = [some N, some A, some (.int (t : Nat)), none] ∧ h = mh) (fun J hJ => ?_) ?_
  · rw [wp_sif, wp_tb, wp_bi, wp_bi, wp_ap, wp_acons, wp_vr]
    refine ⟨_, rfl, ?_⟩
    rw [wp_anil, o_int, owp_some, wp_kn, o_mod]
    refine ⟨by omega, ?_⟩
    rw [wp_kn, o_eq_i, owp_some]
    refine ⟨_, rfl, fun _ => ?_, fun _ => ?_⟩
    · rw [wp_ret, wp_dtup, wp_acons, wp_cal, wp_acons, wp_vr]
      refine ⟨_, rfl, ?_⟩
      rw [wp_acons, wp_vr]
      refine ⟨_, rfl, ?_⟩
      rw [wp_anil, hN, eA]
      refine ⟨rfl, lots_without_wp G hS (by omega) ?_⟩
      rw [wp_acons, wp_cal, wp_acons, wp_vr]
      refine ⟨_, rfl, ?_⟩
      rw [wp_acons, wp_vr]
      refine ⟨_, rfl, ?_⟩
      rw [wp_anil]
      refine ⟨rfl, hangs_wp G hS (by omega) ?_⟩
      rw [wp_acons, wp_cal, wp_acons, wp_vr]
      refine ⟨_, rfl, ?_⟩
      rw [wp_acons, wp_vr]
      refine ⟨_, rfl, ?_⟩
      rw [wp_anil]
      refine ⟨rfl, gates_of_wp (by omega) ?_⟩
      rw [wp_acons, wp_cal, wp_acons, wp_vr]
      refine ⟨_, rfl, ?_⟩
      rw [wp_acons, wp_vr]
      refine ⟨_, rfl, ?_⟩
      rw [wp_anil]
      refine ⟨rfl, own_links_wp (by omega) ?_⟩
      rw [wp_anil]
      exact ⟨z4, fin⟩
    · rw [wp_nop]
      exact hJ _ _ ⟨rfl, rfl⟩
  rintro e h ⟨rfl, rfl⟩
  refine seq_cut (fun e h' => e = [some N, some A, some (.int (t : Nat)), some (.tup ((rs.filter fun l => decide (l.2.1 ∈ S) || decide (l.2.2 ∈ S)).map fun l => .str l.1))] ∧ h' = h) ?_ ?_
  · rw [wp_sst, wp_calK, wp_acons, wp_vr]
    refine ⟨_, rfl, ?_⟩
    rw [wp_acons, wp_vr]
    refine ⟨_, rfl, ?_⟩
    rw [wp_anil, hN, eA]
    exact ⟨rfl, own_links_wp (by omega) ⟨rfl, rfl⟩⟩
  rintro e h' ⟨rfl, rfl⟩
  rw [wp_ret, wp_dtup, wp_acons, wp_calK, wp_acons, wp_vr]
  refine ⟨_, rfl, ?_⟩
  rw [wp_acons, wp_vr]
  refine ⟨_, rfl, ?_⟩
  rw [wp_anil, hN, eA]
  refine ⟨rfl, lots_without_wp G hS (by omega) ?_⟩
  rw [wp_acons, wp_calK, wp_acons, wp_vr]
  refine ⟨_, rfl, ?_⟩
  rw [wp_acons, wp_vr]
  refine ⟨_, rfl, ?_⟩
  rw [wp_anil]
  refine ⟨rfl, hangs_wp G hS (by omega) ?_⟩
  rw [wp_acons, wp_calK, wp_acons, wp_vr]
  refine ⟨_, rfl, ?_⟩
  rw [wp_acons, wp_vr]
  refine ⟨_, rfl, ?_⟩
  rw [wp_anil]
  refine ⟨rfl, gates_of_wp (by omega) ?_⟩
  rw [wp_acons, wp_vr]
  refine ⟨_, rfl, ?_⟩
  rw [wp_anil]
  exact ⟨z4, fin⟩
end
end K09
namespace K09
open PySem Det
theorem mn_or (x y : Str) : mnS x y = x ∨ mnS x y = y := by unfold mnS; split <;> simp
theorem mx_or (x y : Str) : mxS x y = x ∨ mxS x y = y := by unfold mxS; split <;> simp
/-- a net that the law draws -/
structure NetOk (N : D) (ns : List Str) (rs : List Row) (W : List Str) (C : D) : Prop where
  e : N = netT ns rs (.tup (W.map .str)) C
  g : Gr ns rs
  w : ∀ x ∈ W, x ∈ ns
  wl : W.length ≤ 60
  n1 : ∀ n, D.blw n N = true
theorem net_ok {many : Nat} {nodes names : List Str} {es : List (Nat × Nat)} {ws gs : List Nat} (h : Shape many nodes names es ws gs) : ∃ ns rs W C, NetOk (dressN nodes names es ws gs) ns rs W C := by
  obtain ⟨dr, wl, wn, gl, gn⟩ := h
  have pn := isort_perm_self (le := leS) nodes
  refine ⟨_, _, _, _, rfl, ⟨pn.nodup_iff.mpr dr.nd, isort_sorted (le := leS) (fun a b c h k => leS_trans h k) leS_total _, ?_, ?_, ?_⟩, ?_, ?_, ?_⟩
  · rw [pn.length_eq, dr.nl]; exact dr.n60
  · rw [(isort_perm_self (le := leR) _).length_eq, rowsOf, List.length_map, List.length_zip]
    have := dr.el
    omega
  · intro l hl
    rw [(isort_perm_self (le := leR) _).mem_iff] at hl
    obtain ⟨q, hq, rfl⟩ := List.mem_map.mp hl
    have hq2 : q.2 ∈ es := (List.of_mem_zip (a := q.1) (b := q.2) hq).2
    obtain ⟨h1, h2⟩ := dr.lt _ hq2
    rw [← dr.nl] at h1 h2
    have m1 := gS_mem h1
    have m2 := gS_mem h2
    constructor
    · rw [pn.mem_iff]
      show mnS _ _ ∈ nodes
      rcases mn_or (gS nodes q.2.1) (gS nodes q.2.2) with e | e <;> rw [e] <;> assumption
    · rw [pn.mem_iff]
      show mxS _ _ ∈ nodes
      rcases mx_or (gS nodes q.2.1) (gS nodes q.2.2) with e | e <;> rw [e] <;> assumption
  · intro x hx
    rw [(isort_perm_self (le := leS) _).mem_iff] at hx
    obtain ⟨i, hi, rfl⟩ := List.mem_map.mp hx
    rw [pn.mem_iff]
    exact gS_mem (by rw [dr.nl]; exact wl i hi)
  · rw [(isort_perm_self (le := leS) _).length_eq, List.length_map]; exact wn
  · intro n
    refine blws_iff.mpr fun x hx => ?_
    simp only [List.mem_cons, List.not_mem_nil, or_false] at hx
    rcases hx with rfl | rfl | rfl | rfl
    · exact blws_map (n := n) (f := D.str) fun _ _ => rfl
    · exact blws_map (n := n) (f := rowD) fun _ _ => rfl
    · exact blws_map (n := n) (f := D.str) fun _ _ => rfl
    · exact blws_map (n := n) (f := D.str) fun _ _ => rfl
section
variable {p : Pq} {loc : MH} {Q : D → MH → Prop} {E : Exn → MH → Prop}
theorem some_strs {xs : List Str} {env : Nv} {ft : MT} {v : Nat} (hl : xs.length ≤ 1000) (hlv : v < env.length)
    (ht : ∀ (x : Str) (p' : Pq) acc, (ft (env.set v (some (.str x))) (p'.ob :: (loc ++ [.lst acc]))).wp (fun b h => ∃ p2 : Pq, h = p2.ob :: (loc ++ [.lst acc])) (fun _ _ => False))
    (hd : ∀ (bs : List Str) (p' : Pq), (∀ b ∈ bs, b ∈ xs) → bs.length ≤ xs.length → Q (.ref (loc.length + 1)) (p'.ob :: (loc ++ [.lst (bs.map .str)]))) {chk : MH → Bool} (hchk : ∀ (p' : Pq) acc, chk (p'.ob :: (loc ++ [.lst acc])) = true) :
    (loopC (loc.length + 1) chk (.nm v) ft (vr v) env (xs.map .str) (p.ob :: (loc ++ [.lst []]))).wp Q E := by
  have hz : (10000 : Nat) ≤ sizeLine := by decide
  obtain ⟨I, hI⟩ : ∃ I : Nat → List D → MH → Prop, ∀ i acc h, I i acc h ↔ ∃ (p' : Pq) (bs : List Str), h = p'.ob :: (loc ++ [.lst acc]) ∧ acc = bs.map .str ∧ (∀ b ∈ bs, b ∈ xs) ∧ bs.length ≤ i := ⟨_, fun _ _ _ => Iff.rfl⟩
  refine comp_wp I [] (by simp) ((hI _ _ _).mpr ⟨p, [], rfl, rfl, by simp, by simp⟩) ?_ ?_ ?_
  · intro i acc h hi
    obtain ⟨p', bs, rfl, rfl, _⟩ := (hI _ _ _).mp hi
    simp
  · intro i d acc h hd hi
    obtain ⟨p', bs, rfl, rfl, hlt, hl⟩ := (hI _ _ _).mp hi
    have hil : i < xs.length := by have := (List.getElem?_eq_some_iff.mp hd).1; simpa using this
    obtain ⟨x, hx, rfl⟩ : ∃ x, xs[i]? = some x ∧ D.str x = d := by
      rw [List.getElem?_map] at hd
      cases hx : xs[i]? with
      | none => rw [hx] at hd; cases hd
      | some w => rw [hx] at hd; exact ⟨w, rfl, Option.some.inj hd⟩
    refine ⟨hchk _ _, _, rfl, ?_⟩
    refine Res.wp_mono (ht x p' _) (fun b h q => ?_) fun _ _ q => q
    obtain ⟨p2, rfl⟩ := q
    refine ⟨fun _ => ?_, fun _ => ?_⟩
    · rw [wp_vr]
      refine ⟨.str x, by rw [List.getElem?_set_self hlv], by simp, by simp; omega, ?_⟩
      rw [hI]
      refine ⟨p2, bs ++ [x], by simp, by simp, fun b hb => ?_, by simp; omega⟩
      rcases List.mem_append.mp hb with hb | hb
      · exact hlt b hb
      · rw [List.mem_singleton.mp hb]; exact List.mem_of_getElem? hx
    · rw [hI]
      exact ⟨p2, bs, rfl, rfl, hlt, by omega⟩
  · intro acc h hi
    obtain ⟨p', bs, rfl, rfl, hlt, hl⟩ := (hI _ _ _).mp hi
    exact ⟨hchk _ _, hd bs p' hlt (by simpa using hl)⟩
theorem law_some_wp {N : D} {ns : List Str} {rs : List Row} {W : List Str} {C : D} (hN : NetOk N ns rs W C)
    (hq : ∀ (S : List Str) (p' : Pq), (∀ x ∈ S, x ∈ ns) → S.length ≤ 500 → Q (.tup (S.map .str)) (p'.ob :: loc)) :
    (m__law_some [.ref 0, N] (p.ob :: loc)).wp Q E := by
  have hz : (10000 : Nat) ≤ sizeLine := by decide
  have z0 : (0 : Nat) ≤ sizeLine := by decide
  have z1 : (1 : Nat) ≤ sizeLine := by decide
  obtain ⟨eN, G, hw, wl, nb⟩ := hN
  have nl := G.nl
  have rl := G.rl
  have fin : ∀ (p1 p' : Pq) (g : MH) (S : List Str), (∀ x ∈ S, x ∈ ns) → S.length ≤ 500 → FQ (p1.ob :: loc) Q (.tup (S.map .str)) (p'.ob :: (loc ++ g)) := fun p1 p' g S h1 h2 =>
    fq_pq (fun n => by simp) (blws_map (n := loc.length + 1) (f := D.str) fun _ _ => rfl) (hq S p' h1 h2)
  have fin0 : ∀ (p1 p' : Pq) (S : List Str), (∀ x ∈ S, x ∈ ns) → S.length ≤ 500 → FQ (p1.ob :: loc) Q (.tup (S.map .str)) (p'.ob :: loc) := fun p1 p' S h1 h2 =>
    fq_pq0 (fun n => by simp) (blws_map (n := loc.length + 1) (f := D.str) fun _ _ => rfl) (hq S p' h1 h2)
  have on0 : ∀ h, oIx N (.int 0) h = some (.tup (ns.map .str), h) := fun h => by rw [eN]; simp [oIx, itemsD]
  have on1 : ∀ h, oIx N (.int 1) h = some (.tup (rs.map rowD), h) := fun h => by rw [eN]; simp [oIx, itemsD]
  have on2 : ∀ h, oIx N (.int 2) h = some (.tup (W.map .str), h) := fun h => by rw [eN]; simp [oIx, itemsD]
  have len0 : ∀ h, oLen [.tup (ns.map .str)] h = some (.int (ns.length : Nat), h) := fun h => by simp [oLen, lenD]
  obtain ⟨A, eA⟩ : ∃ A, A = D.tup (ns.map .str) := ⟨_, rfl⟩
  unfold m__law_some
  rw [wp_zF, wp_runF]
  show (sq _ _ [some (.ref 0), some N, none, none, none, none, none, none] (p.ob :: loc)).wp _
  refine seq_cut (fun e h => e = [some (.ref 0), some N, some A, none, none, none, none, none] ∧ h = p.ob :: loc) (by simp [on0, eA]) ?_
  rintro e h ⟨rfl, rfl⟩
  refine seq_cutJ (fun e h => ∃ (k : Int) (p' : Pq), e = [some (.ref 0), some N, some A, some (.int k), none, none, none, none] ∧ h = p'.ob :: loc) (fun J hJ => ?_) ?_
  · rw [wp_sst, wp_cal, wp_acons, wp_vr]
    refine ⟨_, rfl, ?_⟩
    rw [wp_acons, wp_kn, wp_anil]
    exact ⟨rfl, pick_ok (by omega) (by omega) fun r p' _ _ => hJ _ _ ⟨r, p', rfl, rfl⟩⟩
  rintro e h ⟨k, p1, rfl, rfl⟩
  refine seq_cutJ (fun e h => 0 < ns.length ∧ e = [some (.ref 0), some N, some A, some (.int k), none, none, none, none] ∧ h = p1.ob :: loc) (fun J hJ => ?_) ?_
  · have r0 : FQ (p.ob :: loc) Q (.tup []) (p1.ob :: loc) := fin0 p p1 [] (by simp) (by simp)
    rw [wp_sif, wp_tor, wp_tb, wp_bi, wp_vr]
    refine ⟨_, rfl, ?_⟩
    rw [wp_kn, o_eq_i, owp_some]
    refine ⟨_, rfl, fun _ => ⟨fun _ => ?_, fun z => nomatch z⟩, fun _ => ?_⟩
    · rw [wp_ret, wp_dtup, wp_anil]
      exact ⟨z0, r0⟩
    · rw [wp_tb, wp_bi, wp_ap, wp_acons, wp_vr]
      refine ⟨_, rfl, ?_⟩
      rw [wp_anil, eA, len0, owp_some, wp_kn, o_eq_i, owp_some]
      refine ⟨_, rfl, fun _ => ?_, fun c => ?_⟩
      · rw [wp_ret, wp_dtup, wp_anil]
        exact ⟨z0, r0⟩
      · rw [wp_nop, ← eA]
        have c : ¬ ns.length = 0 := fun z => by rw [z] at c; simp at c
        exact hJ _ _ ⟨by omega, rfl, rfl⟩
  rintro e h ⟨n0, rfl, rfl⟩
  have skip : ∀ (c : Int) (s t : MS) (e : Nv) (h : MH) (O : Po), e[3]? = some (some (.int k)) → (s e h).wp { O with nx := fun e h => (t e h).wp O } → (t e h).wp O → (sq (sif (tb (bi oEq (vr 3) (kn (.int c)))) s (nop)) t e h).wp O := fun c s t e h O hk h1 h2 => by
    rw [wp_sq, wp_sif, wp_tb, wp_bi, wp_vr]
    refine ⟨_, hk, ?_⟩
    rw [wp_kn, o_eq_i, owp_some]
    exact ⟨_, rfl, fun _ => h1, fun _ => by rw [wp_nop]; exact h2⟩
  refine skip 1 _ _ _ _ _ rfl ?_ ?_
  · rw [wp_ret, wp_vr]
    refine ⟨_, rfl, ?_⟩
    rw [eA]
    exact fin0 p p1 ns (fun _ h => h) (by omega)
  refine skip 2 _ _ _ _ _ rfl ?_ ?_
  · rw [wp_ret, wp_bi, wp_vr]
    refine ⟨_, rfl, ?_⟩
    rw [wp_kn, on2, owp_some]
    exact fin0 p p1 W hw (by omega)
  refine seq_cutJ (fun e h => ∃ (x : Str) (p' : Pq), x ∈ ns ∧ e = [some (.ref 0), some N, some A, some (.int k), some (.str x), none, none, none] ∧ h = p'.ob :: loc) (fun J hJ => ?_) ?_
  · rw [wp_sst, wp_bi, wp_vr]
    refine ⟨_, rfl, ?_⟩
    rw [wp_cal, wp_acons, wp_vr]
    refine ⟨_, rfl, ?_⟩
    rw [wp_acons, wp_ap, wp_acons, wp_vr]
    refine ⟨_, rfl, ?_⟩
    rw [wp_anil, eA, len0, owp_some, wp_anil]
    refine ⟨rfl, pick_ok (by omega) (by omega) fun r p' r0 r1 => ?_⟩
    obtain ⟨c, rfl⟩ : ∃ c : Nat, r = c := ⟨r.toNat, by omega⟩
    have hc : c < ns.length := by omega
    rw [o_ix (d := .str (nm ns c)) it_tup (by rw [atI_nat, List.getElem?_map, nm_at hc]; rfl), owp_some, ← eA]
    exact hJ _ _ ⟨_, p', nm_mem hc, rfl, rfl⟩
  rintro e h ⟨x, p2, hx, rfl, rfl⟩
  refine skip 3 _ _ _ _ _ rfl ?_ ?_
  · rw [wp_ret, wp_dtup, wp_acons, wp_vr]
    refine ⟨_, rfl, ?_⟩
    rw [wp_anil]
    exact ⟨z1, fin0 p p2 [x] (fun y hy => by rw [List.mem_singleton.mp hy]; exact hx) (by simp)⟩
  refine seq_cutJ (fun e h => e = [some (.ref 0), some N, some A, some (.int k), some (.str x), none, none, none] ∧ h = p2.ob :: loc) (fun J hJ => ?_) ?_
  · rw [wp_sif, wp_tb, wp_bi, wp_vr]
    refine ⟨_, rfl, ?_⟩
    rw [wp_kn, o_lt_i, owp_some]
    refine ⟨_, rfl, fun _ => ?_, fun _ => by rw [wp_nop]; exact hJ _ _ ⟨rfl, rfl⟩⟩
    obtain ⟨b, hb⟩ : ∃ b, b = (p2.ob :: loc).length := ⟨_, rfl⟩
    refine seq_cut (fun e h => e = [some (.ref 0), some N, some A, some (.int k), some (.str x), some (.ref (b + 1 + pI ns x)), none, none] ∧ h = hLN (p2.ob :: loc) ns (nbS rs)) ?_ ?_
    · rw [wp_sst, wp_bi, wp_cal, wp_acons, wp_vr]
      refine ⟨_, rfl, ?_⟩
      rw [wp_acons, wp_bi, wp_vr]
      refine ⟨_, rfl, ?_⟩
      rw [wp_kn, on1, owp_some, wp_anil, eA]
      refine ⟨rfl, law_near_wp G ?_⟩
      rw [wp_vr]
      refine ⟨_, rfl, ?_⟩
      have near : LNear (hLN (p2.ob :: loc) ns (nbS rs)) (p2.ob :: loc).length ns rs := hLN_near
      have := (pI_spec G.nd hx).1
      rw [ixX_dk (kds := kNear (p2.ob :: loc).length ns) near.1 (by rw [kNear_val, this]; rfl), owp_some, hb, ← eA]
      exact ⟨rfl, rfl⟩
    rintro e h ⟨rfl, rfl⟩
    have near : LNear (hLN (p2.ob :: loc) ns (nbS rs)) b ns rs := by rw [hb]; exact hLN_near
    obtain ⟨g, hg⟩ : ∃ g, ∀ o : Ob, hLN (o :: loc) ns (nbS rs) = o :: (loc ++ g) := ⟨.dk (kNear (loc.length + 1) ns) :: ns.map fun y => .lst ((nbS rs y).map .str), fun _ => rfl⟩
    rw [hg] at near ⊢
    obtain ⟨rest, hrest⟩ : ∃ rest : List Str, rest = nbS rs x := ⟨_, rfl⟩
    have row : ∀ (p' : Pq) Y, (p'.ob :: (loc ++ g) ++ Y)[b + 1 + pI ns x]? = some (.lst ((nbS rs x).map .str)) := fun p' Y => by
      have h0 := (near.mono Y).2 _ _ (pI_spec G.nd hx).2.1
      have e : b + 1 + pI ns x = (b + pI ns x) + 1 := by omega
      rw [e] at h0 ⊢
      simpa using h0
    have nlen := nbS_len rs x
    rw [wp_ret, wp_ap, wp_acons, wp_fz, wp_un, wp_fz, wp_bi, wp_dlst, wp_acons, wp_vr]
    refine ⟨_, rfl, ?_⟩
    rw [wp_anil]
    refine ⟨z1, ?_⟩
    rw [wp_lc, wp_iter, wp_vr]
    refine ⟨_, rfl, _, itD_ref (row p2 [.lst [.str x]]), ?_⟩
    have eL : p2.ob :: (loc ++ g) ++ [Ob.lst [.str x]] ++ [Ob.lst []] = p2.ob :: ((loc ++ g ++ [.lst [.str x]]) ++ [.lst []]) := by simp
    have eN : (p2.ob :: (loc ++ g) ++ [Ob.lst [D.str x]]).length = (loc ++ g ++ [Ob.lst [D.str x]]).length + 1 := by simp
    rw [eL, eN]
    refine some_strs (by omega) (by simp [wipeD]) (fun y p' acc => ?_) (fun bs p3 b1 b2 => ?_) (fun p' acc => ?_)
    · rw [wp_tor, wp_tb, wp_bi, wp_vr]
      refine ⟨_, rfl, ?_⟩
      rw [wp_kn, o_eq_i, owp_some]
      refine ⟨_, rfl, fun _ => ⟨p', rfl⟩, fun _ => ?_⟩
      rw [wp_tb, wp_bi, wp_cal, wp_acons, wp_vr]
      refine ⟨_, rfl, ?_⟩
      rw [wp_acons, wp_kn, wp_anil]
      refine ⟨rfl, pick_ok (by omega) (by omega) fun r p' _ _ => ?_⟩
      rw [wp_kn, o_eq_i, owp_some]
      exact ⟨_, rfl, p', rfl⟩
    · have ad : oAddX (.ref (p2.ob :: (loc ++ g)).length) (.ref ((loc ++ g ++ [Ob.lst [D.str x]]).length + 1)) (p3.ob :: (loc ++ g ++ [Ob.lst [D.str x]] ++ [Ob.lst (bs.map .str)])) = some (.ref (p3.ob :: (loc ++ g ++ [Ob.lst [D.str x]] ++ [Ob.lst (bs.map .str)])).length, p3.ob :: (loc ++ g ++ [Ob.lst [D.str x]] ++ [Ob.lst (bs.map .str)]) ++ [.lst ((x :: bs).map .str)]) := by
        refine addX_l (xs := [.str x]) (ys := bs.map .str) ?_ ?_ (.inr ⟨_, rfl⟩) (by simp; omega)
        · simp [lstD, itemsD]
        · simp [lstD, itemsD]
      rw [ad, owp_some]
      have eH : p3.ob :: (loc ++ g ++ [Ob.lst [D.str x]] ++ [Ob.lst (bs.map .str)]) ++ [Ob.lst ((x :: bs).map .str)] = p3.ob :: ((loc ++ g) ++ ([Ob.lst [D.str x]] ++ [Ob.lst (bs.map .str)] ++ [.lst ((x :: bs).map .str)])) := by simp
      rw [eH]
      rw [fq_new (mh := p2.ob :: (loc ++ g)) (xs := (x :: bs).map .str) (by simp) (by simp)]
      refine ⟨blws_str, kept_pqs, ?_⟩
      have et : List.take (p2.ob :: (loc ++ g)).length (p3.ob :: ((loc ++ g) ++ ([Ob.lst [D.str x]] ++ [Ob.lst (bs.map .str)] ++ [.lst ((x :: bs).map .str)]))) = p3.ob :: (loc ++ g) := take_pq
      rw [et, o_sset (xs := x :: bs) rfl (by simp; omega), owp_some]
      have eJ : p3.ob :: (loc ++ g) ++ [Ob.lst ((lotS (x :: bs)).map .str)] = p3.ob :: ((loc ++ g) ++ [Ob.lst ((lotS (x :: bs)).map .str)]) := rfl
      rw [eJ, fq_new (mh := p2.ob :: (loc ++ g)) (xs := (lotS (x :: bs)).map .str) (by simp) (by simp)]
      refine ⟨blws_str, kept_pqs, ?_⟩
      have et2 : List.take (p2.ob :: (loc ++ g)).length (p3.ob :: ((loc ++ g) ++ [Ob.lst ((lotS (x :: bs)).map .str)])) = p3.ob :: (loc ++ g) := take_pq
      rw [et2, wp_anil, o_tuple]
      refine ⟨_, rfl, ?_⟩
      refine fin p p3 g (lotS (x :: bs)) (fun y hy => ?_) ?_
      · rcases List.mem_cons.mp ((lotS_mem _ _).mp hy) with rfl | hy
        · exact hx
        · exact nbS_dom G _ _ (b1 y hy)
      · have := nd_len (lotS_nodup (x :: bs)) fun a ha => (lotS_mem _ a).mp ha
        simp at this
        omega
    · have h := row p' ([Ob.lst [.str x]] ++ [.lst acc])
      simp only [lstIs]
      have e : p'.ob :: (loc ++ g ++ [Ob.lst [D.str x]] ++ [Ob.lst acc]) = p'.ob :: (loc ++ g) ++ ([Ob.lst [.str x]] ++ [.lst acc]) := by simp
      rw [e, h]
      simp
  rintro e h ⟨rfl, rfl⟩
  refine seq_cutJ (fun e h => ∃ (s : Int) (p' : Pq), e = [some (.ref 0), some N, some A, some (.int k), some (.str x), none, some (.int s), none] ∧ h = p'.ob :: loc) (fun J hJ => ?_) ?_
  · rw [wp_sst, wp_cal, wp_acons, wp_vr]
    refine ⟨_, rfl, ?_⟩
    rw [wp_acons, wp_kn, wp_anil]
    exact ⟨rfl, pick_ok (by omega) (by omega) fun r p' _ _ => hJ _ _ ⟨r, p', rfl, rfl⟩⟩
  rintro e h ⟨s, p3, rfl, rfl⟩
  rw [wp_ret, wp_ap, wp_acons, wp_fz, wp_lc, wp_iter, wp_vr]
  refine ⟨_, rfl, ?_⟩
  rw [eA]
  refine ⟨_, rfl, ?_⟩
  refine some_strs (by omega) (by simp [wipeD]) (fun y p' acc => ?_) (fun bs p4 b1 b2 => ?_) (fun p' acc => rfl)
  · rw [wp_tb, wp_bi, wp_cal, wp_acons, wp_vr]
    refine ⟨_, rfl, ?_⟩
    rw [wp_acons, wp_kn, wp_anil]
    refine ⟨rfl, pick_ok (by omega) (by omega) fun r p' _ _ => ?_⟩
    rw [wp_vr]
    refine ⟨_, rfl, ?_⟩
    simp only [oGt, owp_some]
    exact ⟨_, rfl, p', rfl⟩
  · refine fq_pq_lst (g := []) blws_str ?_
    rw [wp_anil, o_tuple]
    exact ⟨_, rfl, fin0 p p4 bs b1 (by omega)⟩
end
end K09
namespace K09
open PySem Det
theorem cut_s {l : List Str} {lo hi : Option Int} : ∃ m : List Str, cutD (l.map .str) lo hi = m.map .str ∧ (∀ x ∈ m, x ∈ l) ∧ m.length ≤ l.length := by
  refine ⟨(l.drop _).take _, by unfold cutD; rw [List.length_map, ← List.map_drop, ← List.map_take], fun x hx => List.mem_of_mem_drop (List.mem_of_mem_take hx), ?_⟩
  rw [List.length_take, List.length_drop]; omega
theorem cut_mem {xs : List D} {lo hi : Option Int} {d : D} (h : d ∈ cutD xs lo hi) : d ∈ xs := by
  unfold cutD at h
  exact List.mem_of_mem_drop (List.mem_of_mem_take h)
theorem net_ok2 {many : Nat} {nodes names : List Str} {es : List (Nat × Nat)} {ws gs : List Nat} (h : Shape many nodes names es ws gs) : ∃ rs W C, NetOk (dressN nodes names es ws gs) (isort leS nodes) rs W C := by
  obtain ⟨ns, rs, W, C, hN⟩ := net_ok h
  have e := hN.e
  unfold dressN netD netT at e
  injection e with e
  injection e with e1 e2
  injection e1 with e1
  have : isort leS nodes = ns := by
    have := congrArg (List.map fun d : D => match d with | .str x => x | _ => "") e1
    simpa [List.map_map, Function.comp_def] using this
  subst this
  exact ⟨rs, W, C, hN⟩
section
variable {p : Pq} {loc : MH} {Q : D → MH → Prop} {E : Exn → MH → Prop}
/-- told and due are the same -/
theorem check_wp {N : D} {ns : List Str} {rs : List Row} {W : List Str} {C : D} (hN : NetOk N ns rs W C) {S : List Str} (hS : ∀ x ∈ S, x ∈ ns) (sl : S.length ≤ 500) {env : Nv} {H : MH} {fn fl ft fd : ME} {t : Nat} {O : Po}
    (h1 : ∀ (Q : D → MH → Prop) (E : Exn → MH → Prop), Q N H → (fn env H).wp Q E) (h2 : ∀ (Q : D → MH → Prop) (E : Exn → MH → Prop), Q (.tup (S.map .str)) H → (fl env H).wp Q E) (h3 : ∀ (Q : D → MH → Prop) (E : Exn → MH → Prop), Q (.int (t : Nat)) H → (ft env H).wp Q E) (h4 : ∀ (Q : D → MH → Prop) (E : Exn → MH → Prop), Q (dueD ns rs S) H → (fd env H).wp Q E) (hq : O.nx env H) :
    (sif (tnot (tru (cal 2 m__law_same (acons (cal 3 m__law_told (acons fn (acons fl (acons ft anil)))) (acons fd anil))))) (ret (kn (.bl false))) (nop) env H).wp O := by
  have d := due_ok hN.g S
  rw [wp_sif, wp_tnot, wp_tru, wp_cal, wp_acons, wp_cal, wp_acons]
  refine h1 _ _ ?_
  rw [wp_acons]
  refine h2 _ _ ?_
  rw [wp_acons]
  refine h3 _ _ ?_
  rw [wp_anil, hN.e]
  refine ⟨rfl, law_told_wp hN.g hS sl ?_⟩
  rw [wp_acons]
  refine h4 _ _ ?_
  rw [wp_anil, same_ok d.1 d.2, wp_ok]
  refine ⟨rfl, _, rfl, fun z => (nomatch z), fun _ => ?_⟩
  rw [wp_nop]
  exact hq
theorem law_row_wp (hq : ∀ p' : Pq, Q (.bl true) (p'.ob :: loc)) : (m__law_row [.ref 0] (p.ob :: loc)).wp Q E := by
  have hz : (10000 : Nat) ≤ sizeLine := by decide
  have z0 : (0 : Nat) ≤ sizeLine := by decide
  have z1 : (1 : Nat) ≤ sizeLine := by decide
  have z2 : (2 : Nat) ≤ sizeLine := by decide
  have z5 : (5 : Nat) ≤ sizeLine := by decide
  unfold m__law_row
  rw [wp_zF, wp_runF]
  show (sq _ _ [some (.ref 0), none, none, none, none, none, none, none] (p.ob :: loc)).wp _
  refine seq_cutJ (fun e h => ∃ (k : Nat) (p' : Pq), 1 ≤ k ∧ k ≤ 4 ∧ e = [some (.ref 0), some (.int (k : Nat)), none, none, none, none, none, none] ∧ h = p'.ob :: loc) (fun J hJ => ?_) ?_
  · rw [wp_sst, wp_bi, wp_kn, wp_cal, wp_acons, wp_vr]
    refine ⟨_, rfl, ?_⟩
    rw [wp_acons, wp_kn, wp_anil]
    refine ⟨rfl, pick_ok (by omega) (by omega) fun r p' r0 r1 => ?_⟩
    obtain ⟨a, rfl⟩ := Int.eq_ofNat_of_zero_le r0
    rw [o_add_i, owp_some]
    exact hJ _ _ ⟨1 + a, p', by omega, by omega, by simp, rfl⟩
  rintro e h ⟨k, p1, k1, k4, rfl, rfl⟩
  refine seq_cutJ (fun e h => ∃ (M : D) (g : MH) (many : Nat) (es : List (Nat × Nat)), e = [some (.ref 0), some (.int (k : Nat)), some M, none, none, none, none, none] ∧ h = p1.ob :: (loc ++ g) ∧ MdAt (loc ++ g) M many es ∧ many = k + 2 ∧ 1 ≤ es.length ∧ es.length ≤ k + 1 ∧ ∀ q ∈ es, q.1 < many ∧ q.2 < many) (fun J hJ => ?_) ?_
  · rw [wp_sst, wp_cal, wp_acons, wp_kn, wp_acons, wp_vr]
    refine ⟨_, rfl, ?_⟩
    rw [wp_anil]
    refine ⟨rfl, base_ok (kind := 0) (by omega) (by omega) fun d h q => ?_⟩
    obtain ⟨g, many, es, rfl, h1, h2, h3, h4, hl, h5, h6, h7⟩ := MdAt.of_base q
    obtain ⟨h8, h9⟩ := h7 rfl
    exact hJ _ _ ⟨d, g, many, es, rfl, rfl, h1, h8, hl, h9, h5⟩
  rintro e h ⟨M, g, many, es, rfl, rfl, ⟨ED, hed, hM⟩, m1, e1, e2, e3⟩
  have x0 : ∀ p' : Pq, oIx M (.int 0) (p'.ob :: (loc ++ g)) = some (.int (many : Nat), p'.ob :: (loc ++ g)) := fun p' => by
    have := (md_rd hed hM p'.ob).ix [] (k := 0) (d := .int (many : Nat)) (by simp)
    simpa using this
  have x1 : ∀ p' : Pq, oIx M (.int 1) (p'.ob :: (loc ++ g)) = some (ED, p'.ob :: (loc ++ g)) := fun p' => by
    have := (md_rd hed hM p'.ob).ix [] (k := 1) (d := ED) (by simp)
    simpa using this
  refine seq_cutJ (fun e h => ∃ (p' : Pq) (g : MH) (nodes names : List Str) (d : D), Shape many nodes names es [0, 1] [] ∧ e = [some (.ref 0), some (.int (k : Nat)), some M, some d, none, none, none, none] ∧ h = p'.ob :: (loc ++ g) ∧ DressQ (p'.ob :: (loc ++ g)) d many nodes names es [0, 1] []) (fun J hJ => ?_) ?_
  · rw [wp_sst, wp_cal]
    refine shape_wp (many := many) (ED := ED) (ws := [0, 1]) (gs := []) (fun Q E q => by simp [x0]; exact q) (fun Q E q => by simp [x1]; exact q) (fun Q E q => ?_) (fun Q E q => ?_) (hed.rd p1.ob).b rfl ?_
    · rw [wp_fz, wp_dlst, wp_acons, wp_kn, wp_acons, wp_kn, wp_anil]
      refine ⟨z2, ?_⟩
      rw [fq_push]
      exact ⟨by simp [D.blws], q⟩
    · rw [wp_fz, wp_dlst, wp_anil]
      refine ⟨z0, ?_⟩
      rw [fq_push]
      exact ⟨by simp [D.blws], q⟩
    refine ⟨rfl, dress_ok2 (by omega) (by omega) e3 (fun i hi => by simp at hi; omega) (by simp) (fun i hi => by simp at hi) (by simp) hed fun nodes names p5 g' d sh dq => ?_⟩
    rw [List.append_assoc] at dq ⊢
    exact hJ _ _ ⟨p5, g ++ g', nodes, names, d, sh, rfl, rfl, dq⟩
  clear x0 x1 hed hM
  clear g
  rintro e h ⟨p2, g, nodes, names, d, sh, rfl, rfl, ⟨kk, kn', km, rfl, d1, d2, d3⟩⟩
  obtain ⟨rs, W, C, hN⟩ := net_ok2 sh
  have nl := sh.dr.nl
  have pn := isort_perm_self (le := leS) nodes
  generalize dressN nodes names es [0, 1] [] = N at d1 hN
  refine seq_cut (fun e h => e = [some (.ref 0), some (.int (k : Nat)), some M, some (.ref kk), some N, none, none, none] ∧ h = p2.ob :: (loc ++ g)) ?_ ?_
  · rw [wp_sst, wp_bi, wp_vr]
    refine ⟨_, rfl, ?_⟩
    rw [wp_kn, show (0 : Int) = ((0 : Nat) : Int) from rfl, o_ix (d := N) (it_ref d1) (by rw [atI_nat]; rfl), owp_some]
    exact ⟨rfl, rfl⟩
  rintro e h ⟨rfl, rfl⟩
  refine seq_cut (fun e h => e = [some (.ref 0), some (.int (k : Nat)), some M, some (.ref kk), some N, some (.ref kn'), none, none] ∧ h = p2.ob :: (loc ++ g)) ?_ ?_
  · rw [wp_sst, wp_bi, wp_vr]
    refine ⟨_, rfl, ?_⟩
    rw [wp_kn, show (1 : Int) = ((1 : Nat) : Int) from rfl, o_ix (d := .ref kn') (it_ref d1) (by rw [atI_nat]; rfl), owp_some]
    exact ⟨rfl, rfl⟩
  rintro e h ⟨rfl, rfl⟩
  have on0 : ∀ h, oIx N (.int 0) h = some (.tup ((isort leS nodes).map .str), h) := fun h => by rw [hN.e]; simp [oIx, itemsD]
  have on2 : ∀ h, oIx N (.int 2) h = some (.tup (W.map .str), h) := fun h => by rw [hN.e]; simp [oIx, itemsD]
  refine seq_cutJ (fun e h => ∃ (p' : Pq) (Ls : List (List Str)), (∀ S ∈ Ls, (∀ x ∈ S, x ∈ isort leS nodes) ∧ S.length ≤ 500) ∧ Ls.length = 5 ∧ e = [some (.ref 0), some (.int (k : Nat)), some M, some (.ref kk), some N, some (.ref kn'), some (.rol (Ls.map outS)), none] ∧ h = p'.ob :: (loc ++ g)) (fun J hJ => ?_) ?_
  · rw [wp_sst, wp_fz, wp_dlst, wp_acons, wp_bi, wp_vr]
    refine ⟨_, rfl, ?_⟩
    rw [wp_kn, on0, owp_some, wp_acons, wp_bi, wp_vr]
    refine ⟨_, rfl, ?_⟩
    rw [wp_kn, on2, owp_some, wp_acons, wp_dtup, wp_acons, wp_bi, wp_vr]
    refine ⟨_, rfl, ?_⟩
    rw [wp_bi, wp_kn, wp_cal, wp_acons, wp_vr]
    refine ⟨_, rfl, ?_⟩
    rw [wp_acons, wp_vr]
    refine ⟨_, rfl, ?_⟩
    rw [wp_anil]
    refine ⟨rfl, pick_ok (by omega) (by omega) fun r p3 r0 r1 => ?_⟩
    obtain ⟨a, rfl⟩ := Int.eq_ofNat_of_zero_le r0
    have kn1 : 1 ≤ kn' ∨ kn' = 0 := by omega
    have d2' : (p3.ob :: (loc ++ g))[kn']? = some (.lst (nodes.map .str)) ∨ kn' = 0 := by
      rcases kn1 with h | h
      · refine .inl ?_
        obtain ⟨j, rfl⟩ : ∃ j, kn' = j + 1 := ⟨kn' - 1, by omega⟩
        simpa using d2
      · exact .inr h
    have d2'' : (p3.ob :: (loc ++ g))[kn']? = some (.lst (nodes.map .str)) := by
      rcases d2' with h | h
      · exact h
      · subst h
        simp only [List.getElem?_cons_zero, Option.some.injEq, Pq.ob, Ob.lst.injEq] at d2
        cases nodes with
        | nil => simp at d2
        | cons x xs => simp at d2
    rw [o_add_i, owp_some, show (2 : Int) + (a : Int) = ((2 + a : Nat) : Int) by omega]
    have ha : 2 + a < nodes.length := by omega
    rw [o_ix (d := .str (nm nodes (2 + a))) (it_ref d2'') (by rw [atI_nat, List.getElem?_map, nm_at ha]; rfl), owp_some, wp_anil]
    refine ⟨z1, ?_⟩
    rw [wp_acons, wp_ap, wp_acons, wp_fz, wp_ap, wp_acons, wp_sl, wp_vr]
    refine ⟨_, rfl, ?_⟩
    obtain ⟨m, c1, c2, c3⟩ := cut_s (l := nodes) (lo := some 1) (hi := none)
    have hsl : oSl (.ref kn') (some 1) none (p3.ob :: (loc ++ g)) = some (.ref (p3.ob :: (loc ++ g)).length, p3.ob :: (loc ++ g) ++ [.lst (m.map .str)]) := by rw [← c1]; exact o_sl_ref d2''
    have n60 := sh.dr.n60
    simp only [osome, onone, wp_bind, wp_kn, wp_ok, hsl, owp_some]
    rw [wp_anil, o_sorted_s (xs := m) (it_ref (by simp)) (by omega), owp_some, fq_next]
    refine ⟨blws_str, ?_⟩
    rw [wp_anil, o_tuple]
    refine ⟨_, rfl, ?_⟩
    rw [wp_acons, wp_dtup, wp_anil]
    refine ⟨z0, ?_⟩
    rw [wp_anil]
    refine ⟨z5, fq_pq_lst (g := []) ?_ ?_⟩
    · refine blws_iff.mpr fun x hx => ?_
      simp only [List.mem_cons, List.not_mem_nil, or_false] at hx
      rcases hx with rfl | rfl | rfl | rfl | rfl
      · exact blws_map (f := D.str) fun _ _ => rfl
      · exact blws_map (f := D.str) fun _ _ => rfl
      · rfl
      · exact blws_map (f := D.str) fun _ _ => rfl
      · rfl
    · refine hJ _ _ ⟨p3, [isort leS nodes, W, [nm nodes (2 + a)], isort leS m, []], fun S hS => ?_, rfl, rfl, rfl⟩
      have wl := hN.wl
      simp only [List.mem_cons, List.not_mem_nil, or_false] at hS
      rcases hS with rfl | rfl | rfl | rfl | rfl
      · exact ⟨fun _ h => h, by rw [pn.length_eq]; omega⟩
      · exact ⟨hN.w, by omega⟩
      · exact ⟨fun x hx => by rw [List.mem_singleton.mp hx, pn.mem_iff]; exact nm_mem ha, by simp⟩
      · refine ⟨fun x hx => ?_, ?_⟩
        · rw [(isort_perm_self (le := leS) m).mem_iff] at hx
          rw [pn.mem_iff]
          exact c2 x hx
        · rw [(isort_perm_self (le := leS) m).length_eq]; omega
      · exact ⟨fun x hx => by simp at hx, by simp⟩
  rintro e h ⟨p3, Ls, hLs, l5, rfl, rfl⟩
  obtain ⟨I, hI⟩ : ∃ I : Nat → List (List Str) → Nv → MH → Prop, ∀ i xs e h, I i xs e h ↔ ∃ v7, e = [some (.ref 0), some (.int (k : Nat)), some M, some (.ref kk), some N, some (.ref kn'), some (.rol (Ls.map outS)), v7] ∧ h = p3.ob :: (loc ++ g) := ⟨_, fun _ _ _ _ => Iff.rfl⟩
  refine seq_cutJ (I Ls.length []) (fun J hJ => ?_) ?_
  · rw [wp_sfor, wp_range1, wp_ap, wp_acons, wp_vr]
    refine ⟨_, rfl, ?_⟩
    have lenL : ∀ h, oLen [.rol (Ls.map outS)] h = some (.int (Ls.length : Nat), h) := fun h => by simp [oLen, lenD]
    rw [wp_anil, lenL, owp_some]
    refine ⟨_, rfl, okB_of (by omega) (by omega), ?_⟩
    refine loop_rg Ls (by simp) I ((hI _ _ _ _).mpr ⟨none, rfl, rfl⟩) ?_ fun e h q => ⟨rfl, hJ _ _ q⟩
    intro i S xs e h hd hi hx q
    obtain ⟨v7, rfl, rfl⟩ := (hI _ _ _ _).mp q
    refine ⟨rfl, [some (.ref 0), some (.int (k : Nat)), some M, some (.ref kk), some N, some (.ref kn'), some (.rol (Ls.map outS)), some (.int (i : Nat))], by simp [setP], ?_⟩
    obtain ⟨s1, s2⟩ := hLs S (List.mem_of_getElem? hx)
    have lx : ∀ h, oIx (.rol (Ls.map outS)) (.int (i : Nat)) h = some (.tup (S.map .str), h) := fun h => o_ix it_rol (by rw [atI_nat, List.getElem?_map, hx]; rfl)
    refine check_wp hN s1 s2 (t := i) (fun Q E q => ?_) (fun Q E q => ?_) (fun Q E q => ?_) (fun Q E q => ?_) ?_
    · rw [wp_vr]; exact ⟨_, rfl, q⟩
    · rw [wp_bi, wp_vr]
      refine ⟨_, rfl, ?_⟩
      rw [wp_vr]
      refine ⟨_, rfl, ?_⟩
      rw [lx, owp_some]
      exact q
    · rw [wp_vr]; exact ⟨_, rfl, q⟩
    · rw [wp_cal, wp_acons, wp_vr]
      refine ⟨_, rfl, ?_⟩
      rw [wp_acons, wp_bi, wp_vr]
      refine ⟨_, rfl, ?_⟩
      rw [wp_vr]
      refine ⟨_, rfl, ?_⟩
      rw [lx, owp_some, wp_anil, hN.e]
      exact ⟨rfl, law_due_wp hN.g s1 s2 q⟩
    · show I (i + 1) xs _ _
      rw [hI]
      exact ⟨_, rfl, rfl⟩
  intro e h q
  obtain ⟨v7, rfl, rfl⟩ := (hI _ _ _ _).mp q
  rw [wp_ret, wp_kn]
  exact fq_pq (fun n => by simp) rfl (hq p3)
end
end K09
namespace K09
open PySem Det
def Nok (d : D) : Prop := ∃ ns rs W C, NetOk d ns rs W C
def Asked (d : D) : Prop := ∃ N ns rs W C S, d = .tup [N, .tup (S.map .str), dueD ns rs S] ∧ NetOk N ns rs W C ∧ (∀ x ∈ S, x ∈ ns) ∧ S.length ≤ 500
theorem Asked.blw {d : D} (h : Asked d) (n : Nat) : d.blw n = true := by
  obtain ⟨N, ns, rs, W, C, S, rfl, hN, _⟩ := h
  refine blws_iff.mpr fun x hx => ?_
  simp only [List.mem_cons, List.not_mem_nil, or_false] at hx
  rcases hx with rfl | rfl | rfl
  · exact hN.n1 n
  · exact blws_map (f := D.str) fun _ _ => rfl
  · exact due_blw _ _ _ _
theorem set_loc {o x w : Ob} {loc g : MH} : (o :: (loc ++ x :: g)).set (loc.length + 1) w = o :: (loc ++ w :: g) := by simp
section
variable {p : Pq} {loc : MH} {Q : D → MH → Prop} {E : Exn → MH → Prop}
/-- a drawn net, taken out -/
theorem first_wp {h : MH} {d : D} {many : Nat} {nodes names : List Str} {es : List (Nat × Nat)} {ws gs : List Nat} (sh : Shape many nodes names es ws gs) (dq : DressQ h d many nodes names es ws gs) (hq : ∀ N, Nok N → Q N h) : owp (oIx d (.int 0) h) Q := by
  obtain ⟨k, kn', km, rfl, d1, _⟩ := dq
  rw [show (0 : Int) = ((0 : Nat) : Int) from rfl, o_ix (d := dressN nodes names es ws gs) (it_ref d1) (by rw [atI_nat]; rfl), owp_some]
  exact hq _ (net_ok sh)
end
theorem law_true (ns : List Int) (hl : ns.length ≤ 63) : ∃ mh, m_law [.rol (ns.map .int)] [] = .ok (.bl true) mh := by
  have hz : (10000 : Nat) ≤ sizeLine := by decide
  have z0 : (0 : Nat) ≤ sizeLine := by decide
  have z3 : (3 : Nat) ≤ sizeLine := by decide
  have z4 : (4 : Nat) ≤ sizeLine := by decide
  have main : (m_law [.rol (ns.map .int)] []).wp (fun a _ => a = .bl true) (fun _ _ => False) := by
    unfold m_law
    rw [wp_zF, wp_runF]
    generalize hS : D.rol (ns.map .int) = S
    show (sq _ _ [some S, none, none, none, none, none, none, none] []).wp _
    refine seq_cutJ (fun e h => ∃ p g, e = [some S, some (.ref 0), none, none, none, none, none, none] ∧ h = Pq.ob p :: g) (fun J hJ => ?_) ?_
    · rw [wp_sst, wp_cal, wp_acons, wp_vr]
      refine ⟨S, rfl, ?_⟩
      rw [wp_anil, ← hS]
      exact ⟨rfl, pool_ok hl fun p g => hJ _ _ ⟨p, g, by rw [hS]; rfl, rfl⟩⟩
    rintro e h ⟨p, g, rfl, rfl⟩
    -- the scenes
    refine seq_cutJ (fun e h => ∃ (p' : Pq) (L g : MH) (nets : List D), (∀ d ∈ nets, Nok d) ∧ nets.length = 4 ∧ e = [some S, some (.ref 0), some (.ref (L.length + 1)), none, none, none, none, none] ∧ h = p'.ob :: (L ++ .lst nets :: g)) (fun J hJ => ?_) ?_
    · rw [wp_sst, wp_dlst, wp_acons, wp_bi, wp_cal, wp_acons, wp_vr]
      refine ⟨_, rfl, ?_⟩
      rw [wp_acons, wp_kn, wp_acons, wp_kn, wp_anil]
      refine ⟨rfl, drawn_ok (most := 6) (wires := 9) (by omega) (by omega) (by omega) (by omega) fun many nodes names es ws gs p1 g1 d sh _ dq => ?_⟩
      rw [wp_kn]
      refine first_wp sh dq fun N1 n1 => ?_
      rw [wp_acons, wp_bi, wp_cal, wp_acons, wp_vr]
      refine ⟨_, rfl, ?_⟩
      rw [wp_acons, wp_kn, wp_acons, wp_kn, wp_anil]
      refine ⟨rfl, drawn_ok (most := 10) (wires := 16) (by omega) (by omega) (by omega) (by omega) fun many nodes names es ws gs p2 g2 d sh _ dq => ?_⟩
      rw [wp_kn]
      refine first_wp sh dq fun N2 n2 => ?_
      rw [wp_acons, wp_bi, wp_cal, wp_acons, wp_vr]
      refine ⟨_, rfl, ?_⟩
      rw [wp_acons, wp_kn, wp_acons, wp_kn, wp_anil]
      refine ⟨rfl, drawn_ok (most := 6) (wires := 9) (by omega) (by omega) (by omega) (by omega) fun many nodes names es ws gs p3 g3 d sh _ dq => ?_⟩
      rw [wp_kn]
      refine first_wp sh dq fun N3 n3 => ?_
      rw [wp_acons, wp_bi, wp_cal, wp_acons, wp_vr]
      refine ⟨_, rfl, ?_⟩
      rw [wp_acons, wp_kn, wp_acons, wp_kn, wp_anil]
      refine ⟨rfl, drawn_ok (most := 16) (wires := 24) (by omega) (by omega) (by omega) (by omega) fun many nodes names es ws gs p4 g4 d sh _ dq => ?_⟩
      rw [wp_kn]
      refine first_wp sh dq fun N4 n4 => ?_
      rw [wp_anil]
      refine ⟨z4, ?_⟩
      refine hJ _ _ ⟨p4, g ++ g1 ++ g2 ++ g3 ++ g4, [], [N1, N2, N3, N4], fun d hd => ?_, rfl, ?_, ?_⟩
      · simp only [List.mem_cons, List.not_mem_nil, or_false] at hd
        rcases hd with rfl | rfl | rfl | rfl <;> assumption
      · simp
      · simp
    clear g p
    rintro e h ⟨p, L, g, nets, hn, nl, rfl, rfl⟩
    refine seq_cutJ (fun e h => ∃ (p' : Pq) (g : MH) (nets : List D), (∀ d ∈ nets, Nok d) ∧ nets.length ≤ 5 ∧ e = [some S, some (.ref 0), some (.ref (L.length + 1)), none, none, none, none, none] ∧ h = p'.ob :: (L ++ .lst nets :: g)) (fun J hJ => ?_) ?_
    · rw [wp_sif, wp_tb, wp_bi, wp_cal, wp_acons, wp_vr]
      refine ⟨_, rfl, ?_⟩
      rw [wp_acons, wp_kn, wp_anil]
      refine ⟨rfl, pick_ok (by omega) (by omega) fun r p2 r0 r1 => ?_⟩
      rw [wp_kn, o_eq_i, owp_some]
      refine ⟨_, rfl, fun _ => ?_, fun _ => ?_⟩
      · rw [wp_drp, wp_app, wp_vr]
        refine ⟨_, rfl, _, rfl, ⟨_, get_loc⟩, ?_⟩
        rw [wp_bi, wp_cal, wp_acons, wp_vr]
        refine ⟨_, rfl, ?_⟩
        rw [wp_anil]
        refine ⟨rfl, wide_ok fun many nodes names es ws gs p3 g3 d sh _ _ dq => ?_⟩
        rw [wp_kn]
        refine first_wp sh dq fun N n1 => ?_
        have eH : p3.ob :: (L ++ Ob.lst nets :: g ++ g3) = p3.ob :: (L ++ Ob.lst nets :: (g ++ g3)) := by simp
        rw [eH]
        refine ⟨nets, get_loc, by omega, ?_⟩
        rw [set_loc]
        refine hJ _ _ ⟨p3, g ++ g3, nets ++ [N], fun d hd => ?_, by simp; omega, rfl, rfl⟩
        rcases List.mem_append.mp hd with hd | hd
        · exact hn d hd
        · rw [List.mem_singleton.mp hd]; exact n1
      · rw [wp_nop]
        exact hJ _ _ ⟨p2, g, nets, hn, by omega, rfl, rfl⟩
    clear hn nl nets g p
    rintro e h ⟨p, g, nets, hn, nl, rfl, rfl⟩
    obtain ⟨K, hK⟩ : ∃ K, K = L ++ Ob.lst nets :: g := ⟨_, rfl⟩
    have scn : ∀ (o : Ob) Y, (o :: (K ++ Y))[L.length + 1]? = some (.lst nets) := fun o Y => by
      rw [hK, show o :: (L ++ Ob.lst nets :: g ++ Y) = o :: (L ++ Ob.lst nets :: (g ++ Y)) by simp]
      exact get_loc
    rw [← hK]
    refine seq_cutJ (fun e h => ∃ (p' : Pq), e = [some S, some (.ref 0), some (.ref (L.length + 1)), none, none, none, none, none] ∧ h = p'.ob :: K) (fun J hJ => ?_) ?_
    · rw [wp_sif, wp_tnot, wp_tru, wp_cal, wp_acons, wp_vr]
      refine ⟨_, rfl, ?_⟩
      rw [wp_anil]
      refine ⟨rfl, law_row_wp fun p' => ⟨_, rfl, fun z => (nomatch z), fun _ => ?_⟩⟩
      rw [wp_nop]
      exact hJ _ _ ⟨p', rfl, rfl⟩
    clear p
    rintro e h ⟨p, rfl, rfl⟩
    refine seq_cut (fun e h => e = [some S, some (.ref 0), some (.ref (L.length + 1)), some (.ref (K.length + 1)), none, none, none, none] ∧ h = p.ob :: (K ++ [.lst []])) (by simp [z0]) ?_
    rintro e h ⟨rfl, rfl⟩
    obtain ⟨I, hI⟩ : ∃ I : Nat → List D → Nv → MH → Prop, ∀ i xs e h, I i xs e h ↔ ∃ (p' : Pq) (as : List D) (v4 v5 v6 v7 : Option D), e = [some S, some (.ref 0), some (.ref (L.length + 1)), some (.ref (K.length + 1)), v4, v5, v6, v7] ∧ h = p'.ob :: (K ++ [.lst as]) ∧ (∀ d ∈ as, Asked d) ∧ as.length ≤ 4 * i := ⟨_, fun _ _ _ _ => Iff.rfl⟩
    refine seq_cutJ (I nets.length []) (fun J hJ => ?_) ?_
    · rw [wp_sfor, wp_iter, wp_vr]
      refine ⟨_, rfl, _, itD_ref (scn _ _), ?_⟩
      refine loop_gen nets (fun _ d => d) (ds := nets) (fun i => by cases nets[i]? <;> rfl) I ((hI _ _ _ _).mpr ⟨p, [], none, none, none, none, rfl, rfl, by simp, by simp⟩) ?_ fun e h q => ?_
      · intro i N xs e h hd hi hx q
        obtain ⟨p', as, v4, v5, v6, v7, rfl, rfl, a1, a2⟩ := (hI _ _ _ _).mp q
        refine ⟨by simp [lstIs, scn], [some S, some (.ref 0), some (.ref (L.length + 1)), some (.ref (K.length + 1)), some N, v5, v6, v7], by simp [setP], ?_⟩
        obtain ⟨mns, rs, W, C, hN⟩ := hn N (List.mem_of_getElem? hx)
        obtain ⟨R, hR⟩ : ∃ R : Nat → Nv → MH → Prop, ∀ t e h, R t e h ↔ ∃ (p' : Pq) (as : List D) (v5 v6 v7 : Option D), e = [some S, some (.ref 0), some (.ref (L.length + 1)), some (.ref (K.length + 1)), some N, v5, v6, v7] ∧ h = p'.ob :: (K ++ [.lst as]) ∧ (∀ d ∈ as, Asked d) ∧ as.length ≤ 4 * i + t := ⟨_, fun _ _ _ => Iff.rfl⟩
        rw [wp_sfor, wp_range1, wp_kn]
        refine ⟨_, rfl, okB_of (by omega) (by omega), ?_⟩
        refine loop_n (n := 4) R ((hR _ _ _).mpr ⟨p', as, v5, v6, v7, rfl, rfl, a1, by omega⟩) ?_ fun e h q => ?_
        · intro t e h ht q
          obtain ⟨p', as, v5, v6, v7, rfl, rfl, a1, a2⟩ := (hR _ _ _).mp q
          refine ⟨rfl, [some S, some (.ref 0), some (.ref (L.length + 1)), some (.ref (K.length + 1)), some N, some (.int (t : Nat)), v6, v7], by simp [setP], ?_⟩
          refine seq_cutJ (fun e h => ∃ (p' : Pq) (T : List Str), (∀ x ∈ T, x ∈ mns) ∧ T.length ≤ 500 ∧ e = [some S, some (.ref 0), some (.ref (L.length + 1)), some (.ref (K.length + 1)), some N, some (.int (t : Nat)), some (.tup (T.map .str)), v7] ∧ h = p'.ob :: (K ++ [.lst as])) (fun J hJ => ?_) ?_
          · rw [wp_sst, wp_cal, wp_acons, wp_vr]
            refine ⟨_, rfl, ?_⟩
            rw [wp_acons, wp_vr]
            refine ⟨_, rfl, ?_⟩
            rw [wp_anil]
            exact ⟨rfl, law_some_wp hN fun T p' h1 h2 => hJ _ _ ⟨p', T, h1, h2, rfl, rfl⟩⟩
          rintro e h ⟨p', T, t1, t2, rfl, rfl⟩
          refine seq_cut (fun e h => e = [some S, some (.ref 0), some (.ref (L.length + 1)), some (.ref (K.length + 1)), some N, some (.int (t : Nat)), some (.tup (T.map .str)), some (dueD mns rs T)] ∧ h = p'.ob :: (K ++ [.lst as])) ?_ ?_
          · rw [wp_sst, wp_cal, wp_acons, wp_vr]
            refine ⟨_, rfl, ?_⟩
            rw [wp_acons, wp_vr]
            refine ⟨_, rfl, ?_⟩
            rw [wp_anil]
            have eN := hN.e
            refine ⟨rfl, ?_⟩
            have key : ∀ (Q : D → MH → Prop) (E : Exn → MH → Prop) H, Q (dueD mns rs T) H → (m__law_due [N, .tup (T.map .str)] H).wp Q E := fun Q E H q => by rw [eN]; exact law_due_wp hN.g t1 t2 q
            exact key _ _ _ ⟨rfl, rfl⟩
          rintro e h ⟨rfl, rfl⟩
          refine seq_cut (fun e h => e = [some S, some (.ref 0), some (.ref (L.length + 1)), some (.ref (K.length + 1)), some N, some (.int (t : Nat)), some (.tup (T.map .str)), some (dueD mns rs T)] ∧ h = p'.ob :: (K ++ [.lst (as ++ [.tup [N, .tup (T.map .str), dueD mns rs T]])])) ?_ ?_
          · rw [wp_drp, wp_app, wp_vr]
            refine ⟨_, rfl, _, rfl, ⟨_, get_loc⟩, ?_⟩
            rw [wp_dtup, wp_acons, wp_vr]
            refine ⟨_, rfl, ?_⟩
            rw [wp_acons, wp_vr]
            refine ⟨_, rfl, ?_⟩
            rw [wp_acons, wp_vr]
            refine ⟨_, rfl, ?_⟩
            rw [wp_anil]
            refine ⟨z3, as, get_loc, by omega, ?_⟩
            rw [set_loc]
            exact ⟨rfl, rfl⟩
          rintro e h ⟨rfl, rfl⟩
          refine check_wp hN t1 t2 (t := t) (fun Q E q => ?_) (fun Q E q => ?_) (fun Q E q => ?_) (fun Q E q => ?_) ?_
          · rw [wp_vr]; exact ⟨_, rfl, q⟩
          · rw [wp_vr]; exact ⟨_, rfl, q⟩
          · rw [wp_vr]; exact ⟨_, rfl, q⟩
          · rw [wp_vr]; exact ⟨_, rfl, q⟩
          · show R (t + 1) _ _
            rw [hR]
            refine ⟨p', _, _, _, _, rfl, rfl, fun d hd => ?_, by simp; omega⟩
            rcases List.mem_append.mp hd with hd | hd
            · exact a1 d hd
            · rw [List.mem_singleton.mp hd]; exact ⟨N, mns, rs, W, C, T, rfl, hN, t1, t2⟩
        · obtain ⟨p', as, v5, v6, v7, rfl, rfl, a1, a2⟩ := (hR _ _ _).mp q
          refine ⟨rfl, ?_⟩
          show I (i + 1) xs _ _
          rw [hI]
          exact ⟨p', as, _, v5, v6, v7, rfl, rfl, a1, by omega⟩
      · obtain ⟨p', as, v4, v5, v6, v7, rfl, rfl, a⟩ := (hI _ _ _ _).mp q
        exact ⟨by simp [lstIs, scn], hJ _ _ ((hI _ _ _ _).mpr ⟨p', as, v4, v5, v6, v7, rfl, rfl, a⟩)⟩
    intro e h q
    obtain ⟨p', as, v4, v5, v6, v7, rfl, rfl, a1, a2⟩ := (hI _ _ _ _).mp q
    obtain ⟨R, hR⟩ : ∃ R : Nat → List D → Nv → MH → Prop, ∀ i xs e h, R i xs e h ↔ ∃ (v4 v5 v6 v7 : Option D), e = [some S, some (.ref 0), some (.ref (L.length + 1)), some (.ref (K.length + 1)), v4, v5, v6, v7] ∧ h = p'.ob :: (K ++ [.lst as]) := ⟨_, fun _ _ _ _ => Iff.rfl⟩
    obtain ⟨cs, hcs⟩ : ∃ cs, cs = cutD as none (some 3) := ⟨_, rfl⟩
    have ca : ∀ d ∈ cs, Asked d := fun d hd => a1 d (cut_mem (hcs ▸ hd))
    refine seq_cutJ (R cs.length []) (fun J hJ => ?_) ?_
    · rw [wp_sfor, wp_iter, wp_fz, wp_sl, wp_vr]
      refine ⟨_, rfl, ?_⟩
      have hsl : oSl (.ref (K.length + 1)) none (some 3) (p'.ob :: (K ++ [.lst as])) = some (.ref (p'.ob :: (K ++ [.lst as])).length, p'.ob :: (K ++ [.lst as]) ++ [.lst cs]) := by rw [hcs]; exact o_sl_ref get_loc
      simp only [osome, onone, wp_bind, wp_kn, wp_ok, hsl, owp_some]
      rw [fq_push]
      refine ⟨blws_iff.mpr fun d hd => (ca d hd).blw _, _, rfl, ?_⟩
      refine loop_gen cs (fun _ d => d) (ds := cs) (fun i => by cases cs[i]? <;> rfl) R ((hR _ _ _ _).mpr ⟨v4, v5, v6, v7, rfl, rfl⟩) ?_ fun e h q => ⟨rfl, hJ _ _ q⟩
      intro i d xs e h hd hi hx q
      obtain ⟨v4, v5, v6, v7, rfl, rfl⟩ := (hR _ _ _ _).mp q
      obtain ⟨N, mns, rs, W, C, T, rfl, hN, t1, t2⟩ := ca d (List.mem_of_getElem? hx)
      refine ⟨rfl, [some S, some (.ref 0), some (.ref (L.length + 1)), some (.ref (K.length + 1)), some N, v5, some (.tup (T.map .str)), some (dueD mns rs T)], by simp [setP, setMany], ?_⟩
      refine check_wp hN t1 t2 (t := 1) (fun Q E q => ?_) (fun Q E q => ?_) (fun Q E q => ?_) (fun Q E q => ?_) ?_
      · rw [wp_vr]; exact ⟨_, rfl, q⟩
      · rw [wp_vr]; exact ⟨_, rfl, q⟩
      · rw [wp_kn]; exact q
      · rw [wp_vr]; exact ⟨_, rfl, q⟩
      · show R (i + 1) xs _ _
        rw [hR]
        exact ⟨_, _, _, _, rfl, rfl⟩
    intro e h q
    obtain ⟨v4, v5, v6, v7, rfl, rfl⟩ := (hR _ _ _ _).mp q
    rw [wp_ret, wp_cal, wp_acons, wp_vr]
    refine ⟨_, rfl, ?_⟩
    rw [wp_anil]
    refine ⟨rfl, law_row_wp fun p' => ?_⟩
    show FQ [] (fun a _ => a = D.bl true) _ _
    rw [fq_bl]
    exact ⟨⟨Nat.zero_le _, fun i o hi => absurd hi (by simp)⟩, rfl⟩
  obtain ⟨a, m, e, rfl⟩ := wp_end main
  exact ⟨m, e⟩
end K09
open PySem PySem.W PyProof.Rows
set_option maxRecDepth 100000 in
set_option maxHeartbeats 0 in
theorem PySem.Challenge.cw_endstell_k09_lots_gates_own_links_holds : PySem.Challenge.rw_endstell_k09_lots_gates_own_links.Holds := by
  w_on; o_law; k_head; (case hw => w_witness2)
  k_fill
  refine K09.walk (l := PySem.Challenge.rw_endstell_k09_lots_gates_own_links) rfl rfl (fun w h Y => PySem.W.kIn_of Y) ?F K09.law_true
  case F =>
    intro w mg fa h KX G hmg
    refine' K09.all_mk (w := w) KX G hmg ?a0 ?l0 ?c0 ?k0 ?a1 ?l1 ?c1 ?k1 ?a2 ?l2 ?c2 ?k2 ?a3 ?l3 ?c3 ?k3 ?a4 ?l4 ?c4 ?k4 ?a5 ?l5 ?c5 ?k5 ?a6 ?l6 ?c6 ?k6 ?a7 ?l7 ?c7 ?k7 ?a8 ?l8 ?c8 ?k8 ?a9 ?l9 ?c9 ?k9 ?a10 ?l10 ?c10 ?k10 ?a11 ?l11 ?c11 ?k11 ?a12 ?l12 ?c12 ?k12 ?a13 ?l13 ?c13 ?k13 ?a14 ?l14 ?c14 ?k14 ?a15 ?l15 ?c15 ?k15 ?a16 ?l16 ?c16 ?k16 ?a17 ?l17 ?c17 ?k17 ?a18 ?l18 ?c18 ?k18 ?a19 ?l19 ?c19 ?k19 ?a20 ?l20 ?c20 ?k20 ?a21 ?l21 ?c21 ?k21 ?a22 ?l22 ?c22 ?k22 ?a23 ?l23 ?c23 ?k23 ?a24 ?l24 ?c24 ?k24 ?a25 ?l25 ?c25 ?k25 ?a26 ?l26 ?c26 ?k26 ?a27 ?l27 ?c27 ?k27 ?a28 ?l28 ?c28 ?k28 ?z_bool ?z_enumerate ?z_int ?z_isinstance ?z_len ?z_list ?z_max ?z_min ?z_range ?z_set ?z_sorted ?z_str ?z_tuple
    (case a0 => k_is); (case l0 => k_is); (case c0 => k_is); (case k0 => k_is)
    (case a1 => k_is); (case l1 => k_is); (case c1 => k_is); (case k1 => k_is)
    (case a2 => k_is); (case l2 => k_is); (case c2 => k_is); (case k2 => k_is)
    (case a3 => k_is); (case l3 => k_is); (case c3 => k_is); (case k3 => k_is)
    (case a4 => k_is); (case l4 => k_is); (case c4 => k_is); (case k4 => k_is)
    (case a5 => k_is); (case l5 => k_is); (case c5 => k_is); (case k5 => k_is)
    (case a6 => k_is); (case l6 => k_is); (case c6 => k_is); (case k6 => k_is)
    (case a7 => k_is); (case l7 => k_is); (case c7 => k_is); (case k7 => k_is)
    (case a8 => k_is); (case l8 => k_is); (case c8 => k_is); (case k8 => k_is)
    (case a9 => k_is); (case l9 => k_is); (case c9 => k_is); (case k9 => k_is)
    (case a10 => k_is); (case l10 => k_is); (case c10 => k_is); (case k10 => k_is)
    (case a11 => k_is); (case l11 => k_is); (case c11 => k_is); (case k11 => k_is)
    (case a12 => k_is); (case l12 => k_is); (case c12 => k_is); (case k12 => k_is)
    (case a13 => k_is); (case l13 => k_is); (case c13 => k_is); (case k13 => k_is)
    (case a14 => k_is); (case l14 => k_is); (case c14 => k_is); (case k14 => k_is)
    (case a15 => k_is); (case l15 => k_is); (case c15 => k_is); (case k15 => k_is)
    (case a16 => k_is); (case l16 => k_is); (case c16 => k_is); (case k16 => k_is)
    (case a17 => k_is); (case l17 => k_is); (case c17 => k_is); (case k17 => k_is)
    (case a18 => k_is); (case l18 => k_is); (case c18 => k_is); (case k18 => k_is)
    (case a19 => k_is); (case l19 => k_is); (case c19 => k_is); (case k19 => k_is)
    (case a20 => k_is); (case l20 => k_is); (case c20 => k_is); (case k20 => k_is)
    (case a21 => k_is); (case l21 => k_is); (case c21 => k_is); (case k21 => k_is)
    (case a22 => k_is); (case l22 => k_is); (case c22 => k_is); (case k22 => k_is)
    (case a23 => k_is); (case l23 => k_is); (case c23 => k_is); (case k23 => k_is)
    (case a24 => k_is); (case l24 => k_is); (case c24 => k_is); (case k24 => k_is)
    (case a25 => k_is); (case l25 => k_is); (case c25 => k_is); (case k25 => k_is)
    (case a26 => k_is); (case l26 => k_is); (case c26 => k_is); (case k26 => k_is)
    (case a27 => k_is); (case l27 => k_is); (case c27 => k_is); (case k27 => k_is)
    (case a28 => k_is); (case l28 => k_is); (case c28 => k_is); (case k28 => k_is)
    (case z_bool => k_is)
    (case z_enumerate => k_is)
    (case z_int => k_is)
    (case z_isinstance => k_is)
    (case z_len => k_is)
    (case z_list => k_is)
    (case z_max => k_is)
    (case z_min => k_is)
    (case z_range => k_is)
    (case z_set => k_is)
    (case z_sorted => k_is)
    (case z_str => k_is)
    (case z_tuple => k_is)
