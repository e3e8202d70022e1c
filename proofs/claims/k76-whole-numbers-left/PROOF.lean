import PyProof.Rows.All
import Wide.All
import OpenK.AllK
import Wide.FinOn
import HandS.ForMost
import HandS.ForExc
import HandS.Walk
import HandS.Lambda
import HandS.TupAny
import HandS.WideMore
import HandS.WideBits
import HandS.IsInst
import HandS.Deep
import HandS.SortInts
import HandS.SortRule
import HandS.Zip
import HandS.Flow
import HandS.Iter
import HandS.Style
import HandS.RevTup
import KE.GoesMore
import KE.GoesEnum
import HandS.Defaults
import HandS.NamedTupSort
import HandS.SetFor
import HandS.TupSets
import HandS.Strs
import KE.DataMinMax
import HandS.DictComp
import KE.KDictWalk
import KE.KDictCopyH
import KE.KDictDisplayH
import KE.KDictOf
import HandS.Conv
import HandS.TryMany
import HandS.NoneIn
import HandS.ExcInit
import HandS.ExcField
import HandS.Base
import HandS.Call
import HandS.Exc
import HandS.TryOnly
import HandS.RaiseMore
import HandS.EndTab
import KE.KNestM
import PySem.Challenge.RW_restlands_k76_whole_numbers_left
set_option Elab.async false
set_option linter.all false
set_option maxRecDepth 100000
set_option maxHeartbeats 4000000
section
namespace FL
open PySem PySem.Spec PyProof.Rows L2
/-- plain data, by value -/
inductive Da where
  | non | bl (b : Bool) | int (i : Int) | str (x : Str) | tup (l : List Da) | lst (l : List Da) | flst (l : List Da) | dct (ks vs : List Da) | dck (ks vs : List Da) | ref (a : Addr) | ty (n : String)
/-- a value: plain data, or the n-th object of the store -/
inductive D where
  | v (p : Da) | o (n : Nat)
def kDa : Key → Da
  | .inl i => .int i
  | .inr x => .str x
/-- what a row is about: the tables of the code objects whose defs make lambdas, with the lambdas' names; the program, the world -/
class TabsOf where
  T : List (Addr × Str)
  P : Program
  w : World
  /-- where the classes of errors stand -/
  cls : Str → Addr
variable [TabsOf]
/-- at a: a dict whose keys are tuples; the keys' own tuples are told -/
def RawIs (P : Program) (w : World) (a : Addr) (xs : List (List Key × Addr × V)) : Heap → Prop := fun h => xs.length ≤ sizeLine ∧ (a == sysModules) = false ∧
  ∃ us : List (List Key × Addr × Value), Paired (fun p q => p.1 = q.1 ∧ p.2.1 = q.2.1 ∧ RelV p.2.2 q.2.2) xs us ∧ ∃ o es ep, h.get? a = some o ∧ o.ExactDict ∧ o.data = .dict es ep ∧ es.toList = us.map (entryOfKey (tupleKind (mixKind P w))) ∧ (us.map (·.1)).Nodup
def dRaw (P : Program) (w : World) (a : Addr) (xs : List (List Key × Addr × V)) : HO := .ext (RawIs P w a xs)
theorem dRaw_ne_code {P : Program} {w : World} {a : Addr} {xs : List (List Key × Addr × V)} {q : Str} : dRaw P w a xs ≠ LamX.CodeO a q := fun e => by
  have e' : RawIs P w a xs = fun h => ∃ (oc : Obj) (vs : Array Value) (t : Tok), h.get? a = some oc ∧ oc.data = .fields vs ∧ vs[1]? = some (.str q t) := HO.ext.inj e
  have g : ({ objs := Array.replicate (a + 1) { cls := .none, data := .fields #[.none, .str q 0] } } : Heap).get? a = some { cls := .none, data := .fields #[.none, .str q 0] } := by
    unfold Heap.get?
    simp
  have h1 : (fun h : Heap => ∃ (oc : Obj) (vs : Array Value) (t : Tok), h.get? a = some oc ∧ oc.data = .fields vs ∧ vs[1]? = some (.str q t)) ({ objs := Array.replicate (a + 1) { cls := .none, data := .fields #[.none, .str q 0] } } : Heap) := ⟨_, _, 0, g, rfl, rfl⟩
  rw [← e'] at h1
  obtain ⟨_, _, us, _, o, es, ep, h2, _, h3, _⟩ := h1
  rw [g] at h2
  cases h2
  cases h3
/-- the keys of such a dict -/
def RKs (K : PySem.W.Frag) (H : Hp) (ks : List Da) (xs : List (List Key × Addr × V)) : Prop := ks = xs.map (fun x => .tup (x.1.map kDa)) ∧ ∀ x ∈ xs, SqT K H x.2.1 (x.1.map kV)
/-- a list that no one writes: the script -/
def FzL (K : PySem.W.Frag) (H : Hp) (a : Addr) (vs : List V) : Prop := (∃ o, H a = some (.frz o (.lst vs))) ∨
  ∃ (o : Obj) (its : Array Value) (n : Nat), K.lookup a = some o ∧ o.cls = .type "list" ∧ o.dict = none ∧ o.data = .seq its n ∧ its.size ≤ sizeLine ∧ Vals vs its.toList
theorem FzL.sq {K : PySem.W.Frag} {H : Hp} {a : Addr} {vs : List V} (h : FzL K H a vs) : SqL K H a vs := by
  rcases h with h | h
  · exact .inl (.inr h)
  · exact .inr h
mutual
inductive RP (K : PySem.W.Frag) (z : List Addr) (H : Hp) : Da → V → Prop
  | non : RP K z H .non .non
  | bl (b : Bool) : RP K z H (.bl b) (.bl b)
  | int (i : Int) : RP K z H (.int i) (.int i)
  | str (x : Str) : RP K z H (.str x) (.str x)
  | tup {l : List Da} {a : Addr} {vs : List V} : SqT K H a vs → RPs K z H l vs → RP K z H (.tup l) (.ref a)
  | lst {l : List Da} {a : Addr} {vs : List V} : H a = some (.lst vs) → a ∉ z → RPs K z H l vs → RP K z H (.lst l) (.ref a)
  | flst {l : List Da} {a : Addr} {vs : List V} : FzL K H a vs → RPs K z H l vs → RP K z H (.flst l) (.ref a)
  | dK {ks vs : List Da} {a : Addr} {od : Obj} {kvs : List (Key × V)} : H a = some (.frz od (.dK kvs)) → ks = kvs.map (fun kv => kDa kv.1) → RPs K z H vs (kvs.map (·.2)) → RP K z H (.dck ks vs) (.ref a)
  | dR {ks vs : List Da} {a : Addr} {od : Obj} {xs : List (List Key × Addr × V)} : H a = some (.frz od (dRaw TabsOf.P TabsOf.w a xs)) → RKs K H ks xs → RPs K z H vs (xs.map (·.2.2)) → RP K z H (.dct ks vs) (.ref a)
  | ref (a : Addr) : RP K z H (.ref a) (.ref a)
  | ty (n : String) : RP K z H (.ty n) (.ty n)
inductive RPs (K : PySem.W.Frag) (z : List Addr) (H : Hp) : List Da → List V → Prop
  | nil : RPs K z H [] []
  | cons {p : Da} {ps : List Da} {v : V} {vs : List V} : RP K z H p v → RPs K z H ps vs → RPs K z H (p :: ps) (v :: vs)
end
/-- what never changes -/
def Im : HO → Prop
  | .tup _ => True
  | .frz _ _ => True
  | _ => False
/-- no code object's table -/
def NTb : HO → Prop
  | .tbl _ => False
  | _ => True
/-- nothing but perhaps a code object's table stands there -/
def NewA (H : Hp) (a : Addr) : Prop := ∀ o, H a = some o → ¬ NTb o
theorem NewA.of {H : Hp} {a : Addr} (h : H a = none) : NewA H a := fun o e => by rw [h] at e; cases e
theorem NewA.upd {H : Hp} {a b : Addr} {o : HO} (k : NTb o) (h : NewA (upd H b o) a) : NewA H a := fun u e => by
  by_cases c : a = b
  · subst c; exact absurd k (h o upd_same)
  · exact h u (by rw [upd_ne c]; exact e)
def Keep (z : List Addr) (H H' : Hp) : Prop := ∀ a o, H a = some o → ((a ∉ z ∧ NTb o) ∨ Im o) → H' a = some o
/-- the tables of the code objects whose defs make lambdas, and the lambdas' names -/
theorem tabs_upd {T : List (Addr × Str)} {H : Hp} {D : Addr} {o : HO} (t : LamX.Tabs T H) (h1 : ∀ ps, H D ≠ some (.tbl ps)) (h2 : ∀ q, H D ≠ some (LamX.CodeO D q)) : LamX.Tabs T (upd H D o) := fun p hp => by
  obtain ⟨ps, a1, a2, a3⟩ := t p hp
  refine ⟨ps, by rw [upd_ne (fun e => h1 ps (by rw [← e]; exact a1))]; exact a1, a2, fun pos cv hc => ?_⟩
  obtain ⟨c, e1, e2⟩ := a3 pos cv hc
  exact ⟨c, e1, by rw [upd_ne (fun e => h2 p.2 (by rw [← e]; exact e2))]; exact e2⟩
theorem Keep.refl (z : List Addr) (H : Hp) : Keep z H H := fun _ _ e _ => e
section
variable {K : PySem.W.Frag} {z z' m m' : List Addr} {H H' : Hp}
theorem Keep.fz (k : Keep z H H') {a : Addr} {vs : List V} (h : FzL K H a vs) : FzL K H' a vs := by
  rcases h with ⟨o, h⟩ | h
  · exact .inl ⟨o, k _ _ h (.inr trivial)⟩
  · exact .inr h
theorem Keep.sqT (k : Keep z H H') {a : Addr} {vs : List V} (h : SqT K H a vs) : SqT K H' a vs := by
  rcases h with (h | ⟨o, h⟩) | h
  · exact .inl (.inl (k _ _ h (.inr trivial)))
  · exact .inl (.inr ⟨o, k _ _ h (.inr trivial)⟩)
  · exact .inr h
theorem RKs.keep (k : Keep z H H') {ks : List Da} {xs : List (List Key × Addr × V)} (h : RKs K H ks xs) : RKs K H' ks xs := ⟨h.1, fun x hx => k.sqT (h.2 x hx)⟩
mutual
theorem RP.mono (k : Keep z H H') (hz : ∀ a, a ∈ z' → a ∉ z → NewA H a) : ∀ (p : Da) (v : V), RP K z H p v → RP K z' H' p v
  | .non, _, h => by cases h; exact .non
  | .bl b, _, h => by cases h; exact .bl b
  | .int i, _, h => by cases h; exact .int i
  | .str x, _, h => by cases h; exact .str x
  | .tup l, _, h => by
    cases h with
    | tup h1 h2 => exact .tup (k.sqT h1) (RPs.mono k hz l _ h2)
  | .lst l, _, h => by
    cases h with
    | lst h1 h2 h3 => exact .lst (k _ _ h1 (.inl ⟨h2, trivial⟩)) (fun q => hz _ q h2 _ h1 trivial) (RPs.mono k hz l _ h3)
  | .flst l, _, h => by
    cases h with
    | flst h1 h2 => exact .flst (k.fz h1) (RPs.mono k hz l _ h2)
  | .dck ks vs, _, h => by
    cases h with
    | dK h1 h3 h4 => exact .dK (k _ _ h1 (.inr trivial)) h3 (RPs.mono k hz vs _ h4)
  | .dct ks vs, _, h => by
    cases h with
    | dR h1 h3 h4 => exact .dR (k _ _ h1 (.inr trivial)) (h3.keep k) (RPs.mono k hz vs _ h4)
  | .ref a, _, h => by cases h; exact .ref a
  | .ty n, _, h => by cases h; exact .ty n
theorem RPs.mono (k : Keep z H H') (hz : ∀ a, a ∈ z' → a ∉ z → NewA H a) : ∀ (ps : List Da) (vs : List V), RPs K z H ps vs → RPs K z' H' ps vs
  | [], _, h => by cases h; exact .nil
  | p :: ps, _, h => by
    cases h with
    | cons h1 h2 => exact .cons (RP.mono k hz p _ h1) (RPs.mono k hz ps _ h2)
end
theorem RPs.len : ∀ {ps : List Da} {vs : List V}, RPs K z H ps vs → ps.length = vs.length
  | _, _, .nil => rfl
  | _, _, .cons _ h => by rw [List.length_cons, List.length_cons, RPs.len h]
theorem RPs.get : ∀ {ps : List Da} {vs : List V} {i : Nat} {p : Da}, RPs K z H ps vs → ps[i]? = some p → ∃ v, vs[i]? = some v ∧ RP K z H p v
  | _, _, _, _, .nil, e => by simp at e
  | _, _, 0, _, .cons r _, e => by simp at e; subst e; exact ⟨_, rfl, r⟩
  | _, _, i + 1, _, .cons _ t, e => by
    obtain ⟨u, h1, h2⟩ := RPs.get (i := i) t (by simpa using e)
    exact ⟨u, by simpa using h1, h2⟩
theorem RPs.getV : ∀ {ps : List Da} {vs : List V} {i : Nat} {v : V}, RPs K z H ps vs → vs[i]? = some v → ∃ p, ps[i]? = some p ∧ RP K z H p v
  | _, _, _, _, .nil, e => by simp at e
  | _, _, 0, _, .cons r _, e => by simp at e; subst e; exact ⟨_, rfl, r⟩
  | _, _, i + 1, _, .cons _ t, e => by
    obtain ⟨u, h1, h2⟩ := RPs.getV (i := i) t (by simpa using e)
    exact ⟨u, by simpa using h1, h2⟩
theorem RPs.append : ∀ {ps qs : List Da} {vs ws : List V}, RPs K z H ps vs → RPs K z H qs ws → RPs K z H (ps ++ qs) (vs ++ ws)
  | _, _, _, _, .nil, s => s
  | _, _, _, _, .cons r t, s => .cons r (RPs.append t s)
theorem RPs.take : ∀ {ps : List Da} {vs : List V} (n : Nat), RPs K z H ps vs → RPs K z H (ps.take n) (vs.take n)
  | _, _, 0, _ => .nil
  | _, _, _ + 1, .nil => .nil
  | _, _, n + 1, .cons r t => .cons r (RPs.take n t)
theorem RPs.drop : ∀ {ps : List Da} {vs : List V} (n : Nat), RPs K z H ps vs → RPs K z H (ps.drop n) (vs.drop n)
  | _, _, 0, r => r
  | _, _, _ + 1, .nil => .nil
  | _, _, n + 1, .cons _ t => RPs.drop n t
theorem RPs.reverse : ∀ {ps : List Da} {vs : List V}, RPs K z H ps vs → RPs K z H ps.reverse vs.reverse
  | _, _, .nil => .nil
  | _, _, .cons r t => by
    rw [List.reverse_cons, List.reverse_cons]
    exact RPs.append (RPs.reverse t) (.cons r .nil)
theorem RPs.set {p : Da} {v : V} (r : RP K z H p v) : ∀ {ps : List Da} {vs : List V} (i : Nat), RPs K z H ps vs → RPs K z H (ps.set i p) (vs.set i v)
  | _, _, _, .nil => .nil
  | _, _, 0, .cons _ t => .cons r t
  | _, _, i + 1, .cons q t => .cons q (RPs.set r i t)
theorem RPs.ints : ∀ {ns : List Int} {vs : List V}, RPs K z H (ns.map Da.int) vs → vs = ns.map V.int
  | [], _, h => by cases h; rfl
  | n :: ns, _, h => by
    cases h with
    | cons h1 h2 =>
      cases h1
      rw [RPs.ints h2] <;> rfl
theorem RPs.of_ints : ∀ (ns : List Int), RPs K z H (ns.map Da.int) (ns.map V.int)
  | [] => .nil
  | n :: ns => .cons (.int n) (RPs.of_ints ns)
inductive Cell where
  | lst (l : List Da) | dct (ks vs : List Da) | dck (ks vs : List Da) | ins (C : Addr) (fs : List (Str × D)) | gone
def RD (K : PySem.W.Frag) (z m : List Addr) (H : Hp) : D → V → Prop
  | .v p, v => RP K z H p v
  | .o n, v => ∃ a, m[n]? = some a ∧ v = .ref a
inductive RDs (K : PySem.W.Frag) (z m : List Addr) (H : Hp) : List D → List V → Prop
  | nil : RDs K z m H [] []
  | cons {d : D} {ds : List D} {v : V} {vs : List V} : RD K z m H d v → RDs K z m H ds vs → RDs K z m H (d :: ds) (v :: vs)
inductive RFs (K : PySem.W.Frag) (z m : List Addr) (H : Hp) : List (Str × D) → List (Str × V) → Prop
  | nil : RFs K z m H [] []
  | cons {f : Str} {d : D} {ds : List (Str × D)} {v : V} {vs : List (Str × V)} : RD K z m H d v → RFs K z m H ds vs → RFs K z m H ((f, d) :: ds) ((f, v) :: vs)
inductive RC (K : PySem.W.Frag) (z m : List Addr) (H : Hp) (a : Addr) : Cell → Prop
  | lst {l : List Da} {vs : List V} : H a = some (.lst vs) → RPs K z H l vs → RC K z m H a (.lst l)
  | dK {ks vs : List Da} {kvs : List (Key × V)} : H a = some (.dK kvs) → ks = kvs.map (fun kv => kDa kv.1) → RPs K z H vs (kvs.map (·.2)) → RC K z m H a (.dck ks vs)
  | dR {ks vs : List Da} {xs : List (List Key × Addr × V)} : H a = some (dRaw TabsOf.P TabsOf.w a xs) → RKs K H ks xs → RPs K z H vs (xs.map (·.2.2)) → RC K z m H a (.dct ks vs)
  | ins {C dx : Addr} {fs : List (Str × D)} {vfs : List (Str × V)} : H a = some (.ins C dx vfs) → RFs K z m H fs vfs → RC K z m H a (.ins C fs)
  | gone : RC K z m H a .gone
structure RelS (K : PySem.W.Frag) (z m : List Addr) (S : List Cell) (H : Hp) : Prop where
  len : m.length = S.length
  nd : m.Nodup
  sub : ∀ a, a ∈ m → a ∈ z
  live : ∀ a, a ∈ z → ¬ NewA H a
  cell : ∀ (i : Nat) (a : Addr) (c : Cell), m[i]? = some a → S[i]? = some c → RC K z m H a c
  tabs : LamX.Tabs TabsOf.T H
theorem RelS.liveN {S : List Cell} (R : RelS K z m S H) : ∀ a, a ∈ z → H a ≠ none := fun a h e => R.live a h (.of e)
theorem ntb_of {p : Prop} {u : HO} (h : (p ∧ NTb u) ∨ Im u) : NTb u := by
  rcases h with h | h
  · exact h.2
  · cases u <;> first | trivial | exact h.elim
/-- the slots -/
inductive RelE (K : PySem.W.Frag) (z m : List Addr) (H : Hp) : List (Option D) → L2.St → Prop
  | nil : RelE K z m H [] []
  | non {r : List (Option D)} {x : Option V} {s : L2.St} : RelE K z m H r s → RelE K z m H (none :: r) (x :: s)
  | cons {d : D} {r : List (Option D)} {v : V} {s : L2.St} : RD K z m H d v → RelE K z m H r s → RelE K z m H (some d :: r) (some v :: s)
/-- a later state -/
structure Ext (z m : List Addr) (H : Hp) (z' m' : List Addr) (H' : Hp) : Prop where
  ze : ∃ t, z' = z ++ t ∧ ∀ a, a ∈ t → NewA H a
  me : ∃ t, m' = m ++ t ∧ ∀ a, a ∈ t → NewA H a
  keep : Keep m H H'
  live : ∀ a, NewA H' a → NewA H a
theorem Ext.refl : Ext z m H z m H := ⟨⟨[], by simp, by simp⟩, ⟨[], by simp, by simp⟩, .refl _ _, fun _ h => h⟩
theorem Ext.newz (e : Ext z m H z' m' H') : ∀ a, a ∈ z' → a ∉ z → NewA H a := by
  obtain ⟨t, rfl, h⟩ := e.ze
  intro a ha hn
  rcases List.mem_append.mp ha with q | q
  · exact absurd q hn
  · exact h a q
theorem Ext.trans {z2 m2 : List Addr} {H2 : Hp} (e : Ext z m H z' m' H') (f : Ext z' m' H' z2 m2 H2) : Ext z m H z2 m2 H2 := by
  obtain ⟨t1, e1, n1⟩ := e.ze
  obtain ⟨t2, e2, n2⟩ := f.ze
  obtain ⟨u1, f1, o1⟩ := e.me
  obtain ⟨u2, f2, o2⟩ := f.me
  have back := e.live
  refine ⟨⟨t1 ++ t2, by rw [e2, e1, List.append_assoc], fun a ha => ?_⟩, ⟨u1 ++ u2, by rw [f2, f1, List.append_assoc], fun a ha => ?_⟩, fun a o ho hn => ?_, fun a h => e.live a (f.live a h)⟩
  · rcases List.mem_append.mp ha with q | q
    · exact n1 a q
    · exact back a (n2 a q)
  · rcases List.mem_append.mp ha with q | q
    · exact o1 a q
    · exact back a (o2 a q)
  · refine f.keep a o (e.keep a o ho hn) ?_
    rcases hn with hn | hn
    · refine .inl ⟨fun q => ?_, hn.2⟩
      rw [f1] at q
      rcases List.mem_append.mp q with q | q
      · exact hn.1 q
      · exact o1 a q o ho hn.2
    · exact .inr hn
theorem RelS.keepz {S : List Cell} (R : RelS K z m S H) (e : Ext z m H z' m' H') : Keep z H H' := fun a o ho hn => e.keep a o ho (by
  rcases hn with hn | hn
  · exact .inl ⟨fun q => hn.1 (R.sub a q), hn.2⟩
  · exact .inr hn)
theorem RP.ext {S : List Cell} {p : Da} {v : V} (R : RelS K z m S H) (e : Ext z m H z' m' H') (h : RP K z H p v) : RP K z' H' p v := RP.mono (R.keepz e) e.newz p v h
theorem RPs.ext {S : List Cell} {p : List Da} {v : List V} (R : RelS K z m S H) (e : Ext z m H z' m' H') (h : RPs K z H p v) : RPs K z' H' p v := RPs.mono (R.keepz e) e.newz p v h
theorem getP {m t : List Addr} {i : Nat} {a : Addr} (h : m[i]? = some a) : (m ++ t)[i]? = some a := by
  rw [List.getElem?_append_left (by have := (List.getElem?_eq_some_iff.mp h).1; exact this)]; exact h
theorem RD.ext {S : List Cell} {d : D} {v : V} (R : RelS K z m S H) (e : Ext z m H z' m' H') (h : RD K z m H d v) : RD K z' m' H' d v := by
  cases d with
  | v p => exact RP.ext R e h
  | o n =>
    obtain ⟨a, h1, h2⟩ := h
    obtain ⟨t, rfl, _⟩ := e.me
    exact ⟨a, getP h1, h2⟩
theorem RDs.ext {S : List Cell} (R : RelS K z m S H) (e : Ext z m H z' m' H') : ∀ {ds : List D} {vs : List V}, RDs K z m H ds vs → RDs K z' m' H' ds vs
  | _, _, .nil => .nil
  | _, _, .cons h t => .cons (h.ext R e) (RDs.ext R e t)
theorem RFs.ext {S : List Cell} (R : RelS K z m S H) (e : Ext z m H z' m' H') : ∀ {ds : List (Str × D)} {vs : List (Str × V)}, RFs K z m H ds vs → RFs K z' m' H' ds vs
  | _, _, .nil => .nil
  | _, _, .cons h t => .cons (h.ext R e) (RFs.ext R e t)
theorem RelE.ext {S : List Cell} (R : RelS K z m S H) (e : Ext z m H z' m' H') : ∀ {r : List (Option D)} {s : L2.St}, RelE K z m H r s → RelE K z' m' H' r s
  | _, _, .nil => .nil
  | _, _, .non t => .non (RelE.ext R e t)
  | _, _, .cons h t => .cons (h.ext R e) (RelE.ext R e t)
theorem RelE.get : ∀ {r : List (Option D)} {s : L2.St} {i : Nat} {d : D}, RelE K z m H r s → r[i]? = some (some d) → ∃ v, s[i]? = some (some v) ∧ RD K z m H d v
  | _, _, _, _, .nil, e => by simp at e
  | _, _, 0, _, .non _, e => by simp at e
  | _, _, 0, _, .cons h _, e => by simp at e; subst e; exact ⟨_, rfl, h⟩
  | _, _, i + 1, _, .non t, e => by
    obtain ⟨u, h1, h2⟩ := RelE.get (i := i) t (by simpa using e)
    exact ⟨u, by simpa using h1, h2⟩
  | _, _, i + 1, _, .cons _ t, e => by
    obtain ⟨u, h1, h2⟩ := RelE.get (i := i) t (by simpa using e)
    exact ⟨u, by simpa using h1, h2⟩
theorem RelE.set {d : D} {v : V} (h : RD K z m H d v) : ∀ {r : List (Option D)} {s : L2.St} (i : Nat), RelE K z m H r s → RelE K z m H (r.set i (some d)) (s.set i (some v))
  | _, _, _, .nil => .nil
  | _, _, 0, .non t => .cons h t
  | _, _, 0, .cons _ t => .cons h t
  | _, _, i + 1, .non t => .non (RelE.set h i t)
  | _, _, i + 1, .cons q t => .cons q (RelE.set h i t)
theorem RelE.setNone {x : Option V} : ∀ {r : List (Option D)} {s : L2.St} (i : Nat), RelE K z m H r s → RelE K z m H (r.set i none) (s.set i x)
  | _, _, _, .nil => .nil
  | _, _, 0, .non t => .non t
  | _, _, 0, .cons _ t => .non t
  | _, _, i + 1, .non t => .non (RelE.setNone i t)
  | _, _, i + 1, .cons q t => .cons q (RelE.setNone i t)
inductive ER (α : Type) where
  | ok (a : α) (S : List Cell) | err (C : Str) (fs : List (Str × D)) (S : List Cell) | bad
/-- what is raised: of a class without fields, or with a dict of them -/
def EOk (K : PySem.W.Frag) (z m : List Addr) (H : Hp) (C : Str) (fs : List (Str × D)) (P : Value → Option Addr → Prop) : Prop := match fs with
  | [] => P (.ref (TabsOf.cls C)) none
  | f :: r => ∀ d vfs, H d = some (.xd vfs) → RFs K z m H (f :: r) vfs → P (.ref (TabsOf.cls C)) (some d)
theorem EOk.mono {z z' m m' : List Addr} {H : Hp} {C : Str} {fs : List (Str × D)} {P P' : Value → Option Addr → Prop} (i : ∀ vfs, RFs K z' m' H fs vfs → RFs K z m H fs vfs) (j : ∀ c d, P c d → P' c d) (h : EOk K z m H C fs P) : EOk K z' m' H C fs P' := by
  cases fs with
  | nil => exact j _ _ h
  | cons f r => exact fun d vfs h1 h2 => j _ _ (h d vfs h1 (i vfs h2))
abbrev Rho := List (Option D)
abbrev EM (α : Type) := Rho → List Cell → ER α
def ER.bind {α β : Type} (r : ER α) (k : α → List Cell → ER β) : ER β := match r with
  | .ok a S => k a S
  | .err C fs S => .err C fs S
  | .bad => .bad
def PostE {α β : Type} (K : PySem.W.Frag) (W : WX) (R : List Addr → List Addr → Hp → α → β → Prop) (z m : List Addr) (H : Hp) (σ : L2.St) (r : ER α) (Q : β → Hp → Prop) : Prop := match r with
  | .ok a S => ∀ z' m' H' b, Ext z m H z' m' H' → RelS K z' m' S H' → R z' m' H' a b → Q b H'
  | .err C fs S => ∀ z' m' H', Ext z m H z' m' H' → RelS K z' m' S H' → EOk K z' m' H' C fs fun c d => W c d σ H'
  | .bad => False
theorem PostE.ext {α β : Type} {W : WX} {R : List Addr → List Addr → Hp → α → β → Prop} {σ : L2.St} {r : ER α} {Q : β → Hp → Prop} (h : PostE K W R z m H σ r Q) (e : Ext z m H z' m' H') : PostE K W R z' m' H' σ r Q := by
  cases r with
  | ok a S => exact fun z2 m2 H2 b f => h z2 m2 H2 b (e.trans f)
  | err C fs S => exact fun z2 m2 H2 f => h z2 m2 H2 (e.trans f)
  | bad => exact h
/-- the reading of what f computes -/
def tG {α β : Type} (K : PySem.W.Frag) (W : WX) (R : List Addr → List Addr → Hp → α → β → Prop) (f : EM α) : L2.St → Hp → (β → Hp → Prop) → Prop :=
  fun σ H Q => ∃ z m S ρ, RelS K z m S H ∧ RelE K z m H ρ σ ∧ PostE K W R z m H σ (f ρ S) Q
theorem tG_intro {α β γ δ : Type} {W : WX} {R : List Addr → List Addr → Hp → α → β → Prop} {R' : List Addr → List Addr → Hp → γ → δ → Prop} {f : EM α} {k : α → List Cell → ER γ} {ρ : Rho} {S : List Cell} {σ : L2.St} {Q : δ → Hp → Prop} {Q' : β → Hp → Prop}
    (hS : RelS K z m S H) (hE : RelE K z m H ρ σ) (h : PostE K W R' z m H σ ((f ρ S).bind k) Q)
    (hq : ∀ a S1 z1 m1 H1 b, f ρ S = .ok a S1 → Ext z m H z1 m1 H1 → RelS K z1 m1 S1 H1 → RelE K z1 m1 H1 ρ σ → R z1 m1 H1 a b → PostE K W R' z1 m1 H1 σ (k a S1) Q → Q' b H1) : tG K W R f σ H Q' := by
  refine ⟨z, m, S, ρ, hS, hE, ?_⟩
  cases e : f ρ S with
  | ok a S1 =>
    rw [e] at h
    exact fun z1 m1 H1 b x s r => hq a S1 z1 m1 H1 b e x s (hE.ext hS x) r (h.ext x)
  | err C fs S1 =>
    rw [e] at h
    exact h
  | bad =>
    rw [e] at h
    exact h
abbrev tE (K : PySem.W.Frag) (W : WX) (f : EM D) : TE := tG K W (fun z m H => RD K z m H) f
abbrev tT (K : PySem.W.Frag) (W : WX) (f : EM Bool) : TT := tG K W (fun _ _ _ a b => a = b) f
abbrev tA (K : PySem.W.Frag) (W : WX) (f : EM (List D)) : TA := tG K W (fun z m H => RDs K z m H) f
end
def JE (X : Cx) (W : WX) (e : Expr) (f : EM D) : Prop := PE X e (tE X.K W f)
def JT (X : Cx) (W : WX) (e : Expr) (f : EM Bool) : Prop := PT X e (tT X.K W f)
def JW (X : Cx) (W : WX) (e : Expr) (f : EM Bool) : Prop := PW X e (tT X.K W f)
def JA (X : Cx) (W : WX) (es : List Expr) (f : EM (List D)) : Prop := PA X es (tA X.K W f)
theorem pe_imp {X : Cx} {e : Expr} {t t' : TE} (h : PE X e t) (i : ∀ σ H Q, t' σ H Q → t σ H Q) : PE X e t' := ⟨fun pins s σ H Q I q => h.run pins s σ H Q I (i σ H Q q)⟩
theorem pt_imp {X : Cx} {e : Expr} {t t' : TT} (h : PT X e t) (i : ∀ σ H Q, t' σ H Q → t σ H Q) : PT X e t' := ⟨fun pins s σ H Q I q => h.run pins s σ H Q I (i σ H Q q)⟩
theorem pw_imp {X : Cx} {e : Expr} {t t' : TT} (h : PW X e t) (i : ∀ σ H Q, t' σ H Q → t σ H Q) : PW X e t' := ⟨fun wh pins s σ H Q I q => h.run wh pins s σ H Q I (i σ H Q q)⟩
theorem pa_imp {X : Cx} {e : List Expr} {t t' : TA} (h : PA X e t) (i : ∀ σ H Q, t' σ H Q → t σ H Q) : PA X e t' := ⟨fun pos pins s σ H Q I q => h.run pos pins s σ H Q I (i σ H Q q)⟩
theorem ps_imp {X : Cx} {e : Stmt} {t t' : TS} (h : PS X e t) (i : ∀ D σ H, t' D σ H → t D σ H) : PS X e t' := ⟨fun pins s σ H D I q => h.run pins s σ H D I (i D σ H q)⟩
theorem pss_imp {X : Cx} {e : List Stmt} {t t' : TS} (h : PSs X e t) (i : ∀ D σ H, t' D σ H → t D σ H) : PSs X e t' := ⟨fun pins s σ H D I q => h.run pins s σ H D I (i D σ H q)⟩
end FL
end
section
namespace FL
open PySem PySem.Spec PyProof.Rows L2
variable [TabsOf]
def view (S : List Cell) : D → Option Da
  | .v p => some p
  | .o n => match S[n]? with
    | some (.lst l) => some (.lst l)
    | some (.dct ks vs) => some (.dct ks vs)
    | some (.dck ks vs) => some (.dck ks vs)
    | _ => none
/-- as RP, the outermost object may be one that changes -/
inductive RPv (K : PySem.W.Frag) (z : List Addr) (H : Hp) : Da → V → Prop
  | pl {p : Da} {v : V} : RP K z H p v → RPv K z H p v
  | lst {l : List Da} {a : Addr} {vs : List V} : H a = some (.lst vs) → RPs K z H l vs → RPv K z H (.lst l) (.ref a)
  | dK {ks vs : List Da} {a : Addr} {kvs : List (Key × V)} : Rd H a (.dK kvs) → ks = kvs.map (fun kv => kDa kv.1) → RPs K z H vs (kvs.map (·.2)) → RPv K z H (.dck ks vs) (.ref a)
  | dR {ks vs : List Da} {a : Addr} {xs : List (List Key × Addr × V)} : Rd H a (dRaw TabsOf.P TabsOf.w a xs) → RKs K H ks xs → RPs K z H vs (xs.map (·.2.2)) → RPv K z H (.dct ks vs) (.ref a)
inductive RPvs (K : PySem.W.Frag) (z : List Addr) (H : Hp) : List Da → List V → Prop
  | nil : RPvs K z H [] []
  | cons {p : Da} {ps : List Da} {v : V} {vs : List V} : RPv K z H p v → RPvs K z H ps vs → RPvs K z H (p :: ps) (v :: vs)
section
variable {K : PySem.W.Frag} {z z' m m' : List Addr} {H H' : Hp} {S : List Cell} {x : V}
theorem RPv.non (h : RPv K z H .non x) : x = .non := by cases h with | pl h => cases h; rfl
theorem RPv.bl {b : Bool} (h : RPv K z H (.bl b) x) : x = .bl b := by cases h with | pl h => cases h; rfl
theorem RPv.int {i : Int} (h : RPv K z H (.int i) x) : x = .int i := by cases h with | pl h => cases h; rfl
theorem RPv.str {i : Str} (h : RPv K z H (.str i) x) : x = .str i := by cases h with | pl h => cases h; rfl
theorem RPv.ty {i : String} (h : RPv K z H (.ty i) x) : x = .ty i := by cases h with | pl h => cases h; rfl
theorem RPv.tup {l : List Da} (h : RPv K z H (.tup l) x) : ∃ a vs, x = .ref a ∧ SqT K H a vs ∧ RPs K z H l vs := by cases h with | pl h => cases h with | tup h1 h2 => exact ⟨_, _, rfl, h1, h2⟩
theorem RPv.flst {l : List Da} (h : RPv K z H (.flst l) x) : ∃ a vs, x = .ref a ∧ FzL K H a vs ∧ RPs K z H l vs := by cases h with | pl h => cases h with | flst h1 h2 => exact ⟨_, _, rfl, h1, h2⟩
theorem RPv.list {l : List Da} (h : RPv K z H (.lst l) x) : ∃ a vs, x = .ref a ∧ H a = some (.lst vs) ∧ RPs K z H l vs := by
  cases h with
  | pl h => cases h with | lst h1 _ h2 => exact ⟨_, _, rfl, h1, h2⟩
  | lst h1 h2 => exact ⟨_, _, rfl, h1, h2⟩
theorem view_rel (R : RelS K z m S H) {d : D} {p : Da} (h : RD K z m H d x) (e : view S d = some p) : RPv K z H p x := by
  cases d with
  | v q => cases e; exact .pl h
  | o n =>
    obtain ⟨a, h1, rfl⟩ := h
    cases c : S[n]? with
    | none => simp only [view, c] at e; cases e
    | some c' =>
      simp only [view, c] at e
      have r := R.cell n a c' h1 c
      cases c' with
      | lst l => cases e; cases r with | lst r1 r2 => exact .lst r1 r2
      | dck ks vs =>
        cases e
        cases r with
        | dK r1 r2 r3 => exact .dK (.inl r1) r2 r3
      | dct ks vs =>
        cases e
        cases r with
        | dR r1 r2 r3 => exact .dR (.inl r1) r2 r3
      | ins C fs => cases e
      | gone => cases e
def viewAll (S : List Cell) : List D → Option (List Da)
  | [] => some []
  | d :: ds => match view S d, viewAll S ds with
    | some p, some ps => some (p :: ps)
    | _, _ => none
theorem viewAll_rel (R : RelS K z m S H) : ∀ {ds : List D} {ps : List Da} {xs : List V}, RDs K z m H ds xs → viewAll S ds = some ps → RPvs K z H ps xs
  | _, _, _, .nil, e => by cases e; exact .nil
  | d :: ds, ps, _, .cons h t, e => by
    unfold viewAll at e
    cases e1 : view S d with
    | none => rw [e1] at e; simp at e
    | some p =>
      cases e2 : viewAll S ds with
      | none => rw [e1, e2] at e; simp at e
      | some qs =>
        rw [e1, e2] at e
        cases e
        exact .cons (view_rel R h e1) (viewAll_rel R t e2)
theorem RPvs.one {p : Da} {xs : List V} (h : RPvs K z H [p] xs) : ∃ x, xs = [x] ∧ RPv K z H p x := by
  cases h with | cons h1 h2 => cases h2; exact ⟨_, rfl, h1⟩
theorem RPvs.two {p q : Da} {xs : List V} (h : RPvs K z H [p, q] xs) : ∃ x y, xs = [x, y] ∧ RPv K z H p x ∧ RPv K z H q y := by
  cases h with | cons h1 h2 => cases h2 with | cons h3 h4 => cases h4; exact ⟨_, _, rfl, h1, h3⟩
theorem Same.keep (s : Same H H') : Keep z H H' := fun a o e _ => s a o e
theorem Same.live (s : Same H H') : ∀ a, H a ≠ none → H' a ≠ none := fun a h => by
  cases e : H a with
  | none => exact absurd e h
  | some o => rw [s a o e]; simp
theorem Same.back (s : Same H H') : ∀ a, NewA H' a → NewA H a := fun a h o e k => h o (s _ _ e) k
theorem Same.ext (s : Same H H') : Ext z m H z m H' := ⟨⟨[], by simp, by simp⟩, ⟨[], by simp, by simp⟩, Same.keep s, Same.back s⟩
theorem same_upd {a : Addr} {o : HO} (h : H a = none) : Same H (upd H a o) := fun b u e => by rw [upd_ne (ne_of_none e h)]; exact e
theorem RP.same (s : Same H H') {p : Da} (h : RP K z H p x) : RP K z H' p x := RP.mono (Same.keep s) (fun a h1 h2 => absurd h1 h2) p x h
theorem RPs.same (s : Same H H') {ps : List Da} {xs : List V} (h : RPs K z H ps xs) : RPs K z H' ps xs := RPs.mono (Same.keep s) (fun a h1 h2 => absurd h1 h2) ps xs h
theorem RD.same (s : Same H H') {d : D} (h : RD K z m H d x) : RD K z m H' d x := by
  cases d with
  | v p => exact RP.same s h
  | o n => exact h
theorem RFs.same (s : Same H H') : ∀ {ds : List (Str × D)} {vs : List (Str × V)}, RFs K z m H ds vs → RFs K z m H' ds vs
  | _, _, .nil => .nil
  | _, _, .cons h t => .cons (h.same s) (RFs.same s t)
theorem RC.same (s : Same H H') {a : Addr} {c : Cell} (h : RC K z m H a c) : RC K z m H' a c := by
  cases h with
  | lst h1 h2 => exact .lst (s _ _ h1) (h2.same s)
  | dK h1 h2 h3 => exact .dK (s _ _ h1) h2 (h3.same s)
  | dR h1 h2 h3 => exact .dR (s _ _ h1) (h2.keep (z := z) (Same.keep s)) (h3.same s)
  | ins h1 h2 => exact .ins (s _ _ h1) (h2.same s)
  | gone => exact .gone
theorem RelS.same (R : RelS K z m S H) (s : Same H H') : RelS K z m S H' :=
  ⟨R.len, R.nd, R.sub, fun a h n => R.live a h (Same.back s a n), fun i a c h1 h2 => (R.cell i a c h1 h2).same s, R.tabs.ext s⟩
theorem RelS.fresh (R : RelS K z m S H) {a : Addr} (h : H a = none) : a ∉ z := fun q => R.live a q (.of h)
/-- the end of a pure step -/
theorem PostE.pure {W : WX} {σ : L2.St} {p : Da} {Q : VK} (R : RelS K z m S H) (h : PostE K W (fun z m H => RD K z m H) z m H σ (.ok (.v p) S) Q) (s : Same H H') {v : V} (r : RP K z H' p v) : Q v H' :=
  h z m H' v (Same.ext s) (R.same s) r
def Prim2 (K : PySem.W.Frag) (opf : Da → Da → Option Da) (r : R2) : Prop :=
  ∀ (p q r' : Da) (z : List Addr) (H : Hp) (x y : V) (Q : VK), opf p q = some r' → RPv K z H p x → RPv K z H q y → (∀ a, a ∈ z → H a ≠ none) → (∀ H' v, Same H H' → RP K z H' r' v → Q v H') → r x y H Q
def PrimB (K : PySem.W.Frag) (opf : Da → Da → Option Bool) (r : R2) : Prop :=
  ∀ (p q : Da) (b : Bool) (z : List Addr) (H : Hp) (x y : V) (Q : VK), opf p q = some b → RPv K z H p x → RPv K z H q y → (∀ a, a ∈ z → H a ≠ none) → Q (.bl b) H → r x y H Q
def PrimC (K : PySem.W.Frag) (g : List Da → Option Da) (r : List V → Hp → VK → Prop) : Prop :=
  ∀ (ps : List Da) (r' : Da) (z : List Addr) (H : Hp) (xs : List V) (Q : VK), g ps = some r' → RPvs K z H ps xs → (∀ a, a ∈ z → H a ≠ none) → (∀ H' v, Same H H' → RP K z H' r' v → Q v H') → r xs H Q
theorem Prim2.orL {f g : Da → Da → Option Da} {r r' : R2} (h : Prim2 K f r) (h' : Prim2 K g r') : Prim2 K (fun p q => match f p q with | some x => some x | none => g p q) (fun x y H Q => r x y H Q ∨ r' x y H Q) := by
  intro p q r2 z H x y Q e a b c d
  cases e1 : f p q with
  | some w =>
    simp only [e1] at e
    cases e
    exact .inl (h p q _ z H x y Q e1 a b c d)
  | none =>
    simp only [e1] at e
    exact .inr (h' p q _ z H x y Q e a b c d)
theorem PrimC.orL {f g : List Da → Option Da} {r r' : List V → Hp → VK → Prop} (h : PrimC K f r) (h' : PrimC K g r') : PrimC K (fun p => match f p with | some x => some x | none => g p) (fun x H Q => r x H Q ∨ r' x H Q) := by
  intro p r2 z H x Q e a c d
  cases e1 : f p with
  | some w =>
    simp only [e1] at e
    cases e
    exact .inl (h p _ z H x Q e1 a c d)
  | none =>
    simp only [e1] at e
    exact .inr (h' p _ z H x Q e a c d)
end
def eVar (i : Nat) : EM D := fun ρ S => match ρ[i]? with
  | some (some d) => .ok d S
  | _ => .bad
def eC (p : Da) : EM D := fun _ S => .ok (.v p) S
section
variable {X : Cx} {W : WX} {a b c e : Expr} {es : List Expr} {pos : Pos}
theorem je_v (i : Nat) {x : Str} (hN : X.N[i]? = some x := by rfl) (hv : Vis X.env.scope x := by first | exact Or.inl rfl | exact Or.inr (Or.inl rfl) | exact Or.inr (Or.inr rfl)) (hd : (x == ("__debug__" : Str)) = false := by decide)
    (hcd : (x == ("__classdict__" : Str)) = false := by decide) : JE X W (.Name x pos) (eVar i) := by
  refine pe_imp (pe_var hN hv hd hcd) fun σ H Q h => ?_
  obtain ⟨z, m, S, ρ, hS, hE, h⟩ := h
  unfold eVar at h
  cases e : ρ[i]? with
  | none => rw [e] at h; exact h.elim
  | some o =>
    cases o with
    | none => rw [e] at h; exact h.elim
    | some d =>
      rw [e] at h
      obtain ⟨v, h1, h2⟩ := hE.get e
      exact ⟨v, h1, h z m H v .refl hS h2⟩
theorem je_c {p : Da} {v : V} (h : PE X e (tC v)) (r : ∀ z H, RP X.K z H p v) : JE X W e (eC p) :=
  pe_imp h fun σ H Q ⟨z, m, S, ρ, hS, hE, h⟩ => h z m H v .refl hS (r z H)
theorem je_int {i j} : JE X W (.Constant (.int i) j pos) (eC (.int i)) := je_c pe_int fun _ _ => .int i
theorem je_bl {i j} : JE X W (.Constant (.bool i) j pos) (eC (.bl i)) := je_c pe_bl fun _ _ => .bl i
theorem je_non {j} : JE X W (.Constant .none j pos) (eC .non) := je_c pe_non fun _ _ => .non
theorem je_str {x j} : JE X W (.Constant (.str x) j pos) (eC (.str x)) := je_c pe_str fun _ _ => .str x
/-- a module's int -/
theorem je_gint {x : Str} {i : Int} {t : Tok} (hm : X.mg x = some (.int i t)) (hg : Gl X x := by rfl) (hd : (x == ("__debug__" : Str)) = false := by decide) : JE X W (.Name x pos) (eC (.int i)) :=
  je_c (pe_glob (v := .int i) hg hm ⟨t, rfl⟩ hd) fun _ _ => .int i
/-- a builtin type's name -/
theorem je_ty {x : Str} {n : String} (hm : X.mg x = none) (hv : bootBuiltins x = some (.type n)) (hg : Gl X x := by rfl) (hn : x ≠ "__name__" := by decide) (hd : (x == ("__debug__" : Str)) = false := by decide) : JE X W (.Name x pos) (eC (.ty n)) :=
  je_c (pe_bltn (v := .ty n) hg hm hv rfl hn hd) fun _ _ => .ty n
def eOp2 (opf : Da → Da → Option Da) (f g : EM D) : EM D := fun ρ S => (f ρ S).bind fun d S1 => (g ρ S1).bind fun d' S2 => match view S2 d, view S2 d' with
  | some p, some q => match opf p q with
    | some r => .ok (.v r) S2
    | none => .bad
  | _, _ => .bad
def eOpB (opf : Da → Da → Option Bool) (f g : EM D) : EM Bool := fun ρ S => (f ρ S).bind fun d S1 => (g ρ S1).bind fun d' S2 => match view S2 d, view S2 d' with
  | some p, some q => match opf p q with
    | some r => .ok r S2
    | none => .bad
  | _, _ => .bad
def eBl (f : EM Bool) : EM D := fun ρ S => (f ρ S).bind fun b S1 => .ok (.v (.bl b)) S1
theorem tG_op2 {K : PySem.W.Frag} {opf : Da → Da → Option Da} {r : R2} {f g : EM D} (hp : Prim2 K opf r) {σ : L2.St} {H : Hp} {Q : VK} (h : tE K W (eOp2 opf f g) σ H Q) : tOp r (tE K W f) (tE K W g) σ H Q := by
  obtain ⟨z, m, S, ρ, hS, hE, h⟩ := h
  refine tG_intro hS hE h fun d1 S1 z1 m1 H1 v1 e1 x1 s1 E1 r1 h1 => ?_
  refine tG_intro s1 E1 h1 fun d2 S2 z2 m2 H2 v2 e2 x2 s2 E2 r2 h2 => ?_
  cases c1 : view S2 d1 with
  | none => rw [c1] at h2; exact h2.elim
  | some p =>
    cases c2 : view S2 d2 with
    | none => rw [c1, c2] at h2; exact h2.elim
    | some q =>
      rw [c1, c2] at h2
      cases c3 : opf p q with
      | none => simp only [c3] at h2; exact h2.elim
      | some r' =>
        simp only [c3] at h2
        exact hp p q r' z2 H2 v1 v2 Q c3 (view_rel s2 (r1.ext s1 x2) c1) (view_rel s2 r2 c2) s2.liveN fun H' v s r => h2.pure s2 s r
theorem tG_opB {K : PySem.W.Frag} {opf : Da → Da → Option Bool} {r : R2} {f g : EM D} (hp : PrimB K opf r) {σ : L2.St} {H : Hp} {Q : Bool → Hp → Prop} (h : tT K W (eOpB opf f g) σ H Q) : tTest (tOp r (tE K W f) (tE K W g)) σ H Q := by
  obtain ⟨z, m, S, ρ, hS, hE, h⟩ := h
  refine tG_intro hS hE h fun d1 S1 z1 m1 H1 v1 e1 x1 s1 E1 r1 h1 => ?_
  refine tG_intro s1 E1 h1 fun d2 S2 z2 m2 H2 v2 e2 x2 s2 E2 r2 h2 => ?_
  cases c1 : view S2 d1 with
  | none => rw [c1] at h2; exact h2.elim
  | some p =>
    cases c2 : view S2 d2 with
    | none => rw [c1, c2] at h2; exact h2.elim
    | some q =>
      rw [c1, c2] at h2
      cases c3 : opf p q with
      | none => simp only [c3] at h2; exact h2.elim
      | some b =>
        simp only [c3] at h2
        exact hp p q b z2 H2 v1 v2 _ c3 (view_rel s2 (r1.ext s1 x2) c1) (view_rel s2 r2 c2) s2.liveN ⟨b, rfl, h2 z2 m2 H2 b .refl s2 rfl⟩
theorem je_op {op : Operator} {opf : Da → Da → Option Da} {r : R2} {f g : EM D} (ho : OpR X (binaryOp op) r) (hp : Prim2 X.K opf r) (ha : JE X W a f) (hb : JE X W b g) : JE X W (.BinOp a op b pos) (eOp2 opf f g) :=
  pe_imp (pe_op ho ha hb) fun _ _ _ h => tG_op2 hp h
theorem jt_cmp {op : CmpOp} {opf : Da → Da → Option Bool} {r : R2} {f g : EM D} (ho : OpR X (compareOp op) r) (hp : PrimB X.K opf r) (ha : JE X W a f) (hb : JE X W b g) (hm : behindInMarks op b = false) : JT X W (.Compare a [op] [b] pos) (eOpB opf f g) :=
  pt_imp (pt_cmpR ho ha hb hm) fun _ _ _ h => tG_opB hp h
def bD (opf : Da → Da → Option Bool) : Da → Da → Option Da := fun p q => match opf p q with
  | some b => some (.bl b)
  | none => none
theorem PrimB.val {K : PySem.W.Frag} {opf : Da → Da → Option Bool} {r : R2} (h : PrimB K opf r) : Prim2 K (bD opf) r := by
  intro p q r' z H x y Q e a b l k
  unfold bD at e
  cases c : opf p q with
  | none => rw [c] at e; cases e
  | some w =>
    rw [c] at e
    cases e
    exact h p q w z H x y Q c a b l (k H _ (Same.refl H) (.bl w))
theorem je_cmp {op : CmpOp} {opf : Da → Da → Option Bool} {r : R2} {f g : EM D} (ho : OpR X (compareOp op) r) (hp : PrimB X.K opf r) (ha : JE X W a f) (hb : JE X W b g) (hm : behindInMarks op b = false) : JE X W (.Compare a [op] [b] pos) (eOp2 (bD opf) f g) :=
  pe_imp (pe_cmpR ho ha hb hm) fun _ _ _ h => tG_op2 hp.val h
end
end FL
end
section
namespace FL
open PySem PySem.Spec PyProof.Rows L2
variable [TabsOf]
def iOp (g : Int → Int → Int) : Da → Da → Option Da
  | .int i, .int j => some (.int (g i j))
  | _, _ => none
def iOpC (C : Int → Int → Bool) (g : Int → Int → Int) : Da → Da → Option Da
  | .int i, .int j => if C i j = true then some (.int (g i j)) else none
  | _, _ => none
def iCmp (g : Int → Int → Bool) : Da → Da → Option Bool
  | .int i, .int j => some (g i j)
  | _, _ => none
def mulOk (i j : Int) : Bool := decide ((Builtin.Int.intBits i : Int) + (Builtin.Int.intBits j : Int) ≤ 134217728)
def divOk (_ j : Int) : Bool := decide (0 < j) && decide (j.natAbs.log2 < 9000)
def modOk (_ j : Int) : Bool := decide (0 < j)
section
variable {K : PySem.W.Frag}
theorem prim_iOp (g : Int → Int → Int) : Prim2 K (iOp g) (rI0 fun i j => .int (g i j)) := by
  intro p q r' z H x y Q e a b l k
  unfold iOp at e
  split at e
  · cases e; exact ⟨_, _, a.int, b.int, k H _ (.refl H) (.int _)⟩
  · cases e
theorem prim_iOpC {C : Int → Int → Bool} {C' : Int → Int → Prop} (hC : ∀ i j, C i j = true → C' i j) (g : Int → Int → Int) : Prim2 K (iOpC C g) (rI C' fun i j => .int (g i j)) := by
  intro p q r' z H x y Q e a b l k
  unfold iOpC at e
  split at e
  · split at e
    · rename_i c
      cases e; exact ⟨_, _, a.int, b.int, hC _ _ c, k H _ (.refl H) (.int _)⟩
    · cases e
  · cases e
theorem prim_iCmp (g : Int → Int → Bool) : PrimB K (iCmp g) (rI0 fun i j => .bl (g i j)) := by
  intro p q r' z H x y Q e a b l k
  unfold iCmp at e
  split at e
  · cases e; exact ⟨_, _, a.int, b.int, k⟩
  · cases e
theorem mulOk_to (i j : Int) (h : mulOk i j = true) : CMulX i j := by
  unfold mulOk at h
  have := of_decide_eq_true h
  exact this
theorem divOk_to (i j : Int) (h : divOk i j = true) : CDivW i j := by
  unfold divOk at h
  rw [Bool.and_eq_true] at h
  exact ⟨of_decide_eq_true h.1, of_decide_eq_true h.2⟩
theorem modOk_to (i j : Int) (h : modOk i j = true) : 0 < j := of_decide_eq_true h
def catOk (n m : Nat) : Bool := decide (n + m ≤ 1000000)
theorem line_big : 1000000 ≤ sizeLine := by rw [sizeLine_eq]; decide
theorem le_line {n : Nat} (h : n ≤ 1000000) : n ≤ sizeLine := Nat.le_trans h line_big
def strAdd : Da → Da → Option Da
  | .str i, .str j => if catOk i.length j.length = true then some (.str (i ++ j)) else none
  | _, _ => none
def tupAdd : Da → Da → Option Da
  | .tup i, .tup j => if catOk i.length j.length = true then some (.tup (i ++ j)) else none
  | _, _ => none
def lstAdd : Da → Da → Option Da
  | .lst i, .lst j => if catOk i.length j.length = true then some (.lst (i ++ j)) else none
  | _, _ => none
theorem prim_strAdd : Prim2 K strAdd (fun x y H Q => ∃ i j, x = .str i ∧ y = .str j ∧ i.length + j.length ≤ sizeLine ∧ Q (.str (i ++ j)) H) := by
  intro p q r' z H x y Q e a b l k
  unfold strAdd at e
  split at e
  · split at e
    · rename_i c
      cases e; exact ⟨_, _, a.str, b.str, le_line (of_decide_eq_true c), k H _ (.refl H) (.str _)⟩
    · cases e
  · cases e
theorem prim_tupAdd : Prim2 K tupAdd (rCatA K) := by
  intro p q r' z H x y Q e a b l k
  unfold tupAdd at e
  split at e
  · split at e
    · rename_i xs ys c
      cases e
      obtain ⟨a1, v1, rfl, h1, r1⟩ := a.tup
      obtain ⟨a2, v2, rfl, h2, r2⟩ := b.tup
      refine ⟨a1, a2, v1, v2, rfl, rfl, h1, h2, by rw [← r1.len, ← r2.len]; exact le_line (of_decide_eq_true c), fun e1 => ?_, fun _ e2 => ?_, fun _ _ p hp => ?_⟩
      · subst e1
        cases r1
        exact k H _ (.refl H) (.tup h2 r2)
      · subst e2
        cases r2
        rw [List.append_nil] at k
        exact k H _ (.refl H) (.tup h1 r1)
      · exact k _ _ (same_upd hp) (.tup (SqT.of upd_same) ((r1.append r2).same (same_upd hp)))
    · cases e
  · cases e
theorem prim_lstAdd : Prim2 K lstAdd rCat := by
  intro p q r' z H x y Q e a b l k
  unfold lstAdd at e
  split at e
  · split at e
    · rename_i xs ys c
      cases e
      obtain ⟨a1, v1, rfl, h1, r1⟩ := a.list
      obtain ⟨a2, v2, rfl, h2, r2⟩ := b.list
      refine ⟨a1, a2, v1, v2, rfl, rfl, h1, h2, by rw [← r1.len, ← r2.len]; exact le_line (of_decide_eq_true c), fun p hp => ?_⟩
      exact k _ _ (same_upd hp) (.lst upd_same (fun q => l p q hp) ((r1.append r2).same (same_upd hp)))
    · cases e
  · cases e
def addP : Da → Da → Option Da := fun p q => match iOp (fun i j => i + j) p q with
  | some x => some x
  | none => (match strAdd p q with
    | some x => some x
    | none => (match tupAdd p q with
      | some x => some x
      | none => lstAdd p q))
def rAddAll (K : PySem.W.Frag) : R2 := fun x y H Q => rI0 (fun i j => .int (i + j)) x y H Q ∨ (∃ i j, x = .str i ∧ y = .str j ∧ i.length + j.length ≤ sizeLine ∧ Q (.str (i ++ j)) H) ∨ rCatA K x y H Q ∨ rCat x y H Q
theorem prim_add : Prim2 K addP (rAddAll K) := (prim_iOp _).orL (prim_strAdd.orL (prim_tupAdd.orL prim_lstAdd))
def ixP : Da → Da → Option Da
  | .lst l, .int i => atI l i
  | .flst l, .int i => atI l i
  | .tup l, .int i => atI l i
  | .str s, .int i => if s.length ≤ 1000000 then (match atI s.cps.toList i with
    | some c => some (.str ⟨#[c]⟩)
    | none => none) else none
  | _, _ => none
theorem atI_rel {z : List Addr} {H : Hp} {l : List Da} {vs : List V} {i : Int} {d : Da} (r : RPs K z H l vs) (e : atI l i = some d) : ∃ v, atI vs i = some v ∧ RP K z H d v := by
  unfold atI at e ⊢
  rw [← r.len]
  cases c : ixN l.length i with
  | none => rw [c] at e; cases e
  | some j =>
    rw [c] at e
    exact RPs.get r e
theorem prim_ix : Prim2 K ixP (rIx K) := by
  intro p q r' z H x y Q e a b l k
  unfold ixP at e
  split at e
  · obtain ⟨a1, v1, rfl, h1, r1⟩ := a.list
    obtain ⟨v, h2, r2⟩ := atI_rel r1 e
    exact .inl ⟨a1, v1, _, v, rfl, b.int, SqL.of h1, h2, k H v (.refl H) r2⟩
  · obtain ⟨a1, v1, rfl, h1, r1⟩ := a.flst
    obtain ⟨v, h2, r2⟩ := atI_rel r1 e
    exact .inl ⟨a1, v1, _, v, rfl, b.int, h1.sq, h2, k H v (.refl H) r2⟩
  · obtain ⟨a1, v1, rfl, h1, r1⟩ := a.tup
    obtain ⟨v, h2, r2⟩ := atI_rel r1 e
    exact .inr (.inl ⟨a1, v1, _, v, rfl, b.int, h1, h2, k H v (.refl H) r2⟩)
  · split at e
    · rename_i hl
      split at e
      · rename_i c hc
        cases e
        exact .inr (.inr ⟨_, _, c, a.str, b.int, le_line hl, hc, k H _ (.refl H) (.str _)⟩)
      · cases e
    · cases e
  · cases e
def truP : Da → Option Bool
  | .non => some false
  | .bl b => some b
  | .int i => some (i != 0)
  | .str s => if s.length ≤ 1000000 then some ((s.length : Int) != 0) else none
  | .lst l => some (!l.isEmpty)
  | .flst l => some (!l.isEmpty)
  | .tup l => some (!l.isEmpty)
  | _ => none
theorem RPs.isEmpty {z : List Addr} {H : Hp} {l : List Da} {vs : List V} (r : RPs K z H l vs) : vs.isEmpty = l.isEmpty := by
  cases r <;> rfl
theorem tru_rel {z : List Addr} {H : Hp} {p : Da} {x : V} {b : Bool} (e : truP p = some b) (a : RPv K z H p x) : TruV K x H b := by
  unfold truP at e
  split at e
  · cases e; rw [a.non] <;> rfl
  · cases e; rw [a.bl] <;> rfl
  · cases e; rw [a.int] <;> rfl
  · split at e
    · rename_i h; cases e; rw [a.str]; exact ⟨le_line h, rfl⟩
    · cases e
  · cases e
    obtain ⟨a1, v1, rfl, h1, r1⟩ := a.list
    exact .inl ⟨v1, SqL.of h1, by rw [r1.isEmpty]⟩
  · cases e
    obtain ⟨a1, v1, rfl, h1, r1⟩ := a.flst
    exact .inl ⟨v1, h1.sq, by rw [r1.isEmpty]⟩
  · cases e
    obtain ⟨a1, v1, rfl, h1, r1⟩ := a.tup
    exact .inr (.inl ⟨v1, h1, by rw [r1.isEmpty]⟩)
  · cases e
def lenP : List Da → Option Da
  | [.lst l] => some (.int l.length)
  | [.flst l] => some (.int l.length)
  | [.tup l] => some (.int l.length)
  | [.str s] => if s.length ≤ 1000000 then some (.int s.length) else none
  | _ => none
theorem prim_len : PrimC K lenP (fun xs H Q => ∃ x n, xs = [x] ∧ LenV K x H n ∧ Q (.int n) H) := by
  intro ps r' z H xs Q e a l k
  unfold lenP at e
  split at e
  · cases e
    obtain ⟨x, rfl, h⟩ := a.one
    obtain ⟨a1, v1, rfl, h1, r1⟩ := h.list
    refine ⟨_, _, rfl, .inl ⟨v1, SqL.of h1, rfl⟩, ?_⟩
    rw [← r1.len]
    exact k H _ (.refl H) (.int _)
  · cases e
    obtain ⟨x, rfl, h⟩ := a.one
    obtain ⟨a1, v1, rfl, h1, r1⟩ := h.flst
    refine ⟨_, _, rfl, .inl ⟨v1, h1.sq, rfl⟩, ?_⟩
    rw [← r1.len]
    exact k H _ (.refl H) (.int _)
  · cases e
    obtain ⟨x, rfl, h⟩ := a.one
    obtain ⟨a1, v1, rfl, h1, r1⟩ := h.tup
    refine ⟨_, _, rfl, .inr ⟨v1, h1, rfl⟩, ?_⟩
    rw [← r1.len]
    exact k H _ (.refl H) (.int _)
  · split at e
    · rename_i hl
      cases e
      obtain ⟨x, rfl, h⟩ := a.one
      cases h.str
      exact ⟨_, _, rfl, ⟨le_line hl, rfl⟩, k H _ (.refl H) (.int _)⟩
    · cases e
  · cases e
def absP : List Da → Option Da
  | [.int i] => some (.int (if i < 0 then -i else i))
  | _ => none
theorem prim_abs : PrimC K absP (fun xs H Q => ∃ i, xs = [.int i] ∧ Q (.int (if i < 0 then -i else i)) H) := by
  intro ps r' z H xs Q e a l k
  unfold absP at e
  split at e
  · cases e
    obtain ⟨x, rfl, h⟩ := a.one
    cases h.int
    exact ⟨_, rfl, k H _ (.refl H) (.int _)⟩
  · cases e
def i2P (g : Int → Int → Int) : List Da → Option Da
  | [.int i, .int j] => some (.int (g i j))
  | _ => none
theorem prim_i2 (g : Int → Int → Int) : PrimC K (i2P g) (fun xs H Q => ∃ i j, xs = [.int i, .int j] ∧ Q (.int (g i j)) H) := by
  intro ps r' z H xs Q e a l k
  unfold i2P at e
  split at e
  · cases e
    obtain ⟨x, y, rfl, h, h'⟩ := a.two
    cases h.int
    cases h'.int
    exact ⟨_, _, rfl, k H _ (.refl H) (.int _)⟩
  · cases e
def intP : List Da → Option Da
  | [.int i] => some (.int i)
  | [.bl b] => some (.int (if b then 1 else 0))
  | _ => none
theorem prim_int : PrimC K intP (fun xs H Q => (∃ i, xs = [.int i] ∧ Q (.int i) H) ∨ ∃ k, xs = [.bl k] ∧ Q (.int (if k then 1 else 0)) H) := by
  intro ps r' z H xs Q e a l k
  unfold intP at e
  split at e
  · cases e
    obtain ⟨x, rfl, h⟩ := a.one
    cases h.int
    exact .inl ⟨_, rfl, k H _ (.refl H) (.int _)⟩
  · cases e
    obtain ⟨x, rfl, h⟩ := a.one
    cases h.bl
    exact .inr ⟨_, rfl, k H _ (.refl H) (.int _)⟩
  · cases e
def divmodP : List Da → Option Da
  | [.int i, .int j] => if decide (0 < j) && decide (j < 1073741824) then some (.tup [.int (i / j), .int (i % j)]) else none
  | _ => none
theorem prim_divmod : PrimC K divmodP (fun xs H Q => ∃ i j, xs = [.int i, .int j] ∧ CDiv i j ∧ ∀ p, H p = none → Q (.ref p) (upd H p (.tup [.int (i / j), .int (i % j)]))) := by
  intro ps r' z H xs Q e a l k
  unfold divmodP at e
  split at e
  · split at e
    · rename_i i j c
      cases e
      rw [Bool.and_eq_true] at c
      obtain ⟨x, y, rfl, h, h'⟩ := a.two
      cases h.int
      cases h'.int
      exact ⟨_, _, rfl, ⟨of_decide_eq_true c.1, of_decide_eq_true c.2⟩, fun p hp => k _ _ (same_upd hp) (.tup (SqT.of upd_same) (.cons (.int _) (.cons (.int _) .nil)))⟩
    · cases e
  · cases e
/-- the ints of a list -/
def intsOf : List Da → Option (List Int)
  | [] => some []
  | .int i :: r => match intsOf r with
    | some l => some (i :: l)
    | none => none
  | _ => none
theorem intsOf_map (ns : List Int) : intsOf (ns.map Da.int) = some ns := by
  induction ns with
  | nil => rfl
  | cons n r ih => simp only [List.map_cons, intsOf, ih]
theorem intsOf_eq : ∀ {l : List Da} {ns : List Int}, intsOf l = some ns → l = ns.map Da.int
  | [], ns, e => by cases e; rfl
  | p :: r, ns, e => by
    unfold intsOf at e
    split at e
    · rename_i h; cases h
    · rename_i i r' h
      cases h
      split at e
      · rename_i l c
        cases e
        rw [intsOf_eq c, List.map_cons]
      · cases e
    · cases e
theorem RPs.toInts {z : List Addr} {H : Hp} {l : List Da} {vs : List V} {ns : List Int} (r : RPs K z H l vs) (e : intsOf l = some ns) : vs = ns.map V.int := by
  rw [intsOf_eq e] at r
  exact r.ints
def blsOf : List Da → Option (List Bool)
  | [] => some []
  | .bl i :: r => match blsOf r with
    | some l => some (i :: l)
    | none => none
  | _ => none
theorem blsOf_map (ns : List Bool) : blsOf (ns.map Da.bl) = some ns := by
  induction ns with
  | nil => rfl
  | cons n r ih => simp only [List.map_cons, blsOf, ih]
theorem RPs.toBls {z : List Addr} {H : Hp} : ∀ {l : List Da} {vs : List V} {ns : List Bool}, RPs K z H l vs → blsOf l = some ns → vs = ns.map V.bl
  | _, _, _, .nil, e => by cases e; rfl
  | p :: r, _, ns, .cons h t, e => by
    unfold blsOf at e
    split at e
    · rename_i h; cases h
    · rename_i i r' h'
      cases h'
      split at e
      · rename_i l c
        cases e
        cases h
        rw [RPs.toBls t c, List.map_cons]
      · cases e
    · cases e
def allP : List Da → Option Da
  | [.lst l] => match blsOf l with
    | some bs => some (.bl (bs.all id))
    | none => none
  | _ => none
def anyP : List Da → Option Da
  | [.lst l] => match blsOf l with
    | some bs => some (.bl (bs.any id))
    | none => none
  | _ => none
theorem prim_all : PrimC K allP (rAll K) := by
  intro ps r' z H xs Q e a l k
  unfold allP at e
  split at e
  · split at e
    · rename_i bs c
      cases e
      obtain ⟨x, rfl, h⟩ := a.one
      obtain ⟨a1, v1, rfl, h1, r1⟩ := h.list
      have := r1.toBls c
      subst this
      exact ⟨a1, bs, rfl, SqL.of h1, k H _ (.refl H) (.bl _)⟩
    · cases e
  · cases e
theorem prim_any : PrimC K anyP (rAny K) := by
  intro ps r' z H xs Q e a l k
  unfold anyP at e
  split at e
  · split at e
    · rename_i bs c
      cases e
      obtain ⟨x, rfl, h⟩ := a.one
      obtain ⟨a1, v1, rfl, h1, r1⟩ := h.list
      have := r1.toBls c
      subst this
      exact ⟨a1, bs, rfl, SqL.of h1, k H _ (.refl H) (.bl _)⟩
    · cases e
  · cases e
def sumP : List Da → Option Da
  | [.lst l] => match intsOf l with
    | some ns => some (.int ns.sum)
    | none => none
  | _ => none
theorem prim_sum : PrimC K sumP (rSum K) := by
  intro ps r' z H xs Q e a l k
  unfold sumP at e
  split at e
  · split at e
    · rename_i bs c
      cases e
      obtain ⟨x, rfl, h⟩ := a.one
      obtain ⟨a1, v1, rfl, h1, r1⟩ := h.list
      have := r1.toInts c
      subst this
      exact ⟨a1, bs, rfl, SqL.of h1, k H _ (.refl H) (.int _)⟩
    · cases e
  · cases e
def maxI : List Int → Int
  | [] => 0
  | n :: r => r.foldl (fun a b => if b > a then b else a) n
def tupleP : List Da → Option Da
  | [.lst l] => some (.tup l)
  | [.tup l] => some (.tup l)
  | _ => none
theorem prim_tuple : PrimC K tupleP (fun xs H Q => ∃ p ys, xs = [.ref p] ∧ ((SqL K H p ys ∧ ∀ l, H l = none → Q (.ref l) (upd H l (.tup ys))) ∨ (SqT K H p ys ∧ Q (.ref p) H))) := by
  intro ps r' z H xs Q e a l k
  unfold tupleP at e
  split at e
  · cases e
    obtain ⟨x, rfl, h⟩ := a.one
    obtain ⟨a1, v1, rfl, h1, r1⟩ := h.list
    exact ⟨a1, v1, rfl, .inl ⟨SqL.of h1, fun p hp => k _ _ (same_upd hp) (.tup (SqT.of upd_same) (r1.same (same_upd hp)))⟩⟩
  · cases e
    obtain ⟨x, rfl, h⟩ := a.one
    obtain ⟨a1, v1, rfl, h1, r1⟩ := h.tup
    exact ⟨a1, v1, rfl, .inr ⟨h1, k H _ (.refl H) (.tup h1 r1)⟩⟩
  · cases e
def tyName : Da → Option String
  | .non => some "NoneType"
  | .bl _ => some "bool"
  | .int _ => some "int"
  | .str _ => some "str"
  | .lst _ => some "list"
  | .flst _ => some "list"
  | .tup _ => some "tuple"
  | .dck _ _ => some "dict"
  | _ => none
def isiP : List Da → Option Da
  | [p, .ty n] => match tyName p with
    | some t => (match kitB t n with
      | some b => some (.bl b)
      | none => none)
    | none => none
  | _ => none
theorem sqT_tyX {H : Hp} {a : Addr} {vs : List V} (h : SqT K H a vs) : TyX K H (.ref a) (.type "tuple") := by
  rcases h with (h | ⟨o, h⟩) | ⟨o, its, n, h, hc, _⟩
  · exact .base (.tup h)
  · exact .fTuple h
  · exact .kTuple h hc
theorem tyX_fz {H : Hp} {a : Addr} {vs : List V} (h : FzL K H a vs) : TyX K H (.ref a) (.type "list") := by
  rcases h with ⟨o, h⟩ | ⟨o, its, n, h, hc, _⟩
  · exact .base (.frz h)
  · exact .kList h hc
theorem tyX_of {z : List Addr} {H : Hp} {p : Da} {x : V} {t : String} (e : tyName p = some t) (a : RPv K z H p x) : TyX K H x (.type t) := by
  cases p with
  | non => cases e; rw [a.non]; exact .base .non
  | bl b => cases e; rw [a.bl]; exact .base (.bl b)
  | int i => cases e; rw [a.int]; exact .base (.int i)
  | str s => cases e; rw [a.str]; exact .base (.str s)
  | lst l => cases e; obtain ⟨a1, v1, rfl, h1, r1⟩ := a.list; exact .base (.lst h1)
  | flst l => cases e; obtain ⟨a1, v1, rfl, h1, r1⟩ := a.flst; exact tyX_fz h1
  | tup l => cases e; obtain ⟨a1, v1, rfl, h1, r1⟩ := a.tup; exact sqT_tyX h1
  | dct ks vs =>
    cases e
  | dck ks vs =>
    cases e
    cases a with
    | pl h =>
      cases h with
      | dK h1 _ _ => exact .fDict h1
    | dK h1 _ _ =>
      rcases h1 with h1 | ⟨o, h1⟩
      · exact .base (.dK h1)
      · exact .fDict h1
  | ref a => cases e
  | ty n => cases e
theorem prim_isi : PrimC K isiP (rIsi K) := by
  intro ps r' z H xs Q e a l k
  unfold isiP at e
  split at e
  · rename_i p n
    cases ht : tyName p with
    | none => simp only [ht] at e; cases e
    | some t =>
      simp only [ht] at e
      cases hb : kitB t n with
      | none => simp only [hb] at e; cases e
      | some b =>
        simp only [hb] at e
        cases e
        obtain ⟨x, y, rfl, h, h'⟩ := a.two
        cases h'.ty
        exact ⟨x, .ty n, .type t, .type n, b, rfl, .ty n, tyX_of ht h, kit_ty hb, k H _ (.refl H) (.bl _)⟩
  · cases e
mutual
def toPy : Da → Option PyData
  | .non => some .none
  | .bl b => some (.bool b)
  | .int i => some (.int i)
  | .str x => some (.str x)
  | .lst l => match toPys l with
    | some ds => some (.list ds)
    | none => none
  | .flst l => match toPys l with
    | some ds => some (.list ds)
    | none => none
  | .tup l => match toPys l with
    | some ds => some (.tuple ds)
    | none => none
  | .dct _ _ => none
  | .dck _ _ => none
  | .ref _ => none
  | .ty _ => none
def toPys : List Da → Option (List PyData)
  | [] => some []
  | p :: r => match toPy p, toPys r with
    | some d, some ds => some (d :: ds)
    | _, _ => none
end
mutual
theorem Dp.of {z : List Addr} {H : Hp} : ∀ (p : Da) (d : PyData) (x : V), toPy p = some d → RPv K z H p x → Dp K H x d
  | .non, d, x, e, a => by simp only [toPy] at e; cases e; rw [a.non]; exact .non
  | .bl b, d, x, e, a => by simp only [toPy] at e; cases e; rw [a.bl]; exact .bl b
  | .int i, d, x, e, a => by simp only [toPy] at e; cases e; rw [a.int]; exact .int i
  | .str s, d, x, e, a => by simp only [toPy] at e; cases e; rw [a.str]; exact .str s
  | .lst l, d, x, e, a => by
    simp only [toPy] at e
    split at e
    · rename_i ds c
      cases e
      obtain ⟨a1, v1, rfl, h1, r1⟩ := a.list
      exact .lst (SqL.of h1) (DpAll.of l ds v1 c r1)
    · cases e
  | .flst l, d, x, e, a => by
    simp only [toPy] at e
    split at e
    · rename_i ds c
      cases e
      obtain ⟨a1, v1, rfl, h1, r1⟩ := a.flst
      exact .lst (h1.sq) (DpAll.of l ds v1 c r1)
    · cases e
  | .tup l, d, x, e, a => by
    simp only [toPy] at e
    split at e
    · rename_i ds c
      cases e
      obtain ⟨a1, v1, rfl, h1, r1⟩ := a.tup
      exact .tup h1 (DpAll.of l ds v1 c r1)
    · cases e
  | .dct _ _, d, x, e, a => by simp only [toPy] at e; cases e
  | .dck _ _, d, x, e, a => by simp only [toPy] at e; cases e
  | .ref _, d, x, e, a => by simp only [toPy] at e; cases e
  | .ty _, d, x, e, a => by simp only [toPy] at e; cases e
theorem DpAll.of {z : List Addr} {H : Hp} : ∀ (ps : List Da) (ds : List PyData) (xs : List V), toPys ps = some ds → RPs K z H ps xs → DpAll K H xs ds
  | [], ds, xs, e, a => by simp only [toPys] at e; cases e; cases a; exact .nil
  | p :: r, ds, xs, e, a => by
    simp only [toPys] at e
    split at e
    · rename_i d ds c1 c2
      cases e
      cases a with
      | cons h1 h2 => exact .cons (Dp.of p d _ c1 (.pl h1)) (DpAll.of r ds _ c2 h2)
    · cases e
end
def eqP : Da → Da → Option Bool := fun p q => match toPy p, toPy q with
  | some d, some e => if SeqAt.shaped d = true ∧ SeqAt.shaped e = true then some (PyData.eqv d e) else none
  | _, _ => none
def neP : Da → Da → Option Bool := fun p q => match eqP p q with
  | some b => some (!b)
  | none => none
theorem prim_eq : PrimB K eqP (rEqD K) := by
  intro p q b z H x y Q e a c l k
  unfold eqP at e
  split at e
  · split at e
    · rename_i d e' h1 h2 h3
      cases e
      exact ⟨d, e', Dp.of p d x h1 a, Dp.of q e' y h2 c, h3.1, h3.2, k⟩
    · cases e
  · cases e
theorem prim_ne : PrimB K neP (rNeD K) := by
  intro p q b z H x y Q e a c l k
  unfold neP at e
  split at e
  · rename_i b' h
    cases e
    unfold eqP at h
    split at h
    · split at h
      · rename_i d e' h1 h2 h3
        cases h
        exact ⟨d, e', Dp.of p d x h1 a, Dp.of q e' y h2 c, h3.1, h3.2, k⟩
      · cases h
    · cases h
  · cases e
def isNoneP : Da → Da → Option Bool
  | .non, .non => some true
  | .bl _, .non => some false
  | .int _, .non => some false
  | .str _, .non => some false
  | .tup _, .non => some false
  | .lst _, .non => some false
  | .flst _, .non => some false
  | .dct _ _, .non => some false
  | .dck _ _, .non => some false
  | _, _ => none
def notNoneP : Da → Da → Option Bool := fun p q => match isNoneP p q with
  | some b => some (!b)
  | none => none
theorem isNone_rel {z : List Addr} {H : Hp} {p q : Da} {x y : V} {b : Bool} (e : isNoneP p q = some b) (a : RPv K z H p x) (c : RPv K z H q y) : y = .non ∧ b = decide (x = .non) := by
  unfold isNoneP at e
  split at e
  · cases e; rw [a.non, c.non]; exact ⟨rfl, by simp⟩
  · cases e; rw [a.bl, c.non]; exact ⟨rfl, by simp⟩
  · cases e; rw [a.int, c.non]; exact ⟨rfl, by simp⟩
  · cases e; rw [a.str, c.non]; exact ⟨rfl, by simp⟩
  · cases e; obtain ⟨a1, v1, rfl, g1, r1⟩ := a.tup; rw [c.non]; exact ⟨rfl, by simp⟩
  · cases e; obtain ⟨a1, v1, rfl, g1, r1⟩ := a.list; rw [c.non]; exact ⟨rfl, by simp⟩
  · cases e; obtain ⟨a1, v1, rfl, g1, r1⟩ := a.flst; rw [c.non]; exact ⟨rfl, by simp⟩
  · cases e
    rw [c.non]
    cases a with
    | pl h => cases h <;> exact ⟨rfl, by simp⟩
    | dR _ _ _ => exact ⟨rfl, by simp⟩
  · cases e
    rw [c.non]
    cases a with
    | pl h => cases h <;> exact ⟨rfl, by simp⟩
    | dK _ _ _ => exact ⟨rfl, by simp⟩
  · cases e
theorem prim_isN : PrimB K isNoneP (fun x y H Q => y = .non ∧ Q (.bl (decide (x = .non))) H) := by
  intro p q b z H x y Q e a c l k
  obtain ⟨h1, h2⟩ := isNone_rel e a c
  exact ⟨h1, by rw [← h2]; exact k⟩
theorem prim_notN : PrimB K notNoneP (fun x y H Q => y = .non ∧ Q (.bl (!decide (x = .non))) H) := by
  intro p q b z H x y Q e a c l k
  unfold notNoneP at e
  split at e
  · rename_i b' h
    cases e
    obtain ⟨h1, h2⟩ := isNone_rel h a c
    exact ⟨h1, by rw [← h2]; exact k⟩
  · cases e
def cutD {α : Type} (xs : List α) (lo hi : Option Int) : List α := (xs.drop (HT.sIx xs.length 0 lo)).take (HT.sIx xs.length xs.length hi - HT.sIx xs.length 0 lo)
def slP : Da → Option Int → Option Int → Option Da
  | .lst l, lo, hi => some (.lst (cutD l lo hi))
  | .flst l, lo, hi => some (.lst (cutD l lo hi))
  | .tup l, lo, hi => some (.tup (cutD l lo hi))
  | _, _, _ => none
theorem cut_rel {z : List Addr} {H : Hp} {l : List Da} {vs : List V} (r : RPs K z H l vs) (lo hi : Option Int) : RPs K z H (cutD l lo hi) (cutV vs lo hi) := by
  unfold cutD cutV
  rw [← r.len]
  exact (r.drop _).take _
def rSl (K : PySem.W.Frag) : V → Option Int → Option Int → Hp → VK → Prop := fun x lo hi H Q => rSlL K x lo hi H Q ∨ rSlA K x lo hi H Q
theorem prim_sl {p r' : Da} {lo hi : Option Int} {z : List Addr} {H : Hp} {x : V} {Q : VK} (e : slP p lo hi = some r') (a : RPv K z H p x) (l : ∀ a, a ∈ z → H a ≠ none) (k : ∀ H' v, Same H H' → RP K z H' r' v → Q v H') : rSl K x lo hi H Q := by
  unfold slP at e
  split at e
  · cases e
    obtain ⟨a1, v1, rfl, h1, r1⟩ := a.list
    exact .inl ⟨a1, v1, rfl, SqL.of h1, fun p hp => k _ _ (same_upd hp) (.lst upd_same (fun q => l p q hp) ((cut_rel r1 _ _).same (same_upd hp)))⟩
  · cases e
    obtain ⟨a1, v1, rfl, h1, r1⟩ := a.flst
    exact .inl ⟨a1, v1, rfl, h1.sq, fun p hp => k _ _ (same_upd hp) (.lst upd_same (fun q => l p q hp) ((cut_rel r1 _ _).same (same_upd hp)))⟩
  · cases e
    obtain ⟨a1, v1, rfl, h1, r1⟩ := a.tup
    refine .inr ⟨a1, v1, rfl, h1, fun hw => ?_, fun _ p hp => ?_⟩
    · refine k H _ (.refl H) (.tup h1 ?_)
      have c := cut_rel (K := K) r1 lo hi
      have e : cutV v1 lo hi = v1 := by
        unfold cutV
        rw [hw.1, hw.2, List.drop_zero, Nat.sub_zero, List.take_length]
      rw [e] at c
      exact c
    · exact k _ _ (same_upd hp) (.tup (SqT.of upd_same) ((cut_rel r1 _ _).same (same_upd hp)))
  · cases e
end
end FL
end
section
namespace FL
open PySem PySem.Spec PyProof.Rows L2
variable [TabsOf]
section
variable {X : Cx} {W : WX} {a b c e : Expr} {es : List Expr} {pos : Pos}
def eTru (f : EM D) : EM Bool := fun ρ S => (f ρ S).bind fun d S1 => match view S1 d with
  | some p => (match truP p with
    | some b => .ok b S1
    | none => .bad)
  | none => .bad
theorem jt_tru {f : EM D} (ha : JE X W a f) (he : ∀ whole, isTrue a X.env whole = (do let v ← whole; standAt a.pos; holding [v] (truthy v)) := by intro _; rfl) : JT X W a (eTru f) := by
  refine pt_imp (pt_truth ha he) fun σ H Q ⟨z, m, S, ρ, hS, hE, h⟩ => ?_
  refine tG_intro hS hE h fun d S1 z1 m1 H1 v e1 x1 s1 E1 r1 h1 => ?_
  cases c1 : view S1 d with
  | none => simp only [c1] at h1; exact h1.elim
  | some p =>
    cases c2 : truP p with
    | none => simp only [c1, c2] at h1; exact h1.elim
    | some b =>
      simp only [c1, c2] at h1
      exact ⟨b, tru_rel c2 (view_rel s1 r1 c1), h1 z1 m1 H1 b .refl s1 rfl⟩
def eNotT (f : EM Bool) : EM Bool := fun ρ S => (f ρ S).bind fun b S1 => .ok (!b) S1
def eAndT (f g : EM Bool) : EM Bool := fun ρ S => (f ρ S).bind fun b S1 => if b = true then g ρ S1 else .ok false S1
def eOrT (f g : EM Bool) : EM Bool := fun ρ S => (f ρ S).bind fun b S1 => if b = true then .ok true S1 else g ρ S1
theorem jt_not {f : EM Bool} (ha : JT X W a f) : JT X W (.UnaryOp .Not a pos) (eNotT f) := by
  refine pt_imp (pt_not ha) fun σ H Q ⟨z, m, S, ρ, hS, hE, h⟩ => ?_
  refine tG_intro hS hE h fun d S1 z1 m1 H1 v e1 x1 s1 E1 r1 h1 => ?_
  subst r1
  exact h1 z1 m1 H1 (!d) .refl s1 rfl
theorem jw_and1 {f : EM Bool} (ha : JT X W a f) : JW X W (.BoolOp .And [a] pos) f := pw_and1 ha
theorem jw_or1 {f : EM Bool} (ha : JT X W a f) : JW X W (.BoolOp .Or [a] pos) f := pw_or1 ha
theorem jw_and {f g : EM Bool} (ha : JT X W a f) (hb : JW X W (.BoolOp .And (b :: es) pos) g) : JW X W (.BoolOp .And (a :: b :: es) pos) (eAndT f g) := by
  refine pw_imp (pw_and ha hb) fun σ H Q ⟨z, m, S, ρ, hS, hE, h⟩ => ?_
  refine tG_intro hS hE h fun d S1 z1 m1 H1 v e1 x1 s1 E1 r1 h1 => ?_
  subst r1
  cases d with
  | true =>
    rw [if_pos rfl] at h1 ⊢
    exact ⟨z1, m1, S1, ρ, s1, E1, h1⟩
  | false =>
    rw [if_neg Bool.false_ne_true] at h1 ⊢
    exact h1 z1 m1 H1 false .refl s1 rfl
theorem jw_or {f g : EM Bool} (ha : JT X W a f) (hb : JW X W (.BoolOp .Or (b :: es) pos) g) : JW X W (.BoolOp .Or (a :: b :: es) pos) (eOrT f g) := by
  refine pw_imp (pw_or ha hb) fun σ H Q ⟨z, m, S, ρ, hS, hE, h⟩ => ?_
  refine tG_intro hS hE h fun d S1 z1 m1 H1 v e1 x1 s1 E1 r1 h1 => ?_
  subst r1
  cases d with
  | true =>
    rw [if_pos rfl] at h1 ⊢
    exact h1 z1 m1 H1 true .refl s1 rfl
  | false =>
    rw [if_neg Bool.false_ne_true] at h1 ⊢
    exact ⟨z1, m1, S1, ρ, s1, E1, h1⟩
theorem jt_w {f : EM Bool} (h : JW X W a f) : JT X W a f := PW.pt h
/-- a test whose comparison has two operators -/
def eChain (o1 o2 : Da → Da → Option Bool) (f g h : EM D) : EM Bool := fun ρ S => (f ρ S).bind fun d S1 => (g ρ S1).bind fun d' S2 => match view S2 d, view S2 d' with
  | some p, some q => (match o1 p q with
    | some b => if b = true then (h ρ S2).bind fun d2 S3 => (match view S3 d', view S3 d2 with
        | some q, some r => (match o2 q r with
          | some b => .ok b S3
          | none => .bad)
        | _, _ => .bad) else .ok false S2
    | none => .bad)
  | _, _ => .bad
theorem tG_chain {K : PySem.W.Frag} {o1 o2 : Da → Da → Option Bool} {r1 r2 : R2} {f g h : EM D} (p1 : PrimB K o1 r1) (p2 : PrimB K o2 r2) {σ : L2.St} {H : Hp} {Q : Bool → Hp → Prop} (hh : tT K W (eChain o1 o2 f g h) σ H Q) : tTest (tChain r1 r2 (tE K W f) (tE K W g) (tE K W h)) σ H Q := by
  obtain ⟨z, m, S, ρ, hS, hE, hh⟩ := hh
  refine tG_intro hS hE hh fun d1 S1 z1 m1 H1 v1 e1 x1 s1 E1 r1 h1 => ?_
  refine tG_intro s1 E1 h1 fun d2 S2 z2 m2 H2 v2 e2 x2 s2 E2 r2 h2 => ?_
  cases c1 : view S2 d1 with
  | none => simp only [c1] at h2; exact h2.elim
  | some p =>
    cases c2 : view S2 d2 with
    | none => simp only [c1, c2] at h2; exact h2.elim
    | some q =>
      cases c3 : o1 p q with
      | none => simp only [c1, c2, c3] at h2; exact h2.elim
      | some b =>
        simp only [c1, c2, c3] at h2
        refine p1 p q b z2 H2 v1 v2 _ c3 (view_rel s2 (r1.ext s1 x2) c1) (view_rel s2 r2 c2) s2.liveN ⟨b, rfl, ?_⟩
        cases b with
        | false =>
          rw [if_neg Bool.false_ne_true] at h2 ⊢
          exact ⟨false, rfl, h2 z2 m2 H2 false .refl s2 rfl⟩
        | true =>
          rw [if_pos rfl] at h2 ⊢
          refine tG_intro s2 E2 h2 fun d3 S3 z3 m3 H3 v3 e3 x3 s3 E3 r3 h3 => ?_
          cases c4 : view S3 d2 with
          | none => simp only [c4] at h3; exact h3.elim
          | some q' =>
            cases c5 : view S3 d3 with
            | none => simp only [c4, c5] at h3; exact h3.elim
            | some w =>
              cases c6 : o2 q' w with
              | none => simp only [c4, c5, c6] at h3; exact h3.elim
              | some b =>
                simp only [c4, c5, c6] at h3
                exact p2 q' w b z3 H3 v2 v3 _ c6 (view_rel s3 (r2.ext s2 x3) c4) (view_rel s3 r3 c5) s3.liveN ⟨b, rfl, h3 z3 m3 H3 b .refl s3 rfl⟩
theorem jt_chain {op op' : CmpOp} {o1 o2 : Da → Da → Option Bool} {r1 r2 : R2} {f g h : EM D} (ho : OpR X (compareOp op) r1) (ho' : OpR X (compareOp op') r2) (p1 : PrimB X.K o1 r1) (p2 : PrimB X.K o2 r2) (ha : JE X W a f) (hb : JE X W b g) (hc : JE X W c h)
    (hm : lastMarks [op, op'] [b, c] = false := by with_unfolding_all rfl) : JT X W (.Compare a [op, op'] [b, c] pos) (eChain o1 o2 f g h) :=
  pt_imp (pt_chain ho ho' ha hb hc hm) fun _ _ _ h => tG_chain p1 p2 h
theorem je_chain {op op' : CmpOp} {o1 o2 : Da → Da → Option Bool} {r1 r2 : R2} {f g h : EM D} (ho : OpR X (compareOp op) r1) (ho' : OpR X (compareOp op') r2) (p1 : PrimB X.K o1 r1) (p2 : PrimB X.K o2 r2) (ha : JE X W a f) (hb : JE X W b g) (hc : JE X W c h)
    (hm : lastMarks [op, op'] [b, c] = false := by with_unfolding_all rfl) : JE X W (.Compare a [op, op'] [b, c] pos) (eBl (eChain o1 o2 f g h)) := by
  refine pe_imp (pe_chain ho ho' ha hb hc hm) fun σ H Q hh => ?_
  obtain ⟨z, m, S, ρ, hS, hE, hh⟩ := hh
  have post : PostE X.K W (fun z m H => RD X.K z m H) z m H σ ((eChain o1 o2 f g h ρ S).bind fun b S1 => .ok (.v (.bl b)) S1) Q := hh
  have e0 : (eChain o1 o2 f g h ρ S).bind (fun b S1 => (ER.ok (D.v (.bl b)) S1)) = (f ρ S).bind fun d S1 => (g ρ S1).bind fun d' S2 => (match view S2 d, view S2 d' with
    | some p, some q => (match o1 p q with
      | some b => if b = true then (h ρ S2).bind fun d2 S3 => (match view S3 d', view S3 d2 with
          | some q, some r => (match o2 q r with
            | some b => .ok b S3
            | none => .bad)
          | _, _ => .bad) else .ok false S2
      | none => .bad)
    | _, _ => .bad : ER Bool).bind fun b S1 => .ok (.v (.bl b)) S1 := by
    unfold eChain
    cases f ρ S with
    | bad => rfl
    | err C fs S1 => rfl
    | ok d S1 =>
      simp only [ER.bind]
      cases g ρ S1 with
      | bad => rfl
      | err C fs S1 => rfl
      | ok d' S2 => rfl
  rw [e0] at post
  refine tG_intro hS hE post fun d1 S1 z1 m1 H1 v1 e1 x1 s1 E1 r1 h1 => ?_
  refine tG_intro s1 E1 h1 fun d2 S2 z2 m2 H2 v2 e2 x2 s2 E2 r2 h2 => ?_
  cases c1 : view S2 d1 with
  | none => simp only [c1, ER.bind] at h2; exact h2.elim
  | some p =>
    cases c2 : view S2 d2 with
    | none => simp only [c1, c2, ER.bind] at h2; exact h2.elim
    | some q =>
      cases c3 : o1 p q with
      | none => simp only [c1, c2, c3, ER.bind] at h2; exact h2.elim
      | some b =>
        simp only [c1, c2, c3] at h2
        refine p1 p q b z2 H2 v1 v2 _ c3 (view_rel s2 (r1.ext s1 x2) c1) (view_rel s2 r2 c2) s2.liveN ⟨b, rfl, ?_⟩
        cases b with
        | false =>
          rw [if_neg Bool.false_ne_true] at h2 ⊢
          exact h2 z2 m2 H2 (.bl false) .refl s2 (.bl false)
        | true =>
          rw [if_pos rfl] at h2 ⊢
          have h2' : PostE X.K W (fun z m H => RD X.K z m H) z2 m2 H2 σ ((h ρ S2).bind fun d3 S3 => (match view S3 d2, view S3 d3 with
            | some q, some r => (match o2 q r with
              | some b => .ok b S3
              | none => .bad)
            | _, _ => .bad : ER Bool).bind fun b S1 => .ok (.v (.bl b)) S1) Q := by
            cases e9 : h ρ S2 with
            | bad => rw [e9] at h2; exact h2
            | err C fs S1 => rw [e9] at h2; exact h2
            | ok d3 S3 => rw [e9] at h2; exact h2
          refine tG_intro s2 E2 h2' fun d3 S3 z3 m3 H3 v3 e3 x3 s3 E3 r3 h3 => ?_
          cases c4 : view S3 d2 with
          | none => simp only [c4, ER.bind] at h3; exact h3.elim
          | some q' =>
            cases c5 : view S3 d3 with
            | none => simp only [c4, c5, ER.bind] at h3; exact h3.elim
            | some w =>
              cases c6 : o2 q' w with
              | none => simp only [c4, c5, c6, ER.bind] at h3; exact h3.elim
              | some b =>
                simp only [c4, c5, c6, ER.bind] at h3
                exact p2 q' w b z3 H3 v2 v3 _ c6 (view_rel s3 (r2.ext s2 x3) c4) (view_rel s3 r3 c5) s3.liveN (h3 z3 m3 H3 (.bl b) .refl s3 (.bl b))
def eAndV (f g : EM D) : EM D := fun ρ S => (f ρ S).bind fun d S1 => match d with
  | .v (.bl true) => g ρ S1
  | .v (.bl false) => .ok (.v (.bl false)) S1
  | _ => .bad
def eOrV (f g : EM D) : EM D := fun ρ S => (f ρ S).bind fun d S1 => match d with
  | .v (.bl true) => .ok (.v (.bl true)) S1
  | .v (.bl false) => g ρ S1
  | _ => .bad
def eNotV (f : EM D) : EM D := fun ρ S => (f ρ S).bind fun d S1 => match d with
  | .v (.bl b) => .ok (.v (.bl (!b))) S1
  | _ => .bad
theorem je_one {op} {f : EM D} (h : JE X W a f) : JE X W (.BoolOp op [a] pos) f := pe_one h
theorem je_and {f g : EM D} (ha : JE X W a f) (hb : JE X W (.BoolOp .And (b :: es) pos) g) : JE X W (.BoolOp .And (a :: b :: es) pos) (eAndV f g) := by
  refine pe_imp (pe_and ha hb) fun σ H Q ⟨z, m, S, ρ, hS, hE, h⟩ => ?_
  refine tG_intro hS hE h fun d S1 z1 m1 H1 v e1 x1 s1 E1 r1 h1 => ?_
  split at h1
  · cases r1
    exact ⟨true, rfl, by rw [if_pos rfl]; exact ⟨z1, m1, S1, ρ, s1, E1, h1⟩⟩
  · cases r1
    exact ⟨false, rfl, by rw [if_neg Bool.false_ne_true]; exact h1 z1 m1 H1 (.bl false) .refl s1 (.bl false)⟩
  · exact h1.elim
theorem je_not {f : EM D} (ha : JE X W a f) : JE X W (.UnaryOp .Not a pos) (eNotV f) := by
  refine pe_imp (pe_not ha) fun σ H Q ⟨z, m, S, ρ, hS, hE, h⟩ => ?_
  refine tG_intro hS hE h fun d S1 z1 m1 H1 v e1 x1 s1 E1 r1 h1 => ?_
  split at h1
  · cases r1
    exact ⟨_, rfl, h1 z1 m1 H1 (.bl _) .refl s1 (.bl _)⟩
  · exact h1.elim
def eIf (t : EM Bool) (f g : EM D) : EM D := fun ρ S => (t ρ S).bind fun b S1 => if b = true then f ρ S1 else g ρ S1
theorem je_if {t : EM Bool} {f g : EM D} (hc : JT X W c t) (ha : JE X W a f) (hb : JE X W b g) : JE X W (.IfExp c a b pos) (eIf t f g) := by
  refine pe_imp (pe_ifExp hc ha hb) fun σ H Q ⟨z, m, S, ρ, hS, hE, h⟩ => ?_
  refine tG_intro hS hE h fun d S1 z1 m1 H1 v e1 x1 s1 E1 r1 h1 => ?_
  subst r1
  cases d with
  | true =>
    rw [if_pos rfl] at h1 ⊢
    exact ⟨z1, m1, S1, ρ, s1, E1, h1⟩
  | false =>
    rw [if_neg Bool.false_ne_true] at h1 ⊢
    exact ⟨z1, m1, S1, ρ, s1, E1, h1⟩
def eNeg (f : EM D) : EM D := fun ρ S => (f ρ S).bind fun d S1 => match d with
  | .v (.int i) => .ok (.v (.int (-i))) S1
  | _ => .bad
theorem je_neg {f : EM D} (ha : JE X W a f) : JE X W (.UnaryOp .USub a pos) (eNeg f) := by
  refine pe_imp (pe_un un_neg ha) fun σ H Q ⟨z, m, S, ρ, hS, hE, h⟩ => ?_
  refine tG_intro hS hE h fun d S1 z1 m1 H1 v e1 x1 s1 E1 r1 h1 => ?_
  split at h1
  · cases r1
    exact ⟨_, rfl, h1 z1 m1 H1 (.int _) .refl s1 (.int _)⟩
  · exact h1.elim
def aNil : EM (List D) := fun _ S => .ok [] S
def aCons (f : EM D) (g : EM (List D)) : EM (List D) := fun ρ S => (f ρ S).bind fun d S1 => (g ρ S1).bind fun ds S2 => .ok (d :: ds) S2
theorem ja_nil : JA X W [] aNil := pa_imp pa_nil fun σ H Q ⟨z, m, S, ρ, hS, hE, h⟩ => h z m H [] .refl hS .nil
theorem ja_cons {f : EM D} {g : EM (List D)} (ha : JE X W e f) (hr : JA X W es g) (hs : starEach (e :: es) X.env = (false, eval e X.env) :: starEach es X.env := by rfl) : JA X W (e :: es) (aCons f g) := by
  refine pa_imp (pa_cons ha hr hs) fun σ H Q ⟨z, m, S, ρ, hS, hE, h⟩ => ?_
  refine tG_intro hS hE h fun d S1 z1 m1 H1 v e1 x1 s1 E1 r1 h1 => ?_
  refine tG_intro s1 E1 h1 fun ds S2 z2 m2 H2 vs e2 x2 s2 E2 r2 h2 => ?_
  exact h2 z2 m2 H2 (v :: vs) .refl s2 (.cons (r1.ext s1 x2) r2)
def plains : List D → Option (List Da)
  | [] => some []
  | .v p :: r => match plains r with
    | some ps => some (p :: ps)
    | none => none
  | _ => none
theorem plains_rel {K : PySem.W.Frag} {z m : List Addr} {H : Hp} : ∀ {ds : List D} {ps : List Da} {vs : List V}, RDs K z m H ds vs → plains ds = some ps → RPs K z H ps vs
  | _, _, _, .nil, e => by cases e; exact .nil
  | d :: ds, ps, _, .cons h t, e => by
    cases d with
    | o n => cases e
    | v p =>
      cases c : plains ds with
      | none => simp only [plains, c] at e; cases e
      | some qs =>
        simp only [plains, c] at e
        cases e
        exact .cons h (plains_rel t c)
def eTup (f : EM (List D)) : EM D := fun ρ S => (f ρ S).bind fun ds S1 => match plains ds with
  | some ps => if ps.length ≤ 1000000 then .ok (.v (.tup ps)) S1 else .bad
  | none => .bad
def eLst (f : EM (List D)) : EM D := fun ρ S => (f ρ S).bind fun ds S1 => match plains ds with
  | some ps => if ps.length ≤ 1000000 then .ok (.v (.lst ps)) S1 else .bad
  | none => .bad
def eLstN (f : EM (List D)) : EM D := fun ρ S => (f ρ S).bind fun ds S1 => match plains ds with
  | some ps => if ps.length ≤ 1000000 then .ok (.o S1.length) (S1 ++ [.lst ps]) else .bad
  | none => .bad
theorem je_tup {x1} {f : EM (List D)} (h : JA X W es f) : JE X W (.Tuple es x1 pos) (eTup f) := by
  refine pe_imp (pe_tup h) fun σ H Q ⟨z, m, S, ρ, hS, hE, h⟩ => ?_
  refine tG_intro hS hE h fun ds S1 z1 m1 H1 vs e1 x1 s1 E1 r1 h1 => ?_
  cases c : plains ds with
  | none => simp only [c] at h1; exact h1.elim
  | some ps =>
    simp only [c] at h1
    have r := plains_rel r1 c
    split at h1
    · rename_i hl
      exact ⟨by rw [← r.len]; exact le_line hl, fun p hp => h1.pure s1 (same_upd hp) (.tup (SqT.of upd_same) (r.same (same_upd hp)))⟩
    · exact h1.elim
theorem je_lst {f : EM (List D)} (h : JA X W es f) : JE X W (.List es pos) (eLst f) := by
  refine pe_imp (pe_lst h) fun σ H Q ⟨z, m, S, ρ, hS, hE, h⟩ => ?_
  refine tG_intro hS hE h fun ds S1 z1 m1 H1 vs e1 x1 s1 E1 r1 h1 => ?_
  cases c : plains ds with
  | none => simp only [c] at h1; exact h1.elim
  | some ps =>
    simp only [c] at h1
    have r := plains_rel r1 c
    split at h1
    · rename_i hl
      exact ⟨by rw [← r.len]; exact le_line hl, fun p hp => h1.pure s1 (same_upd hp) (.lst upd_same (fun q => s1.live p q (.of hp)) (r.same (same_upd hp)))⟩
    · exact h1.elim
/-- a new object of the store -/
theorem RD.newz {K : PySem.W.Frag} {z m : List Addr} {H : Hp} {d : D} {v : V} {p : Addr} {o : HO} (hp : H p = none) (h : RD K z m H d v) : RD K (z ++ [p]) (m ++ [p]) (upd H p o) d v := by
  cases d with
  | v q => exact RP.mono (Same.keep (same_upd hp)) (fun a h1 h2 => by rcases List.mem_append.mp h1 with h1 | h1; exact absurd h1 h2; simp at h1; rw [h1]; exact .of hp) q v h
  | o n =>
    obtain ⟨a, h1, h2⟩ := h
    exact ⟨a, getP h1, h2⟩
theorem RFs.newz {K : PySem.W.Frag} {z m : List Addr} {H : Hp} {p : Addr} {o : HO} (hp : H p = none) : ∀ {ds : List (Str × D)} {vs : List (Str × V)}, RFs K z m H ds vs → RFs K (z ++ [p]) (m ++ [p]) (upd H p o) ds vs
  | _, _, .nil => .nil
  | _, _, .cons h t => .cons (h.newz hp) (RFs.newz hp t)
theorem RPs.newz {K : PySem.W.Frag} {z : List Addr} {H : Hp} {d : List Da} {v : List V} {p : Addr} {o : HO} (hp : H p = none) (h : RPs K z H d v) : RPs K (z ++ [p]) (upd H p o) d v :=
  RPs.mono (Same.keep (same_upd hp)) (fun a h1 h2 => by rcases List.mem_append.mp h1 with h1 | h1; exact absurd h1 h2; simp at h1; rw [h1]; exact .of hp) d v h
theorem RC.newz {K : PySem.W.Frag} {z m : List Addr} {H : Hp} {a : Addr} {c : Cell} {p : Addr} {o : HO} (hp : H p = none) (h : RC K z m H a c) : RC K (z ++ [p]) (m ++ [p]) (upd H p o) a c := by
  cases h with
  | lst h1 h2 => exact .lst (same_upd hp _ _ h1) (h2.newz hp)
  | dK h1 h2 h3 => exact .dK (same_upd hp _ _ h1) h2 (h3.newz hp)
  | dR h1 h2 h3 => exact .dR (same_upd hp _ _ h1) (h2.keep (z := z) (Same.keep (same_upd hp))) (h3.newz hp)
  | ins h1 h2 => exact .ins (same_upd hp _ _ h1) (h2.newz hp)
  | gone => exact .gone
theorem RelS.new {K : PySem.W.Frag} {z m : List Addr} {S : List Cell} {H : Hp} (R : RelS K z m S H) {p : Addr} {o : HO} {c : Cell} (hp : H p = none) (hc : RC K (z ++ [p]) (m ++ [p]) (upd H p o) p c) (ko : NTb o := by first | trivial | (unfold dRaw; trivial)) : RelS K (z ++ [p]) (m ++ [p]) (S ++ [c]) (upd H p o) where
  len := by rw [List.length_append, List.length_append, R.len] <;> rfl
  nd := by
    rw [List.nodup_append]
    refine ⟨R.nd, by simp, fun a h b hb => ?_⟩
    simp at hb
    subst hb
    exact fun e => R.live a (R.sub a h) (by rw [e]; exact .of hp)
  sub := fun a h => by
    rcases List.mem_append.mp h with h | h
    · exact List.mem_append_left _ (R.sub a h)
    · exact List.mem_append_right _ h
  live := fun a h => by
    rcases List.mem_append.mp h with h | h
    · exact fun n => R.live a h (Same.back (same_upd hp) a n)
    · simp at h; rw [h]; exact fun n => n _ upd_same ko
  cell := fun i a c' h1 h2 => by
    by_cases hi : i < m.length
    · rw [List.getElem?_append_left hi] at h1
      rw [List.getElem?_append_left (by rw [← R.len]; exact hi)] at h2
      exact (R.cell i a c' h1 h2).newz hp
    · have hi : m.length ≤ i := Nat.le_of_not_lt hi
      rw [List.getElem?_append_right hi] at h1
      rw [List.getElem?_append_right (by rw [← R.len]; exact hi), ← R.len] at h2
      cases q : i - m.length with
      | zero =>
        rw [q] at h1 h2
        simp at h1 h2
        subst h1; subst h2
        exact hc
      | succ k => rw [q] at h1; simp at h1
  tabs := R.tabs.ext (same_upd hp)
theorem Ext.new {z m : List Addr} {H : Hp} {p : Addr} {o : HO} (hp : H p = none) : Ext z m H (z ++ [p]) (m ++ [p]) (upd H p o) :=
  ⟨⟨[p], rfl, fun a h => by simp at h; rw [h]; exact .of hp⟩, ⟨[p], rfl, fun a h => by simp at h; rw [h]; exact .of hp⟩, Same.keep (same_upd hp), Same.back (same_upd hp)⟩
theorem last_get {m : List Addr} {p : Addr} : (m ++ [p])[m.length]? = some p := by simp
theorem je_lstN {f : EM (List D)} (h : JA X W es f) : JE X W (.List es pos) (eLstN f) := by
  refine pe_imp (pe_lst h) fun σ H Q ⟨z, m, S, ρ, hS, hE, h⟩ => ?_
  refine tG_intro hS hE h fun ds S1 z1 m1 H1 vs e1 x1 s1 E1 r1 h1 => ?_
  cases c : plains ds with
  | none => simp only [c] at h1; exact h1.elim
  | some ps =>
    simp only [c] at h1
    have r := plains_rel r1 c
    split at h1
    · rename_i hl
      refine ⟨by rw [← r.len]; exact le_line hl, fun p hp => h1 (z1 ++ [p]) (m1 ++ [p]) _ _ (.new hp) (s1.new hp (.lst upd_same (r.newz hp))) ⟨p, ?_, rfl⟩⟩
      rw [← s1.len]; exact last_get
    · exact h1.elim
def eCB (g : List Da → Option Da) (f : EM (List D)) : EM D := fun ρ S => (f ρ S).bind fun ds S1 => match viewAll S1 ds with
  | some ps => (match g ps with
    | some r => .ok (.v r) S1
    | none => .bad)
  | none => .bad
theorem tG_cb {K : PySem.W.Frag} {g : List Da → Option Da} {r : List V → Hp → VK → Prop} {f : EM (List D)} (hp : PrimC K g r) {σ : L2.St} {H : Hp} {Q : VK} (h : tE K W (eCB g f) σ H Q) : tCB r (tA K W f) σ H Q := by
  obtain ⟨z, m, S, ρ, hS, hE, h⟩ := h
  refine tG_intro hS hE h fun ds S1 z1 m1 H1 vs e1 x1 s1 E1 r1 h1 => ?_
  cases c1 : viewAll S1 ds with
  | none => simp only [c1] at h1; exact h1.elim
  | some ps =>
    cases c2 : g ps with
    | none => simp only [c1, c2] at h1; exact h1.elim
    | some r' =>
      simp only [c1, c2] at h1
      exact hp ps r' z1 H1 vs Q c2 (viewAll_rel s1 r1 c1) s1.liveN fun H' v s r => h1.pure s1 s r
theorem je_cb {x : Str} {id : String} {g : List Da → Option Da} {r : List V → Hp → VK → Prop} {f : EM (List D)} {p : Pos} (hc : CallR X (.builtin id) r) (hp : PrimC X.K g r) (hm : X.mg x = none) (hv : bootBuiltins x = some (.builtin id)) (ha : JA X W (e :: es) f)
    (hg : Gl X x := by rfl) (hn : x ≠ "__name__" := by decide) (hdb : (x == ("__debug__" : Str)) = false := by decide) (he : starEach (e :: es) X.env = (false, eval e X.env) :: starEach es X.env := by rfl) (hpl : (backTo pos (starEach es X.env)).any (·.1) = false := by rfl) :
    JE X W (.Call (.Name x p) (e :: es) [] pos) (eCB g f) := pe_imp (pe_callB hc hg hm hv ha hn hdb he hpl) fun _ _ _ h => tG_cb hp h
theorem je_ct {x : Str} {id : String} {g : List Da → Option Da} {r : List V → Hp → VK → Prop} {f : EM (List D)} {p : Pos} (hc : CallR X (.type id) r) (hp : PrimC X.K g r) (hm : X.mg x = none) (hv : bootBuiltins x = some (.type id)) (ha : JA X W (e :: es) f)
    (hg : Gl X x := by rfl) (hn : x ≠ "__name__" := by decide) (hdb : (x == ("__debug__" : Str)) = false := by decide) (he : starEach (e :: es) X.env = (false, eval e X.env) :: starEach es X.env := by rfl) (hpl : (backTo pos (starEach es X.env)).any (·.1) = false := by rfl) :
    JE X W (.Call (.Name x p) (e :: es) [] pos) (eCB g f) := pe_imp (pe_callTy hc hg hm hv ha hn hdb he hpl) fun _ _ _ h => tG_cb hp h
theorem je_ix {f g : EM D} (ha : JE X W a f) (hb : JE X W b g) (hs : PlainIx b := by exact fun _ _ => rfl) : JE X W (.Subscript a b pos) (eOp2 ixP f g) :=
  pe_imp (pe_ix ix_seq ha hb hs) fun _ _ _ h => tG_op2 prim_ix h
def JO (X : Cx) (W : WX) (e : Option Expr) (f : EM (Option Int)) : Prop := PO X e (tG X.K W (fun _ _ _ a b => a = b) f)
def oNone : EM (Option Int) := fun _ S => .ok none S
def oSome (f : EM D) : EM (Option Int) := fun ρ S => (f ρ S).bind fun d S1 => match d with
  | .v (.int i) => .ok (some i) S1
  | _ => .bad
theorem po_imp {e : Option Expr} {t t' : TO} (h : PO X e t) (i : ∀ σ H Q, t' σ H Q → t σ H Q) : PO X e t' := ⟨fun pins s σ H Q I q => h.run pins s σ H Q I (i σ H Q q)⟩
theorem jo_none : JO X W none oNone := po_imp po_none fun σ H Q ⟨z, m, S, ρ, hS, hE, h⟩ => h z m H none .refl hS rfl
theorem jo_some {f : EM D} (h : JE X W e f) : JO X W (some e) (oSome f) := by
  refine po_imp (po_some h) fun σ H Q ⟨z, m, S, ρ, hS, hE, h⟩ => ?_
  refine tG_intro hS hE h fun d S1 z1 m1 H1 v e1 x1 s1 E1 r1 h1 => ?_
  split at h1
  · cases r1
    exact ⟨_, rfl, h1 z1 m1 H1 _ .refl s1 rfl⟩
  · exact h1.elim
def eSl (f : EM D) (l h : EM (Option Int)) : EM D := fun ρ S => (f ρ S).bind fun d S1 => (l ρ S1).bind fun lo S2 => (h ρ S2).bind fun hi S3 => match view S3 d with
  | some p => (match slP p lo hi with
    | some r => .ok (.v r) S3
    | none => .bad)
  | none => .bad
theorem je_sl {f : EM D} {g h : EM (Option Int)} {lo hi : Option Expr} {p2 : Pos} (he : JE X W e f) (hl : JO X W lo g) (hh : JO X W hi h) : JE X W (.Subscript e (.Slice lo hi none p2) pos) (eSl f g h) := by
  refine pe_imp (pe_slice (sl_list.or sl_tupA) he hl hh) fun σ H Q ⟨z, m, S, ρ, hS, hE, h⟩ => ?_
  refine tG_intro hS hE h fun d S1 z1 m1 H1 v e1 x1 s1 E1 r1 h1 => ?_
  refine tG_intro s1 E1 h1 fun lo S2 z2 m2 H2 lo' e2 x2 s2 E2 r2 h2 => ?_
  refine tG_intro s2 E2 h2 fun hi S3 z3 m3 H3 hi' e3 x3 s3 E3 r3 h3 => ?_
  subst r2; subst r3
  cases c1 : view S3 d with
  | none => simp only [c1] at h3; exact h3.elim
  | some p =>
    cases c2 : slP p lo hi with
    | none => simp only [c1, c2] at h3; exact h3.elim
    | some r' =>
      simp only [c1, c2] at h3
      exact prim_sl c2 (view_rel s3 ((r1.ext s1 x2).ext s2 x3) c1) s3.liveN fun H' v s r => h3.pure s3 s r
end
end FL
end
section
namespace FL
open PySem PySem.Spec PyProof.Rows L2
variable [TabsOf]
def wipeR (ρ : Rho) : List Nat → Rho
  | [] => ρ
  | v :: vs => (wipeR ρ vs).set v none
theorem wipe_get {σ : L2.St} {j : Nat} : ∀ {ws : List Nat}, (wipe σ ws)[j]? = if j ∈ ws then (σ[j]?).map (fun _ => none) else σ[j]?
  | [] => by simp [wipe]
  | v :: vs => by
    show ((wipe σ vs).set v none)[j]? = _
    by_cases hv : v = j
    · subst hv
      simp only [List.mem_cons, true_or, if_true]
      by_cases hl : v < σ.length
      · rw [List.getElem?_set_self (by rw [wipe_length]; exact hl), List.getElem?_eq_getElem hl] <;> rfl
      · have h1 : ((wipe σ vs).set v none)[v]? = none := List.getElem?_eq_none (by rw [List.length_set, wipe_length]; omega)
        have h2 : σ[v]? = none := List.getElem?_eq_none (by omega)
        rw [h1, h2] <;> rfl
    · rw [List.getElem?_set_ne hv, wipe_get (ws := vs)]
      have : (j ∈ v :: vs) ↔ j ∈ vs := by simp [List.mem_cons, Ne.symm hv]
      simp only [this]
theorem wipe_set {σ : L2.St} {i : Nat} {x : Option V} {ws : List Nat} (h : i ∈ ws) : wipe (σ.set i x) ws = wipe σ ws := by
  refine List.ext_getElem? fun j => ?_
  rw [wipe_get, wipe_get]
  by_cases hj : i = j
  · subst hj
    rw [if_pos h, if_pos h]
    by_cases hl : i < σ.length
    · rw [List.getElem?_set_self hl, List.getElem?_eq_getElem hl] <;> rfl
    · have h1 : (σ.set i x)[i]? = none := List.getElem?_eq_none (by rw [List.length_set]; omega)
      have h2 : σ[i]? = none := List.getElem?_eq_none (by omega)
      rw [h1, h2]
  · rw [List.getElem?_set_ne hj]
theorem wipe_wipe {σ : L2.St} {ws : List Nat} : wipe (wipe σ ws) ws = wipe σ ws := by
  refine List.ext_getElem? fun j => ?_
  rw [wipe_get, wipe_get]
  by_cases hj : j ∈ ws
  · rw [if_pos hj, if_pos hj]
    cases σ[j]? <;> rfl
  · rw [if_neg hj]
section
variable {K : PySem.W.Frag} {z z' m m' : List Addr} {H H' : Hp} {S : List Cell}
theorem RelE.wipe {ρ : Rho} {σ : L2.St} (h : RelE K z m H ρ σ) : ∀ ws : List Nat, RelE K z m H (wipeR ρ ws) (wipe σ ws)
  | [] => h
  | v :: vs => RelE.setNone v (RelE.wipe h vs)
theorem RelE.same (s : Same H H') : ∀ {r : Rho} {t : L2.St}, RelE K z m H r t → RelE K z m H' r t
  | _, _, .nil => .nil
  | _, _, .non t => .non (RelE.same s t)
  | _, _, .cons h t => .cons (h.same s) (RelE.same s t)
inductive Tg where
  | nm (i : Nat) | tup (l : List Nat)
def Tg.slots : Tg → List Nat
  | .nm i => [i]
  | .tup l => l
def gNames : List Nat → TGs
  | [] => gNil
  | i :: r => gCons (gName i) (gNames r)
def gRead (K : PySem.W.Frag) : Tg → TG
  | .nm i => gName i
  | .tup l => gTup K l.length (gNames l)
def setAll : List Nat → List Da → Rho → Option Rho
  | [], [], ρ => some ρ
  | i :: r, d :: ds, ρ => setAll r ds (ρ.set i (some (.v d)))
  | _, _, _ => none
def tgSet : Tg → Da → Rho → Option Rho
  | .nm i, d, ρ => some (ρ.set i (some (.v d)))
  | .tup l, .tup ds, ρ => setAll l ds ρ
  | .tup _, _, _ => none
theorem gNames_ok {Q : L2.St → Hp → Prop} : ∀ {l : List Nat} {ds : List Da} {vs : List V} {ρ ρ' : Rho} {σ : L2.St}, RPs K z H ds vs → RelE K z m H ρ σ → setAll l ds ρ = some ρ' →
    (∀ σ', RelE K z m H ρ' σ' → (∀ ws, (∀ i, i ∈ l → i ∈ ws) → L2.wipe σ' ws = L2.wipe σ ws) → Q σ' H) → gNames l vs σ H Q
  | [], ds, vs, ρ, ρ', σ, r, E, e, k => by
    cases ds with
    | nil => cases e; cases r; exact ⟨rfl, k σ E fun _ _ => rfl⟩
    | cons d ds => cases e
  | i :: l, ds, vs, ρ, ρ', σ, r, E, e, k => by
    cases ds with
    | nil => cases e
    | cons d ds =>
      cases r with
      | cons h t =>
        refine ⟨_, _, rfl, ?_⟩
        refine gNames_ok t (E.set (d := .v d) h i) e fun σ' E' w => k σ' E' fun ws hw => ?_
        rw [w ws fun j hj => hw j (List.mem_cons_of_mem _ hj), wipe_set (hw i List.mem_cons_self)]
theorem setAll_len : ∀ {l : List Nat} {ds : List Da} {ρ ρ' : Rho}, setAll l ds ρ = some ρ' → ds.length = l.length
  | [], [], _, _, _ => rfl
  | [], _ :: _, _, _, e => by cases e
  | _ :: _, [], _, _, e => by cases e
  | i :: l, d :: ds, ρ, ρ', e => by
    have := setAll_len (l := l) (ds := ds) (ρ := ρ.set i (some (.v d))) (ρ' := ρ') e
    simp only [List.length_cons, this]
theorem gRead_ok {Q : L2.St → Hp → Prop} {T : Tg} {d : Da} {v : V} {ρ ρ' : Rho} {σ : L2.St} (r : RP K z H d v) (E : RelE K z m H ρ σ) (e : tgSet T d ρ = some ρ')
    (k : ∀ σ', RelE K z m H ρ' σ' → (∀ ws, (∀ i, i ∈ T.slots → i ∈ ws) → L2.wipe σ' ws = L2.wipe σ ws) → Q σ' H) : gRead K T v σ H Q := by
  cases T with
  | nm i =>
    cases e
    exact k _ (E.set (d := .v d) r i) fun ws hw => wipe_set (hw i List.mem_cons_self)
  | tup l =>
    cases d with
    | tup ds =>
      cases r with
      | tup h1 h2 => exact ⟨_, _, rfl, h1, by rw [← h2.len]; exact setAll_len e, gNames_ok h2 E e k⟩
    | _ => cases e
def GW (K : PySem.W.Frag) (z m : List Addr) (H : Hp) : Hp → Prop := fun H1 => ∃ z1 m1 S1, Ext z m H z1 m1 H1 ∧ RelS K z1 m1 S1 H1
def YW (K : PySem.W.Frag) (z m : List Addr) (H : Hp) (l : List Da) : Nat → Hp → V → Hp → Prop := fun i H1 x H2 => Same H1 H2 ∧ ∃ d, l[i]? = some d ∧ ∀ z1 m1 S1, Ext z m H z1 m1 H1 → RelS K z1 m1 S1 H1 → RP K z1 H2 d x
def RW (K : PySem.W.Frag) : List Addr → List Addr → Hp → List Da → It → Prop := fun z m H l J => Walk J l.length (GW K z m H) (YW K z m H l)
end
def JI (X : Cx) (W : WX) (tg iter : Expr) (f : EM (List Da)) : Prop := PI X tg iter (tG X.K W (RW X.K) f)
theorem pi_imp {X : Cx} {tg e : Expr} {t t' : TI} (h : PI X tg e t) (i : ∀ σ H Q, t' σ H Q → t σ H Q) : PI X tg e t' := ⟨fun pins s σ H Q I q => h.run pins s σ H Q I (i σ H Q q)⟩
theorem pi_or {X : Cx} {tg e : Expr} {t t' : TI} (h : PI X tg e t) (h' : PI X tg e t') : PI X tg e (fun σ H R => t σ H R ∨ t' σ H R) := ⟨fun pins s σ H Q I q => q.elim (h.run pins s σ H Q I) (h'.run pins s σ H Q I)⟩
def JG (X : Cx) (tg : Expr) (T : Tg) : Prop := PG X tg (gRead X.K T)
section
variable {X : Cx} {W : WX} {a b c e tg : Expr} {es : List Expr} {pos : Pos}
theorem jg_name {i : Nat} {x : Str} (hN : X.N.Nodup) (hi : X.N[i]? = some x := by rfl) (hx : Loc X.env.scope x := by exact Or.inl rfl) (hf : X.fn x = true ∨ X.env.scope.names.lookup x = some .local := by first | exact .inl rfl | exact .inr rfl | assumption) : JG X (.Name x pos) (.nm i) := pg_name hN hi hx hf
theorem jg_tup {k : Nat} {l : List Nat} (hc : X.calm = true) (h : PGs X es (gNames l)) (hn : (assignEach es X.env).length = l.length := by rfl) (hst : (assignEach es X.env).findIdx? (·.1) = none := by rfl) : JG X (.Tuple es k pos) (.tup l) := pg_tup hc h hn hst
theorem jgs_nil : PGs X [] (gNames []) := pgs_nil
theorem jgs_cons {i : Nat} {x : Str} {l : List Nat} {p : Pos} (hN : X.N.Nodup) (h2 : PGs X es (gNames l)) (hi : X.N[i]? = some x := by rfl) (hx : Loc X.env.scope x := by exact Or.inl rfl) (hf : X.fn x = true ∨ X.env.scope.names.lookup x = some .local := by first | exact .inl rfl | exact .inr rfl | assumption)
    (hs : (assignEach (.Name x p :: es) X.env).map (·.2) = assign (.Name x p) X.env :: (assignEach es X.env).map (·.2) := by rfl) : PGs X (.Name x p :: es) (gNames (i :: l)) := pgs_cons (pg_name hN hi hx hf) h2 hs
def seqP : Da → Option (List Da)
  | .lst l => some l
  | .flst l => some l
  | .tup l => some l
  | _ => none
def iSeq (f : EM D) : EM (List Da) := fun ρ S => (f ρ S).bind fun d S1 => match d with
  | .v p => (match seqP p with
    | some l => .ok l S1
    | none => .bad)
  | .o _ => .bad
theorem walk_seqL {K : PySem.W.Frag} {z m : List Addr} {S : List Cell} {H : Hp} {l : List Da} {vs : List V} {a : Addr} (R : RelS K z m S H) (h : ∀ z1 m1 H1, Ext z m H z1 m1 H1 → SqL K H1 a vs) (r : RPs K z H l vs) : RW K z m H l (Itl K a) := by
  have w := walk_list (K := K) (a := a) (xs := vs)
  rw [← r.len] at w
  refine w.mono (fun H1 ⟨z1, m1, S1, x, s⟩ => h z1 m1 H1 x) fun i H1 x H2 hi g ⟨e1, e2⟩ => ?_
  subst e1
  obtain ⟨d, hd, _⟩ := r.getV e2
  refine ⟨.refl _, d, hd, fun z1 m1 S1 x1 s1 => ?_⟩
  obtain ⟨v, hv, hr⟩ := (r.ext R x1).get hd
  rw [e2] at hv; cases hv
  exact hr
theorem walk_seqT {K : PySem.W.Frag} {z m : List Addr} {S : List Cell} {H : Hp} {l : List Da} {vs : List V} {a : Addr} (R : RelS K z m S H) (h : SqT K H a vs) (r : RPs K z H l vs) : RW K z m H l (Itt K a) := by
  have w := walk_tup (K := K) (a := a) (xs := vs)
  rw [← r.len] at w
  refine w.mono (fun H1 ⟨z1, m1, S1, x, s⟩ => x.keep.sqT h) fun i H1 x H2 hi g ⟨e1, e2⟩ => ?_
  subst e1
  obtain ⟨d, hd, _⟩ := r.getV e2
  refine ⟨.refl _, d, hd, fun z1 m1 S1 x1 s1 => ?_⟩
  obtain ⟨v, hv, hr⟩ := (r.ext R x1).get hd
  rw [e2] at hv; cases hv
  exact hr
theorem ji_seq {f : EM D} (ha : JE X W a f) : JI X W tg a (iSeq f) := by
  refine pi_imp (pi_or (pi_list ha) (pi_tup ha)) fun σ H Q ⟨z, m, S, ρ, hS, hE, h⟩ => ?_
  cases e : f ρ S with
  | bad => unfold iSeq at h; rw [e] at h; exact h.elim
  | err C fs S1 =>
    unfold iSeq at h; rw [e] at h
    exact .inl ⟨z, m, S, ρ, hS, hE, by rw [e]; exact h⟩
  | ok d S1 =>
    unfold iSeq at h
    cases d with
    | o n => rw [e] at h; exact h.elim
    | v p =>
      cases p with
      | lst l =>
        refine .inl (tG_intro hS hE h fun d S2 z1 m1 H1 v e1 x1 s1 E1 r1 h1 => ?_)
        rw [e] at e1; cases e1
        cases r1 with
        | lst g1 g2 g3 => exact ⟨_, rfl, ⟨_, SqL.of g1⟩, h1 z1 m1 H1 _ .refl s1 (walk_seqL s1 (fun z2 m2 H2 x2 => SqL.of (x2.keep _ _ g1 (.inl ⟨fun q => g2 (s1.sub _ q), trivial⟩))) g3)⟩
      | flst l =>
        refine .inl (tG_intro hS hE h fun d S2 z1 m1 H1 v e1 x1 s1 E1 r1 h1 => ?_)
        rw [e] at e1; cases e1
        cases r1 with
        | flst g1 g3 => exact ⟨_, rfl, ⟨_, g1.sq⟩, h1 z1 m1 H1 _ .refl s1 (walk_seqL s1 (fun z2 m2 H2 x2 => (x2.keep.fz g1).sq) g3)⟩
      | tup l =>
        refine .inr (tG_intro hS hE h fun d S2 z1 m1 H1 v e1 x1 s1 E1 r1 h1 => ?_)
        rw [e] at e1; cases e1
        cases r1 with
        | tup g1 g3 => exact ⟨_, rfl, ⟨_, g1⟩, h1 z1 m1 H1 _ .refl s1 (walk_seqT s1 g1 g3)⟩
      | non => rw [e] at h; exact h.elim
      | bl b => rw [e] at h; exact h.elim
      | int i => rw [e] at h; exact h.elim
      | str x => rw [e] at h; exact h.elim
      | dct k v => rw [e] at h; exact h.elim
      | dck k v => rw [e] at h; exact h.elim
      | ref a => rw [e] at h; exact h.elim
      | ty n => rw [e] at h; exact h.elim
def rngD (lo : Int) (n : Nat) : List Da := (List.range n).map fun i => .int (lo + (i : Nat))
def smallI (i : Int) : Bool := decide (-(2 ^ 62) ≤ i) && decide (i < 2 ^ 62)
def iRange1 (f : EM (List D)) : EM (List Da) := fun ρ S => (f ρ S).bind fun ds S1 => match ds with
  | [.v (.int j)] => if smallI j = true then .ok (rngD 0 j.toNat) S1 else .bad
  | _ => .bad
def iRange2 (f : EM (List D)) : EM (List Da) := fun ρ S => (f ρ S).bind fun ds S1 => match ds with
  | [.v (.int i), .v (.int j)] => if (smallI i && smallI j) = true then .ok (rngD i (j - i).toNat) S1 else .bad
  | _ => .bad
theorem rngD_len (lo : Int) (n : Nat) : (rngD lo n).length = n := by unfold rngD; rw [List.length_map, List.length_range]
theorem rngD_get {lo : Int} {n i : Nat} (h : i < n) : (rngD lo n)[i]? = some (.int (lo + (i : Nat))) := by
  unfold rngD
  rw [List.getElem?_map, List.getElem?_range h] <;> rfl
theorem walk_rng {K : PySem.W.Frag} {z m : List Addr} {H : Hp} (lo : Int) (n : Nat) : RW K z m H (rngD lo n) (Itr lo n) := by
  have w := walk_range (lo := lo) (n := n)
  unfold RW
  rw [rngD_len]
  refine w.mono (fun _ _ => trivial) fun i H1 x H2 hi g ⟨e1, e2⟩ => ?_
  subst e1; subst e2
  exact ⟨.refl _, _, rngD_get hi, fun _ _ _ _ _ => .int _⟩
theorem smallI_of {i : Int} (h : smallI i = true) : -(2 ^ 62) ≤ i ∧ i < 2 ^ 62 := by
  unfold smallI at h
  rw [Bool.and_eq_true] at h
  exact ⟨of_decide_eq_true h.1, of_decide_eq_true h.2⟩
theorem ji_range1 {f : EM (List D)} {p : Pos} (hm : X.mg "range" = none) (ha : JA X W [a] f) (hg : Gl X "range" := by rfl) (hs : starEach [a] X.env = [(false, eval a X.env)] := by rfl) : JI X W tg (.Call (.Name "range" p) [a] [] pos) (iRange1 f) := by
  refine pi_imp (pi_range1 hg hm ha hs) fun σ H Q ⟨z, m, S, ρ, hS, hE, h⟩ => ?_
  refine tG_intro hS hE h fun ds S1 z1 m1 H1 vs e1 x1 s1 E1 r1 h1 => ?_
  split at h1
  · cases r1 with | cons q1 q2 =>
    cases q2; cases q1
    split at h1
    · rename_i j hj
      have := smallI_of hj
      exact ⟨j, rfl, this.1, this.2, h1 z1 m1 H1 _ .refl s1 (walk_rng 0 j.toNat)⟩
    · exact h1.elim
  · exact h1.elim
theorem ji_range2 {f : EM (List D)} {p : Pos} (hm : X.mg "range" = none) (ha : JA X W [a, b] f) (hg : Gl X "range" := by rfl) (hs : starEach [a, b] X.env = [(false, eval a X.env), (false, eval b X.env)] := by rfl) (hs2 : starEach [b] X.env = [(false, eval b X.env)] := by rfl) : JI X W tg (.Call (.Name "range" p) [a, b] [] pos) (iRange2 f) := by
  refine pi_imp (pi_range2 hg hm ha hs hs2) fun σ H Q ⟨z, m, S, ρ, hS, hE, h⟩ => ?_
  refine tG_intro hS hE h fun ds S1 z1 m1 H1 vs e1 x1 s1 E1 r1 h1 => ?_
  split at h1
  · cases r1 with | cons q1 q2 =>
    cases q2 with | cons q3 q4 =>
    cases q4; cases q1; cases q3
    split at h1
    · rename_i i j hj
      rw [Bool.and_eq_true] at hj
      have a1 := smallI_of hj.1
      have a2 := smallI_of hj.2
      exact ⟨i, j, rfl, ⟨a1.1, a1.2, a2.1, a2.2⟩, h1 z1 m1 H1 _ .refl s1 (walk_rng i (j - i).toNat)⟩
    · exact h1.elim
  · exact h1.elim
end
end FL
end
section
namespace FL
open PySem PySem.Spec PyProof.Rows L2
variable [TabsOf]
abbrev W0 : WX := fun _ _ _ _ => False
section
variable {K : PySem.W.Frag} {z z' m m' : List Addr} {H H' : Hp} {S : List Cell}
/-- a place that is forbidden, and no object of the store, is written -/
theorem keep_updz {D : Addr} {vs : List V} {o : HO} (hz : D ∈ z) (hD : H D = some (.lst vs)) : Keep z H (upd H D o) := fun a u e h => by
  have : a ≠ D := fun q => by
    subst q
    rw [hD] at e; cases e
    rcases h with h | h
    · exact h.1 hz
    · exact h
  rw [upd_ne this]; exact e
theorem RP.updz {D : Addr} {vs : List V} {o : HO} (hz : D ∈ z) (hD : H D = some (.lst vs)) {p : Da} {v : V} (h : RP K z H p v) : RP K z (upd H D o) p v := RP.mono (keep_updz hz hD) (fun a h1 h2 => absurd h1 h2) p v h
theorem RPs.updz {D : Addr} {vs : List V} {o : HO} (hz : D ∈ z) (hD : H D = some (.lst vs)) {p : List Da} {v : List V} (h : RPs K z H p v) : RPs K z (upd H D o) p v := RPs.mono (keep_updz hz hD) (fun a h1 h2 => absurd h1 h2) p v h
theorem RD.updz {D : Addr} {vs : List V} {o : HO} (hz : D ∈ z) (hD : H D = some (.lst vs)) {d : FL.D} {v : V} (h : RD K z m H d v) : RD K z m (upd H D o) d v := by
  cases d with
  | v p => exact RP.updz hz hD h
  | o n => exact h
theorem RFs.updz {D : Addr} {vs : List V} {o : HO} (hz : D ∈ z) (hD : H D = some (.lst vs)) : ∀ {ds : List (Str × FL.D)} {ws : List (Str × V)}, RFs K z m H ds ws → RFs K z m (upd H D o) ds ws
  | _, _, .nil => .nil
  | _, _, .cons h t => .cons (RD.updz hz hD h) (RFs.updz hz hD t)
theorem RelS.updz {D : Addr} {vs : List V} {o : HO} (R : RelS K z m S H) (hz : D ∈ z) (hm : D ∉ m) (hD : H D = some (.lst vs)) (ko : NTb o := by first | trivial | (unfold dRaw; trivial)) : RelS K z m S (upd H D o) where
  len := R.len
  nd := R.nd
  sub := R.sub
  live := fun a h n => R.live a h (n.upd ko)
  cell := fun i a c h1 h2 => by
    have ne : a ≠ D := fun q => hm (by rw [← q]; exact List.mem_of_getElem? h1)
    cases R.cell i a c h1 h2 with
    | lst g1 g2 => exact .lst (by rw [upd_ne ne]; exact g1) (g2.updz hz hD)
    | dK g1 g2 g3 => exact .dK (by rw [upd_ne ne]; exact g1) g2 (g3.updz hz hD)
    | dR g1 g2 g3 => exact .dR (by rw [upd_ne ne]; exact g1) (g2.keep (keep_updz hz hD)) (g3.updz hz hD)
    | ins g1 g2 => exact .ins (by rw [upd_ne ne]; exact g1) (g2.updz hz hD)
    | gone => exact .gone
  tabs := tabs_upd R.tabs (fun ps e => by rw [hD] at e; cases e) (fun q e => by rw [hD] at e; unfold LamX.CodeO at e; cases e)
/-- a forbidden place more -/
theorem RP.morez {D : Addr} (hn : H D = none) {o : HO} {p : Da} {v : V} (h : RP K z H p v) : RP K (z ++ [D]) (upd H D o) p v :=
  RP.mono (Same.keep (same_upd hn)) (fun a h1 h2 => by rcases List.mem_append.mp h1 with h1 | h1; exact absurd h1 h2; simp at h1; rw [h1]; exact .of hn) p v h
theorem RPs.morez {D : Addr} (hn : H D = none) {o : HO} {p : List Da} {v : List V} (h : RPs K z H p v) : RPs K (z ++ [D]) (upd H D o) p v := h.newz hn
theorem RD.morez {D : Addr} (hn : H D = none) {o : HO} {d : FL.D} {v : V} (h : RD K z m H d v) : RD K (z ++ [D]) m (upd H D o) d v := by
  cases d with
  | v p => exact RP.morez hn h
  | o n => exact h
theorem RFs.morez {D : Addr} (hn : H D = none) {o : HO} : ∀ {ds : List (Str × FL.D)} {ws : List (Str × V)}, RFs K z m H ds ws → RFs K (z ++ [D]) m (upd H D o) ds ws
  | _, _, .nil => .nil
  | _, _, .cons h t => .cons (RD.morez hn h) (RFs.morez hn t)
theorem RelS.morez {D : Addr} {o : HO} (R : RelS K z m S H) (hn : H D = none) (ko : NTb o := by first | trivial | (unfold dRaw; trivial)) : RelS K (z ++ [D]) m S (upd H D o) where
  len := R.len
  nd := R.nd
  sub := fun a h => List.mem_append_left _ (R.sub a h)
  live := fun a h => by
    rcases List.mem_append.mp h with h | h
    · exact fun n => R.live a h (Same.back (same_upd hn) a n)
    · simp at h; rw [h]; exact fun n => n _ upd_same ko
  cell := fun i a c h1 h2 => by
    cases R.cell i a c h1 h2 with
    | lst g1 g2 => exact .lst (same_upd hn _ _ g1) (g2.morez hn)
    | dK g1 g2 g3 => exact .dK (same_upd hn _ _ g1) g2 (g3.morez hn)
    | dR g1 g2 g3 => exact .dR (same_upd hn _ _ g1) (g2.keep (z := z) (Same.keep (same_upd hn))) (g3.morez hn)
    | ins g1 g2 => exact .ins (same_upd hn _ _ g1) (g2.morez hn)
    | gone => exact .gone
  tabs := R.tabs.ext (same_upd hn)
theorem Ext.morez {D : Addr} {o : HO} (hn : H D = none) : Ext z m H (z ++ [D]) m (upd H D o) :=
  ⟨⟨[D], rfl, fun a h => by simp at h; rw [h]; exact .of hn⟩, ⟨[], by simp, by simp⟩, Same.keep (same_upd hn), Same.back (same_upd hn)⟩
/-- fewer forbidden places -/
theorem RP.lessz (hs : ∀ a, a ∈ z' → a ∈ z) {p : Da} {v : V} (h : RP K z H p v) : RP K z' H p v := RP.mono (Keep.refl _ _) (fun a h1 h2 => absurd (hs a h1) h2) p v h
theorem RPs.lessz (hs : ∀ a, a ∈ z' → a ∈ z) {p : List Da} {v : List V} (h : RPs K z H p v) : RPs K z' H p v := RPs.mono (Keep.refl _ _) (fun a h1 h2 => absurd (hs a h1) h2) p v h
theorem RD.lessz (hs : ∀ a, a ∈ z' → a ∈ z) {d : FL.D} {v : V} (h : RD K z m H d v) : RD K z' m H d v := by
  cases d with
  | v p => exact RP.lessz hs h
  | o n => exact h
theorem RFs.lessz (hs : ∀ a, a ∈ z' → a ∈ z) : ∀ {ds : List (Str × FL.D)} {ws : List (Str × V)}, RFs K z m H ds ws → RFs K z' m H ds ws
  | _, _, .nil => .nil
  | _, _, .cons h t => .cons (RD.lessz hs h) (RFs.lessz hs t)
theorem RelS.lessz (R : RelS K z m S H) (hs : ∀ a, a ∈ z' → a ∈ z) (hm : ∀ a, a ∈ m → a ∈ z') : RelS K z' m S H where
  len := R.len
  nd := R.nd
  sub := hm
  live := fun a h => R.live a (hs a h)
  cell := fun i a c h1 h2 => by
    cases R.cell i a c h1 h2 with
    | lst g1 g2 => exact .lst g1 (g2.lessz hs)
    | dK g1 g2 g3 => exact .dK g1 g2 (g3.lessz hs)
    | dR g1 g2 g3 => exact .dR g1 g2 (g3.lessz hs)
    | ins g1 g2 => exact .ins g1 (g2.lessz hs)
    | gone => exact .gone
  tabs := R.tabs
theorem Ext.updz {D : Addr} {o : HO} (e : Ext z m H z' m' H') (hn : NewA H D) : Ext z m H z' m' (upd H' D o) :=
  ⟨e.ze, e.me, fun a u q h => by rw [upd_ne (fun c => by subst c; exact hn u q (ntb_of h))]; exact e.keep a u q h, fun a h => by
    by_cases q : a = D
    · rw [q]; exact hn
    · exact e.live a fun o e k => h o (by rw [upd_ne q]; exact e) k⟩
theorem Ext.drop {D : Addr} (e : Ext z m H z' m' H') (hn : D ∉ z) : Ext z m H (z'.filter fun a => decide (a ≠ D)) m' H' := by
  obtain ⟨t, rfl, ht⟩ := e.ze
  refine ⟨⟨t.filter fun a => decide (a ≠ D), ?_, fun a h => ht a (List.mem_filter.mp h).1⟩, e.me, e.keep, e.live⟩
  rw [List.filter_append]
  congr 1
  exact List.filter_eq_self.mpr fun a h => by
    simp only [decide_eq_true_eq]
    exact fun q => hn (by rw [← q]; exact h)
end
def lcLoop (T : Tg) (test : EM Bool) (elt : EM D) : List Da → Rho → List Cell → List Da → ER (List Da)
  | [], _, S, acc => .ok acc S
  | d :: r, ρ, S, acc => match tgSet T d ρ with
    | none => .bad
    | some ρ1 => match test ρ1 S with
      | .ok b S1 => if b = true then (match elt ρ1 S1 with
          | .ok (.v p) S2 => lcLoop T test elt r ρ S2 (acc ++ [p])
          | _ => .bad) else lcLoop T test elt r ρ S1 acc
      | _ => .bad
def eYes : EM Bool := fun _ S => .ok true S
def eLc (it : EM (List Da)) (T : Tg) (test : EM Bool) (elt : EM D) (ws : List Nat) : EM D := fun ρ S => (it ρ S).bind fun l S1 => if l.length ≤ 1000000 then
    (match lcLoop T test elt l (wipeR ρ ws) S1 [] with
      | .ok r S2 => .ok (.v (.lst r)) S2
      | _ => .bad) else .bad
def JTs (X : Cx) (ifs : List Expr) (f : EM Bool) : Prop := PTs X ifs (tT X.K W0 f)
section
variable {X : Cx} {W : WX} {a b c e : Expr} {es : List Expr} {pos : Pos}
theorem pts_imp {ifs : List Expr} {t t' : TT} (h : PTs X ifs t) (i : ∀ σ H Q, t' σ H Q → t σ H Q) : PTs X ifs t' := ⟨fun pins s σ H Q I q => h.run pins s σ H Q I (i σ H Q q)⟩
theorem jts_nil : JTs X [] eYes := pts_imp pts_nil fun σ H Q ⟨z, m, S, ρ, hS, hE, h⟩ => h z m H true .refl hS rfl
theorem jts_one {c : Expr} {f : EM Bool} (h : JT X W0 c f) : JTs X [c] f := pts_one h
theorem tLc_of {K : PySem.W.Frag} {it : EM (List Da)} {T : Tg} {test : EM Bool} {elt : EM D} {ws : List Nat} {σ : L2.St} {H : Hp} {Q : VK} (hw : ∀ i, i ∈ T.slots → i ∈ ws) (h : tE K W (eLc it T test elt ws) σ H Q) :
    tLc (tG K W (RW K) it) (gRead K T) (tT K W0 test) (tE K W0 elt) ws σ H Q := by
  obtain ⟨z, m, S, ρ, hS, hE, h⟩ := h
  refine tG_intro hS hE h fun l S1 z1 m1 H1 J e1 x1 s1 E1 walk h1 => ?_
  intro D hD
  have hl : l.length ≤ 1000000 := by
    by_cases c : l.length ≤ 1000000
    · exact c
    · rw [if_neg c] at h1; exact h1.elim
  rw [if_pos hl] at h1
  have nz : D ∉ z1 := s1.fresh hD
  refine lc_it walk (fun i H' => ∃ z2 m2 S2 acc vs, Ext z1 m1 H1 z2 m2 H' ∧ D ∈ z2 ∧ D ∉ m2 ∧ RelS K z2 m2 S2 H' ∧ H' D = some (.lst vs) ∧ RPs K z2 H' acc vs ∧ acc.length ≤ i ∧
    PostE K W (fun z m H => RD K z m H) z1 m1 H1 σ (match lcLoop T test elt (l.drop i) (wipeR ρ ws) S2 acc with
      | .ok r S2 => .ok (.v (.lst r)) S2
      | _ => .bad) Q) ?_ ?_ ?_ ?_
  · exact ⟨z1 ++ [D], m1, S1, [], [], .morez hD, by simp, fun q => nz (s1.sub D q), s1.morez hD, upd_same, .nil, Nat.le_refl _, by rw [List.drop_zero]; exact h1⟩
  · rintro i H' _ ⟨z2, m2, S2, acc, vs, x2, _, _, s2, _⟩
    exact ⟨z2, m2, S2, x2, s2⟩
  · rintro i x H' H2 hi ⟨z2, m2, S2, acc, vs, x2, dz, dm, s2, hd2, ra, la, post⟩ ⟨sm, d, hd, hx⟩
    have E2 : RelE K z2 m2 H2 (wipeR ρ ws) (wipe σ ws) := ((E1.ext s1 x2).same sm).wipe ws
    have rx := hx z2 m2 S2 x2 s2
    have ed : l.drop i = d :: l.drop (i + 1) := by
      have hi' : i < l.length := (List.getElem?_eq_some_iff.mp hd).1
      rw [List.drop_eq_getElem_cons hi']
      rw [List.getElem?_eq_getElem hi'] at hd; cases hd
      rfl
    rw [ed] at post
    unfold lcLoop at post
    cases c1 : tgSet T d (wipeR ρ ws) with
    | none => simp only [c1] at post; exact post.elim
    | some ρ1 =>
      simp only [c1] at post
      refine gRead_ok rx E2 c1 fun σ2 E3 hwp => ⟨by rw [hwp ws hw, wipe_wipe], ?_⟩
      refine ⟨z2, m2, S2, ρ1, s2.same sm, E3, ?_⟩
      cases c2 : test ρ1 S2 with
      | bad => simp only [c2] at post; exact post.elim
      | err C fs S3 => simp only [c2] at post; exact post.elim
      | ok b S3 =>
        simp only [c2] at post
        intro z3 m3 H3 b' x3 s3 eb
        subst eb
        have x23 := x2.trans ((Same.ext (z := z2) (m := m2) sm).trans x3)
        have dz3 : D ∈ z3 := by obtain ⟨t, rfl, _⟩ := x3.ze; exact List.mem_append_left _ dz
        have hd3 : H3 D = some (.lst vs) := x3.keep D _ (sm _ _ hd2) (.inl ⟨dm, trivial⟩)
        have dm3 : D ∉ m3 := by
          obtain ⟨t, rfl, ht⟩ := x3.me
          intro q
          rcases List.mem_append.mp q with q | q
          · exact dm q
          · exact ht D q _ (sm _ _ hd2) trivial
        have ra3 : RPs K z3 H3 acc vs := (ra.same sm).ext (s2.same sm) x3
        cases b with
        | false =>
          rw [if_neg Bool.false_ne_true] at post ⊢
          exact ⟨z3, m3, S3, acc, vs, x23, dz3, dm3, s3, hd3, ra3, Nat.le_succ_of_le la, post⟩
        | true =>
          rw [if_pos rfl] at post ⊢
          refine ⟨z3, m3, S3, ρ1, s3, E3.ext (s2.same sm) x3, ?_⟩
          cases c3 : elt ρ1 S3 with
          | bad => simp only [c3] at post; exact post.elim
          | err C fs S4 => simp only [c3] at post; exact post.elim
          | ok e S4 =>
            cases e with
            | o n => simp only [c3] at post; exact post.elim
            | v p =>
              simp only [c3] at post
              intro z4 m4 H4 y x4 s4 ry
              have dz4 : D ∈ z4 := by obtain ⟨t, rfl, _⟩ := x4.ze; exact List.mem_append_left _ dz3
              have hd4 : H4 D = some (.lst vs) := x4.keep D _ hd3 (.inl ⟨dm3, trivial⟩)
              have dm4 : D ∉ m4 := by
                obtain ⟨t, rfl, ht⟩ := x4.me
                intro q
                rcases List.mem_append.mp q with q | q
                · exact dm3 q
                · exact ht D q _ hd3 trivial
              have ra4 : RPs K z4 H4 acc vs := ra3.ext s3 x4
              refine ⟨vs, hd4, ?_, z4, m4, S4, acc ++ [p], vs ++ [y], (x23.trans x4).updz (.of hD), dz4, dm4, s4.updz dz4 dm4 hd4, upd_same, ?_, ?_, post⟩
              · rw [← ra4.len]
                have hi' : i < l.length := (List.getElem?_eq_some_iff.mp hd).1
                exact Nat.lt_of_lt_of_le (by omega) line_big
              · exact (ra4.append (.cons ry .nil)).updz dz4 hd4
              · rw [List.length_append]; simpa using la
  · rintro H' ⟨z2, m2, S2, acc, vs, x2, dz, dm, s2, hd2, ra, la, post⟩
    rw [List.drop_length] at post
    have post' : PostE K W (fun z m H => RD K z m H) z1 m1 H1 σ (.ok (.v (.lst acc)) S2) Q := post
    have hs : ∀ a, a ∈ (z2.filter fun a => decide (a ≠ D)) → a ∈ z2 := fun a h => (List.mem_filter.mp h).1
    refine post' (z2.filter fun a => decide (a ≠ D)) m2 H' _ (x2.drop nz) (s2.lessz hs fun a h => List.mem_filter.mpr ⟨s2.sub a h, decide_eq_true fun q => dm (by rw [← q]; exact h)⟩) ?_
    exact RP.lst hd2 (fun q => by simpa using (List.mem_filter.mp q).2) (ra.lessz hs)
theorem je_lc {elt tg iter : Expr} {ifs : List Expr} {scope : Scope} {own : List (Str × Nat)} {T : Tg} {it : EM (List Da)} {test : EM Bool} {f : EM D} (hN : X.N.Nodup) (hi : JI X W tg iter it) (hb : blkC X.N X.env.scope scope own = true)
    (hg : ∀ (s : Shared) (H : Hp) (C : Addr) (cl : List (Str × Addr)) (fp : List Addr), JG (X.blk s H scope (compEnvC scope cl C X.env) fp) tg T) (ht : ∀ (s : Shared) (H : Hp) (C : Addr) (cl : List (Str × Addr)) (fp : List Addr), JTs (X.blk s H scope (compEnvC scope cl C X.env) fp) ifs test)
    (he : ∀ (s : Shared) (H : Hp) (C : Addr) (cl : List (Str × Addr)) (fp : List Addr), JE (X.blk s H scope (compEnvC scope cl C X.env) fp) W0 elt f) (hw : ∀ i, i ∈ T.slots → i ∈ own.map (·.2) := by decide) (hc : X.calm = true := by rfl) (hs : ∀ x, foldedSetIterable iter X.env x = pure x := by intro _; rfl) :
    JE X W (.ListComp elt [⟨tg, iter, ifs, 0⟩] scope pos) (eLc it T test f (own.map (·.2))) :=
  pe_imp (pe_lc (g := gRead X.K T) (tt := tT X.K W0 test) (te := tE X.K W0 f) hc hN hi (blkOk_by hb) hg ht he hs) fun _ _ _ h => tLc_of hw h
inductive SR where
  | nx (ρ : Rho) (S : List Cell) | rt (d : D) (S : List Cell) | bk (ρ : Rho) (S : List Cell) | ct (ρ : Rho) (S : List Cell) | err (ρ : Rho) (C : Str) (fs : List (Str × D)) (S : List Cell) | bad
end
abbrev SM := Rho → List Cell → SR
def PostS (K : PySem.W.Frag) (W : WX) (z m : List Addr) (H : Hp) (r : SR) (D : Ends) : Prop := match r with
  | .nx ρ S => ∀ z' m' H' σ', Ext z m H z' m' H' → RelS K z' m' S H' → RelE K z' m' H' ρ σ' → D.nx σ' H'
  | .rt d S => ∀ z' m' H' v, Ext z m H z' m' H' → RelS K z' m' S H' → RD K z' m' H' d v → D.rt v H'
  | .bk ρ S => ∀ z' m' H' σ', Ext z m H z' m' H' → RelS K z' m' S H' → RelE K z' m' H' ρ σ' → D.bk σ' H'
  | .ct ρ S => ∀ z' m' H' σ', Ext z m H z' m' H' → RelS K z' m' S H' → RelE K z' m' H' ρ σ' → D.ct σ' H'
  | .err ρ C fs S => ∀ z' m' H' σ', Ext z m H z' m' H' → RelS K z' m' S H' → RelE K z' m' H' ρ σ' → EOk K z' m' H' C fs fun c d => W c d σ' H'
  | .bad => False
def tS (K : PySem.W.Frag) (W : WX) (f : SM) : TS := fun D σ H => ∃ z m S ρ, RelS K z m S H ∧ RelE K z m H ρ σ ∧ PostS K W z m H (f ρ S) D
def JS (X : Cx) (W : WX) (st : Stmt) (f : SM) : Prop := PS X st (tS X.K W f)
def JSs (X : Cx) (W : WX) (st : List Stmt) (f : SM) : Prop := PSs X st (tS X.K W f)
theorem PostS.ext {K : PySem.W.Frag} {W : WX} {z m z' m' : List Addr} {H H' : Hp} {r : SR} {D : Ends} (h : PostS K W z m H r D) (e : Ext z m H z' m' H') : PostS K W z' m' H' r D := by
  cases r with
  | nx ρ S => exact fun z2 m2 H2 σ f => h z2 m2 H2 σ (e.trans f)
  | rt ρ S => exact fun z2 m2 H2 σ f => h z2 m2 H2 σ (e.trans f)
  | bk ρ S => exact fun z2 m2 H2 σ f => h z2 m2 H2 σ (e.trans f)
  | ct ρ S => exact fun z2 m2 H2 σ f => h z2 m2 H2 σ (e.trans f)
  | err ρ C fs S => exact fun z2 m2 H2 σ f => h z2 m2 H2 σ (e.trans f)
  | bad => exact h
/-- an expression, then the rest -/
def sThen {α : Type} (f : EM α) (k : α → SM) : SM := fun ρ S => match f ρ S with
  | .ok a S1 => k a ρ S1
  | .err C fs S1 => .err ρ C fs S1
  | .bad => .bad
theorem tS_intro {α β : Type} {K : PySem.W.Frag} {W : WX} {z m : List Addr} {H : Hp} {R : List Addr → List Addr → Hp → α → β → Prop} {f : EM α} {k : α → SM} {ρ : Rho} {S : List Cell} {σ : L2.St} {D : Ends} {Q' : β → Hp → Prop}
    (hS : RelS K z m S H) (hE : RelE K z m H ρ σ) (h : PostS K W z m H (sThen f k ρ S) D)
    (hq : ∀ a S1 z1 m1 H1 b, f ρ S = .ok a S1 → Ext z m H z1 m1 H1 → RelS K z1 m1 S1 H1 → RelE K z1 m1 H1 ρ σ → R z1 m1 H1 a b → PostS K W z1 m1 H1 (k a ρ S1) D → Q' b H1) : tG K W R f σ H Q' := by
  refine ⟨z, m, S, ρ, hS, hE, ?_⟩
  unfold sThen at h
  cases e : f ρ S with
  | ok a S1 =>
    rw [e] at h
    exact fun z1 m1 H1 b x s r => hq a S1 z1 m1 H1 b e x s (hE.ext hS x) r (h.ext x)
  | err C fs S1 =>
    rw [e] at h
    exact fun z' m' H' x s => h z' m' H' σ x s (hE.ext hS x)
  | bad => rw [e] at h; exact h
def sNext : SM := fun ρ S => .nx ρ S
def sSeq (f g : SM) : SM := fun ρ S => match f ρ S with
  | .nx ρ1 S1 => g ρ1 S1
  | r => r
def sRet (f : EM D) : SM := sThen f fun d _ S => .rt d S
def sDrop (f : EM D) : SM := sThen f fun _ ρ S => .nx ρ S
def sSet (i : Nat) (f : EM D) : SM := sThen f fun d ρ S => .nx (ρ.set i (some d)) S
def sIf (t : EM Bool) (f g : SM) : SM := sThen t fun b ρ S => if b = true then f ρ S else g ρ S
section
variable {X : Cx} {W : WX} {a b c e : Expr} {es : List Expr} {pos : Pos} {st : Stmt} {rest : List Stmt}
theorem jss_nil : JSs X W [] sNext := pss_imp pss_nil fun D σ H ⟨z, m, S, ρ, hS, hE, h⟩ => h z m H σ .refl hS hE
theorem jss_cons {f g : SM} (h1 : JS X W st f) (h2 : JSs X W rest g) : JSs X W (st :: rest) (sSeq f g) := by
  refine pss_imp (pss_cons h1 h2) fun D σ H ⟨z, m, S, ρ, hS, hE, h⟩ => ?_
  refine ⟨z, m, S, ρ, hS, hE, ?_⟩
  unfold sSeq at h
  cases c : f ρ S with
  | nx ρ1 S1 =>
    rw [c] at h
    exact fun z' m' H' σ' x s E => ⟨z', m', S1, ρ1, s, E, h.ext x⟩
  | rt d S1 => rw [c] at h; exact h
  | bk ρ1 S1 => rw [c] at h; exact h
  | ct ρ1 S1 => rw [c] at h; exact h
  | err ρ1 C fs S1 => rw [c] at h; exact h
  | bad => rw [c] at h; exact h
theorem jss_one {f : SM} (h1 : JS X W st f) : JSs X W [st] f := pss_one h1
/-- code that is never come to -/
def sBad : SM := fun _ _ => .bad
theorem js_never : JS X W st sBad := ps_imp ps_never fun D σ H ⟨z, m, S, ρ, hS, hE, h⟩ => h
theorem js_ret {f : EM D} (he : JE X W e f) : JS X W (.Return (some e) pos) (sRet f) := by
  refine ps_imp (ps_ret he) fun D σ H ⟨z, m, S, ρ, hS, hE, h⟩ => ?_
  exact tS_intro hS hE h fun d S1 z1 m1 H1 v e1 x1 s1 E1 r1 h1 => h1 z1 m1 H1 v .refl s1 r1
theorem js_expr {f : EM D} (he : JE X W e f) (hs : swapsWith e none pos.line X.env = pure false := by rfl) : JS X W (.Expr e pos) (sDrop f) := by
  refine ps_imp (ps_expr he hs) fun D σ H ⟨z, m, S, ρ, hS, hE, h⟩ => ?_
  exact tS_intro hS hE h fun d S1 z1 m1 H1 v e1 x1 s1 E1 r1 h1 => h1 z1 m1 H1 σ .refl s1 E1
theorem js_set {i : Nat} {x : Str} {f : EM D} {pos' : Pos} (hN : X.N.Nodup) (he : JE X W e f) (hi : X.N[i]? = some x := by rfl) (hx : Loc X.env.scope x := by first | exact Or.inl rfl | exact Or.inr rfl) (hs : swapsWith e (some (.Name x pos')) pos.line X.env = pure false := by rfl)
    (hf : X.fn x = true ∨ X.env.scope.names.lookup x = some .local := by first | exact .inl rfl | exact .inr rfl | assumption) : JS X W (.Assign [.Name x pos'] e pos) (sSet i f) := by
  refine ps_imp (ps_set hN hi hx he hs hf) fun D σ H ⟨z, m, S, ρ, hS, hE, h⟩ => ?_
  exact tS_intro hS hE h fun d S1 z1 m1 H1 v e1 x1 s1 E1 r1 h1 => h1 z1 m1 H1 _ .refl s1 (E1.set r1 i)
theorem js_if {t : EM Bool} {f g : SM} {as bs : List Stmt} (hc : JT X W c t) (ha : JSs X W as f) (hb : JSs X W bs g) : JS X W (.If c as bs pos) (sIf t f g) := by
  refine ps_imp (ps_if hc ha hb) fun D σ H ⟨z, m, S, ρ, hS, hE, h⟩ => ?_
  refine tS_intro hS hE h fun d S1 z1 m1 H1 v e1 x1 s1 E1 r1 h1 => ?_
  subst r1
  cases d with
  | true => rw [if_pos rfl] at h1 ⊢; exact ⟨z1, m1, S1, ρ, s1, E1, h1⟩
  | false => rw [if_neg Bool.false_ne_true] at h1 ⊢; exact ⟨z1, m1, S1, ρ, s1, E1, h1⟩
/-- a, b = e1, e2 -/
def sPar (i j : Nat) (f : EM (List D)) : SM := sThen f fun ds ρ S => match ds with
  | [d, d'] => .nx ((ρ.set i (some d)).set j (some d')) S
  | _ => .bad
theorem js_par {i j : Nat} {x y : Str} {f : EM (List D)} {px py pt : Pos} {kt k2 pt2} (hN : X.N.Nodup) (hij : i ≠ j) (ha : JA X W [a, b] f) (hw : swappedStores [.Tuple [.Name x px, .Name y py] kt pt] (.Tuple [a, b] k2 pt2) X.env = pure (some [x, y]))
    (hc : X.calm = true := by rfl) (hi : X.N[i]? = some x := by rfl) (hj : X.N[j]? = some y := by rfl) (hx : X.env.scope.names.lookup x = some .local := by rfl) (hy : X.env.scope.names.lookup y = some .local := by rfl) (hs : swapsWithSole [.Tuple [.Name x px, .Name y py] kt pt] (.Tuple [a, b] k2 pt2) pos.line X.env = pure false := by rfl) :
    JS X W (.Assign [.Tuple [.Name x px, .Name y py] kt pt] (.Tuple [a, b] k2 pt2) pos) (sPar i j f) := by
  refine ps_imp (ps_par hc hN hi hj hij hx hy ha hw hs) fun D σ H ⟨z, m, S, ρ, hS, hE, h⟩ => ?_
  refine tS_intro hS hE h fun ds S1 z1 m1 H1 vs e1 x1 s1 E1 r1 h1 => ?_
  split at h1
  · cases r1 with | cons q1 q2 =>
    cases q2 with | cons q3 q4 =>
    cases q4
    exact ⟨_, _, rfl, h1 z1 m1 H1 _ .refl s1 ((E1.set q1 i).set q3 j)⟩
  · exact h1.elim
/-- a, b, .. = a tuple -/
def sUnp (T : Tg) (f : EM D) : SM := sThen f fun d ρ S => match d with
  | .v p => (match tgSet T p ρ with
    | some ρ' => .nx ρ' S
    | none => .bad)
  | .o _ => .bad
theorem js_unp {tg : Expr} {T : Tg} {f : EM D} (he : JE X W e f) (hg : JG X tg T) (hs : swapsWithSole [tg] e pos.line X.env = pure false := by rfl) (hw : swappedStores [tg] e X.env = pure none := by rfl) (h1 : (assignEach [tg] X.env).map (·.2) = [assign tg X.env] := by rfl) : JS X W (.Assign [tg] e pos) (sUnp T f) := by
  refine ps_imp (ps_asg he hg hs hw h1) fun D σ H ⟨z, m, S, ρ, hS, hE, h⟩ => ?_
  refine tS_intro hS hE h fun d S1 z1 m1 H1 v e1 x1 s1 E1 r1 h1 => ?_
  split at h1
  · split at h1
    · rename_i c
      exact gRead_ok r1 E1 c fun σ' E' _ => h1 z1 m1 H1 σ' .refl s1 E'
    · exact h1.elim
  · exact h1.elim
def wLoop (t : EM Bool) (body : SM) : Nat → SM
  | 0 => fun _ _ => .bad
  | n + 1 => sThen t fun b ρ S => if b = true then (match body ρ S with
      | .nx ρ1 S1 => wLoop t body n ρ1 S1
      | .ct ρ1 S1 => wLoop t body n ρ1 S1
      | .bk ρ1 S1 => .nx ρ1 S1
      | r => r) else .nx ρ S
open Classical in
noncomputable def sWhile (t : EM Bool) (body : SM) : SM := fun ρ S => if h : ∃ n, wLoop t body n ρ S ≠ .bad then wLoop t body h.choose ρ S else .bad
theorem tWhile_of {K : PySem.W.Frag} {t : EM Bool} {body : SM} : ∀ (n : Nat) (D : Ends) (σ : L2.St) (H : Hp), tS K W (wLoop t body n) D σ H → tWhile (tT K W t) (tS K W body) D σ H := by
  intro n D σ H h
  refine ⟨fun k σ H => tS K W (wLoop t body k) D σ H, ⟨n, h⟩, fun k σ H hk => ?_⟩
  obtain ⟨z, m, S, ρ, hS, hE, h⟩ := hk
  cases k with
  | zero => exact h.elim
  | succ k =>
    refine tS_intro hS hE h fun b S1 z1 m1 H1 b' e1 x1 s1 E1 r1 h1 => ?_
    subst r1
    cases b with
    | false =>
      rw [if_neg Bool.false_ne_true] at h1 ⊢
      exact h1 z1 m1 H1 σ .refl s1 E1
    | true =>
      rw [if_pos rfl] at h1 ⊢
      refine ⟨fun σ' H' => tS K W (wLoop t body k) D σ' H', fun σ' H' q => ⟨k, Nat.lt_succ_self k, q⟩, z1, m1, S1, ρ, s1, E1, ?_⟩
      cases c : body ρ S1 with
      | nx ρ1 S2 => simp only [c] at h1; exact fun z' m' H' σ' x s E => ⟨z', m', S2, ρ1, s, E, h1.ext x⟩
      | ct ρ1 S2 => simp only [c] at h1; exact fun z' m' H' σ' x s E => ⟨z', m', S2, ρ1, s, E, h1.ext x⟩
      | bk ρ1 S2 => simp only [c] at h1; exact h1
      | rt d S2 => simp only [c] at h1; exact h1
      | err ρ1 C fs S2 => simp only [c] at h1; exact h1
      | bad => simp only [c] at h1; exact h1
theorem js_while {body : List Stmt} {t : EM Bool} {f : SM} (hp : PassesOwn (model X.prog X.w) X.A X.env X.xe) (hc : JT X W c t) (hb : JSs X W body f) : JS X W (.While c body [] pos) (sWhile t f) := by
  refine ps_imp (ps_while hp hc hb) fun D σ H ⟨z, m, S, ρ, hS, hE, h⟩ => ?_
  unfold sWhile at h
  split at h
  · rename_i hx
    exact tWhile_of hx.choose D σ H ⟨z, m, S, ρ, hS, hE, h⟩
  · exact h.elim
theorem wLoop_mono {t : EM Bool} {body : SM} : ∀ {n k : Nat} {ρ : Rho} {S : List Cell} {r : SR}, wLoop t body n ρ S = r → r ≠ .bad → n ≤ k → wLoop t body k ρ S = r
  | 0, k, ρ, S, r, h, hr, _ => absurd h.symm hr
  | n + 1, 0, _, _, _, _, _, hk => by omega
  | n + 1, k + 1, ρ, S, r, h, hr, hk => by
    unfold wLoop sThen at h ⊢
    cases c : t ρ S with
    | bad => rw [c] at h; exact h
    | err C fs S1 => rw [c] at h; exact h
    | ok b S1 =>
      rw [c] at h
      cases b with
      | false => simp only [if_neg Bool.false_ne_true] at h ⊢; exact h
      | true =>
        simp only [if_pos] at h ⊢
        cases c2 : body ρ S1 with
        | nx ρ1 S2 => simp only [c2] at h ⊢; exact wLoop_mono h hr (by omega)
        | ct ρ1 S2 => simp only [c2] at h ⊢; exact wLoop_mono h hr (by omega)
        | bk ρ1 S2 => simp only [c2] at h ⊢; exact h
        | rt d S2 => simp only [c2] at h ⊢; exact h
        | err ρ1 C fs S2 => simp only [c2] at h ⊢; exact h
        | bad => simp only [c2] at h ⊢; exact h
theorem sWhile_eq {t : EM Bool} {body : SM} {n : Nat} {ρ : Rho} {S : List Cell} {r : SR} (h : wLoop t body n ρ S = r) (hr : r ≠ .bad) : sWhile t body ρ S = r := by
  have hx : ∃ n, wLoop t body n ρ S ≠ .bad := ⟨n, by rw [h]; exact hr⟩
  unfold sWhile
  rw [dif_pos hx]
  rcases Nat.le_total n hx.choose with q | q
  · exact wLoop_mono h hr q
  · have := wLoop_mono (rfl : wLoop t body hx.choose ρ S = _) hx.choose_spec q
    rw [← this]; exact h
/-- one turn -/
theorem sWhile_step {t : EM Bool} {body : SM} {ρ ρ1 : Rho} {S S1 S2 : List Cell} (h1 : t ρ S = .ok true S1) (h2 : body ρ S1 = .nx ρ1 S2) : sWhile t body ρ S = sWhile t body ρ1 S2 := by
  have st : ∀ n, wLoop t body (n + 1) ρ S = wLoop t body n ρ1 S2 := fun n => by
    show sThen t _ ρ S = _
    unfold sThen
    rw [h1]
    simp only [if_pos, h2]
  by_cases hx : ∃ n, wLoop t body n ρ1 S2 ≠ .bad
  · obtain ⟨n, hn⟩ := hx
    rw [sWhile_eq (st n) hn, sWhile_eq rfl hn]
  · have h0 : ¬ ∃ n, wLoop t body n ρ S ≠ .bad := fun ⟨n, hn⟩ => by
      cases n with
      | zero => exact hn rfl
      | succ n => exact hx ⟨n, by rw [← st n]; exact hn⟩
    unfold sWhile
    rw [dif_neg hx, dif_neg h0]
theorem sWhile_end {t : EM Bool} {body : SM} {ρ : Rho} {S S1 : List Cell} (h1 : t ρ S = .ok false S1) : sWhile t body ρ S = .nx ρ S1 :=
  sWhile_eq (n := 1) (by
    show sThen t _ ρ S = _
    unfold sThen
    rw [h1]
    simp only [if_neg Bool.false_ne_true]) (by intro q; cases q)
def fLoop (T : Tg) (body : SM) : List Da → SM
  | [] => fun ρ S => .nx ρ S
  | d :: r => fun ρ S => match tgSet T d ρ with
    | none => .bad
    | some ρ1 => match body ρ1 S with
      | .nx ρ2 S2 => fLoop T body r ρ2 S2
      | .ct ρ2 S2 => fLoop T body r ρ2 S2
      | .bk ρ2 S2 => .nx ρ2 S2
      | r => r
def sFor (it : EM (List Da)) (T : Tg) (body : SM) : SM := sThen it fun l ρ S => fLoop T body l ρ S
theorem js_for {iter tg : Expr} {body : List Stmt} {it : EM (List Da)} {T : Tg} {f : SM} (hp : PassesOwn (model X.prog X.w) X.A X.env X.xe) (hi : JI X W tg iter it) (hg : JG X tg T) (hb : JSs X W body f) (hc : X.calm = true := by rfl) (hs : ∀ x, foldedSetIterable iter X.env x = pure x := by intro _; rfl) :
    JS X W (.For tg iter body [] pos) (sFor it T f) := by
  refine ps_imp (ps_for hp hc hi hg hb hs) fun D σ H ⟨z, m, S, ρ, hS, hE, h⟩ => ?_
  refine tS_intro hS hE h fun l S1 z1 m1 H1 J e1 x1 s1 E1 walk h1 => ?_
  refine for_it walk (fun i σ' H' => ∃ z2 m2 S2 ρ2, Ext z1 m1 H1 z2 m2 H' ∧ RelS X.K z2 m2 S2 H' ∧ RelE X.K z2 m2 H' ρ2 σ' ∧ PostS X.K W z2 m2 H' (fLoop T f (l.drop i) ρ2 S2) D) ?_ ?_ ?_ ?_
  · exact ⟨z1, m1, S1, ρ, .refl, s1, E1, by rw [List.drop_zero]; exact h1⟩
  · rintro i σ' H' _ ⟨z2, m2, S2, ρ2, x2, s2, _⟩
    exact ⟨z2, m2, S2, x2, s2⟩
  · rintro i x σ' H' H2 hi ⟨z2, m2, S2, ρ2, x2, s2, E2, post⟩ ⟨sm, d, hd, hx⟩
    have rx := hx z2 m2 S2 x2 s2
    have ed : l.drop i = d :: l.drop (i + 1) := by
      have hi' : i < l.length := (List.getElem?_eq_some_iff.mp hd).1
      rw [List.drop_eq_getElem_cons hi']
      rw [List.getElem?_eq_getElem hi'] at hd; cases hd
      rfl
    rw [ed] at post
    unfold fLoop at post
    cases c1 : tgSet T d ρ2 with
    | none => simp only [c1] at post; exact post.elim
    | some ρ1 =>
      simp only [c1] at post
      refine gRead_ok rx (E2.same sm) c1 fun σ3 E3 _ => ?_
      refine ⟨z2, m2, S2, ρ1, s2.same sm, E3, ?_⟩
      have post' := post.ext (Same.ext (z := z2) (m := m2) sm)
      have xs : Ext z1 m1 H1 z2 m2 H2 := x2.trans (Same.ext sm)
      cases c : f ρ1 S2 with
      | nx ρ3 S3 => simp only [c] at post'; exact fun z' m' H' σ' x s E => ⟨z', m', S3, ρ3, xs.trans x, s, E, post'.ext x⟩
      | ct ρ3 S3 => simp only [c] at post'; exact fun z' m' H' σ' x s E => ⟨z', m', S3, ρ3, xs.trans x, s, E, post'.ext x⟩
      | bk ρ3 S3 => simp only [c] at post'; exact post'
      | rt d S3 => simp only [c] at post'; exact post'
      | err ρ3 C fs S3 => simp only [c] at post'; exact post'
      | bad => simp only [c] at post'; exact post'
  · rintro σ' H' ⟨z2, m2, S2, ρ2, x2, s2, E2, post⟩
    rw [List.drop_length] at post
    exact post z2 m2 H' σ' .refl s2 E2
end
end FL
end
section
namespace FL
open PySem PySem.Spec PyProof.Rows L2
variable [TabsOf]
inductive RV where
  | v (p : Da) | o (n : Nat) | nl (l : List Da) | nd (ks vs : List Da)
abbrev Fn := List D → List Cell → ER RV
def closedC (k : Nat) : Cell → Bool
  | .ins _ fs => fs.all fun f => match f.2 with
    | .v _ => true
    | .o j => decide (j < k)
  | _ => true
def closedF (k : Nat) (fs : List (Str × D)) : Bool := fs.all fun f => match f.2 with
    | .v _ => true
    | .o j => decide (j < k)
/-- a def's end: the objects that it was not given are let go -/
def fin (k : Nat) (d : D) (S : List Cell) : ER RV := if (S.take k).all (closedC k) = true then (match d with
    | .v p => .ok (.v p) (S.take k)
    | .o j => if j < k then .ok (.o j) (S.take k) else match S[j]? with
      | some (.lst l) => .ok (.nl l) (S.take k)
      | some (.dct ks vs) => .ok (.nd ks vs) (S.take k)
      | _ => .bad) else .bad
def runDef (n N : Nat) (body : SM) : Fn := fun args S => if args.length = n then (match body (args.map some ++ List.replicate (N - n) none) S with
    | .rt d S1 => fin S.length d S1
    | .nx _ S1 => fin S.length (.v .non) S1
    | .err _ C fs S1 => if ((S1.take S.length).all (closedC S.length) && closedF S.length fs) = true then .err C fs (S1.take S.length) else .bad
    | _ => .bad) else .bad
/-- u, that stands at a, is a dict -/
def DctAt (K : PySem.W.Frag) (z : List Addr) (H : Hp) (a : Addr) (u : HO) (ks vs : List Da) : Prop :=
  ∃ xs, u = dRaw TabsOf.P TabsOf.w a xs ∧ RKs K H ks xs ∧ RPs K z H vs (xs.map (·.2.2))
def PostF (K : PySem.W.Frag) (z m : List Addr) (H : Hp) (r : ER RV) (Q : VK) (E : XK) : Prop := match r with
  | .ok (.v p) S' => ∀ H' v, Ext z m H z m H' → RelS K z m S' H' → RP K z H' p v → Q v H'
  | .ok (.o n) S' => ∀ H' a, Ext z m H z m H' → RelS K z m S' H' → m[n]? = some a → Q (.ref a) H'
  | .ok (.nl l) S' => ∀ H' a vs, Ext z m H z m H' → RelS K (z ++ [a]) m S' H' → NewA H a → H' a = some (.lst vs) → RPs K (z ++ [a]) H' l vs → Q (.ref a) H'
  | .ok (.nd ks vs) S' => ∀ H' a u, Ext z m H z m H' → RelS K z m S' H' → NewA H a → H' a = some u → DctAt K z H' a u ks vs → Q (.ref a) H'
  | .err C fs S' => ∀ H', Ext z m H z m H' → RelS K z m S' H' → EOk K z m H' C fs fun c d => E c d H'
  | .bad => False
def spF (K : PySem.W.Frag) (n : Nat) (F : Fn) : Sp := fun vs H Q E => ∃ z m S args, RelS K z m S H ∧ RDs K z m H args vs ∧ args.length = n ∧ PostF K z m H (F args S) Q E
section
variable {K : PySem.W.Frag} {z z' m m' : List Addr} {H H' : Hp} {S : List Cell}
theorem RDs.len : ∀ {ds : List D} {vs : List V}, RDs K z m H ds vs → ds.length = vs.length
  | _, _, .nil => rfl
  | _, _, .cons _ t => by simp only [List.length_cons, RDs.len t]
theorem RelE.start : ∀ {ds : List D} {vs : List V}, RDs K z m H ds vs → ∀ n, RelE K z m H (ds.map some ++ List.replicate n none) (vs.map some ++ List.replicate n none)
  | _, _, .nil, 0 => .nil
  | _, _, .nil, n + 1 => .non (RelE.start .nil n)
  | _, _, .cons h t, n => .cons h (RelE.start t n)
theorem RFs.cut {m t : List Addr} {k : Nat} (hk : k = m.length) (hs : ∀ a, a ∈ z → a ∈ z') : ∀ {fs : List (Str × D)} {vs : List (Str × V)}, closedF k fs = true → RFs K z' (m ++ t) H fs vs → RFs K z m H fs vs
  | _, _, _, .nil => .nil
  | (f, d) :: fs, _, c, .cons h q => by
    unfold closedF at c
    rw [List.all_cons, Bool.and_eq_true] at c
    refine .cons ?_ (RFs.cut hk hs c.2 q)
    cases d with
    | v p => exact RP.lessz hs h
    | o j =>
      obtain ⟨a, h1, h2⟩ := h
      have hj : j < m.length := by rw [← hk]; exact of_decide_eq_true c.1
      rw [List.getElem?_append_left hj] at h1
      exact ⟨a, h1, h2⟩
theorem RelS.cut {t : List Addr} {S1 : List Cell} (R : RelS K z' (m ++ t) S1 H') (hs : ∀ a, a ∈ z → a ∈ z') (hm : ∀ a, a ∈ m → a ∈ z) {k : Nat} (hk : k = m.length) (hc : (S1.take k).all (closedC k) = true) : RelS K z m (S1.take k) H' where
  len := by rw [List.length_take, hk]; have := R.len; rw [List.length_append] at this; omega
  nd := (List.nodup_append.mp R.nd).1
  sub := hm
  live := fun a h => R.live a (hs a h)
  cell := fun i a c h1 h2 => by
    have hi : i < m.length := (List.getElem?_eq_some_iff.mp h1).1
    have hi' : i < k := by rw [hk]; exact hi
    have h2' : S1[i]? = some c := by rw [List.getElem?_take_of_lt hi'] at h2; exact h2
    have cc : closedC k c = true := List.all_eq_true.mp hc c (List.mem_of_getElem? h2)
    cases R.cell i a c (getP h1) h2' with
    | lst g1 g2 => exact .lst g1 (g2.lessz hs)
    | dK g1 g2 g3 => exact .dK g1 g2 (g3.lessz hs)
    | dR g1 g2 g3 => exact .dR g1 g2 (g3.lessz hs)
    | ins g1 g2 => exact .ins g1 (RFs.cut hk hs cc g2)
    | gone => exact .gone
  tabs := R.tabs
theorem fin_ok {k : Nat} {d : D} {S S1 : List Cell} {Q : VK} {E : XK} (hk : S.length = k) (R0 : RelS K z m S H) (h : PostF K z m H (fin k d S1) Q E) : ∀ z' m' H' v, Ext z m H z' m' H' → RelS K z' m' S1 H' → RD K z' m' H' d v → Q v H' := by
  intro z' m' H' v x s r
  have hkm : k = m.length := by rw [R0.len, hk]
  obtain ⟨t, rfl, ht⟩ := x.me
  have hs : ∀ a, a ∈ z → a ∈ z' := by obtain ⟨u, rfl, _⟩ := x.ze; exact fun a h => List.mem_append_left _ h
  have x0 : Ext z m H z m H' := ⟨⟨[], by simp, by simp⟩, ⟨[], by simp, by simp⟩, x.keep, x.live⟩
  unfold fin at h
  split at h
  · rename_i hc
    have s0 := s.cut hs R0.sub hkm hc
    cases d with
    | v p => exact h H' v x0 s0 (RP.lessz hs r)
    | o j =>
      obtain ⟨a, h1, rfl⟩ := r
      simp only at h
      by_cases hj : j < k
      · rw [if_pos hj] at h
        refine h H' a x0 s0 ?_
        rw [List.getElem?_append_left (by rw [← hkm]; exact hj)] at h1
        exact h1
      · rw [if_neg hj] at h
        have hn : NewA H a := by
          rw [List.getElem?_append_right (by omega)] at h1
          exact ht a (List.mem_of_getElem? h1)
        cases c : S1[j]? with
        | none => simp only [c] at h; exact h.elim
        | some c' =>
          have q := s.cell j a c' h1 c
          cases c' with
          | lst l =>
            simp only [c] at h
            have ha : a ∈ z' := s.sub a (List.mem_of_getElem? h1)
            have hs2 : ∀ b, b ∈ z ++ [a] → b ∈ z' := fun b hb => by
              rcases List.mem_append.mp hb with hb | hb
              · exact hs b hb
              · simp at hb; rw [hb]; exact ha
            cases q with
            | lst g1 g2 => exact h H' a _ x0 (s.cut hs2 (fun b hb => List.mem_append_left _ (R0.sub b hb)) hkm hc) hn g1 (g2.lessz hs2)
          | dct ks vs =>
            simp only [c] at h
            have nz : a ∉ z := fun q => R0.live a q hn
            cases q with
            | dR g1 g2 g3 => exact h H' _ _ x0 s0 hn g1 ⟨_, rfl, g2, g3.lessz hs⟩
          | ins C fs => simp only [c] at h; exact h.elim
          | dck ks vs => simp only [c] at h; exact h.elim
          | gone => simp only [c] at h; exact h.elim
  · exact h.elim
end
structure RoomG (y : Bool) (k : Nat) (B : Around) : Prop where
  r : Room k B
  g : y = true → B.guards = some []
theorem RoomG.mono {y y' : Bool} {j k : Nat} {B : Around} (q : RoomG y k B) (h : j ≤ k) (hy : y' = true → y = true := by decide) : RoomG y' j B := ⟨q.r.mono h, fun e => q.g (hy e)⟩
theorem RoomG.deeper {y : Bool} {k : Nat} {B : Around} (q : RoomG y (k + 1) B) (e : Env) : RoomG y k (B.deeper e) := ⟨q.r.deeper e, q.g⟩
theorem RoomG.any {k : Nat} {B : Around} (q : Room k B) : RoomG false k B := ⟨q, fun e => nomatch e⟩
/-- what a def keeps, where no repr is under way -/
structure FnG (y : Bool) (P : Program) (w : World) (K : PySem.W.Frag) (mg : Str → Option Value) (base : Heap) (k : Nat) (g : Addr) (gd : FuncData) (ns : List Str) (S : Sp) : Prop where
  ln : ∀ us H Q E, S us H Q E → us.length = ns.length
  go : ∀ (B : Around) (fr : List Env) (t : Shared) (H : Hp) (ar : Args) (ws : List Value) (us : List V) (Q : VK) (E : XK), RoomG y k B → Env0 P w K mg base B fr t H → BindsTo t gd ar (ns.zip ws) → Vals us ws → S us H Q E →
    codeAny (model P w) B (.call (.ref g) ar) (CR (L2.CX P w) fr P w H t Q E) t
variable {y : Bool}
theorem FnG.up {P : Program} {w : World} {K : PySem.W.Frag} {mg : Str → Option Value} {base : Heap} {j k : Nat} {g : Addr} {gd : FuncData} {ns : List Str} {S : Sp} (F : FnG y P w K mg base j g gd ns S) (h : j ≤ k) : FnG y P w K mg base k g gd ns S :=
  ⟨F.ln, fun B fr t H ar ws us Q E q => F.go B fr t H ar ws us Q E (q.mono h fun e => e)⟩
section
variable {P : Program} {w : World} {K : PySem.W.Frag} {mg : Str → Option Value} {base : Heap}
/-- the def at f has this code -/
def CodeAt (K : PySem.W.Frag) (x qual : Str) (st : Stmt) (f : Addr) (cdv : Value) : Prop := ∃ oc od kV doc pm an ct osl, K.lookup f = some ⟨oc, od, .func (PySem.W.fnOf x qual (defArgs st) (defBody st) (defScope st) .none kV doc pm an cdv ct), osl⟩
/-- by its body -/
theorem fng_of {x qual : Str} {st : Stmt} {g : Addr} {gd : FuncData} {N ns : List Str} {k : Nat} {S : Sp} (F : Fun K x qual st g gd) (Sc : FnScope N ns (defScope st)) (ln : ∀ us H Q E, S us H Q E → us.length = ns.length)
    (hB : ∀ (cdv : Value) (_ : CodeAt K x qual st g cdv) (B : Around) (fr : List Env) (t : Shared) (H : Hp) (us : List V) (Q : VK) (E : XK), RoomG y k (B.deeper (envOfC qual (defScope st) t.heap.objs.size g cdv)) → S us H Q E →
      ∃ T, PSs (cxOf (L2.CX P w) P w K mg base N qual (defScope st) g cdv B fr t H E) (defBody st) T ∧ T { nx := fun _ H' => Q .non H', rt := Q } (start N us) H) : FnG y P w K mg base (k + 1) g gd ns S := by
  obtain ⟨oc, od, kV, doc, pm, an, cdv, ct, osl, rfl, lk, hcd⟩ := F.ex
  refine ⟨ln, fun B fr t H ar ws us Q E room env0 bound rel hS => ?_⟩
  have eqL := ln _ _ _ _ hS
  have inK : K.In t.heap := env0.mod.kin.keeps fun b o e => (env0.bs b o e).1
  have noLim : t.heap.NoLimit := env0.mod.nolimit.keeps fun b o e => (env0.bs b o e).1
  have kinds : ∀ y ∈ ns.zip ws, (defScope st).names.lookup y.1 = some .local ∨ ((defScope st).names.lookup y.1 = some .cell ∧ ((cellsFrom (t.heap.objs.size + 1) (defScope st).names []).lookup y.1).isSome = true) := fun y hy => by
    rcases Sc.par y.1 (List.of_mem_zip hy).1 with q | q
    · exact .inl q
    · exact .inr ⟨q, PySem.W.cellsFrom_some _ _ _ (.inl q)⟩
  refine codeAny_call_function room.r.depth (inK _ _ lk) rfl Sc.co Sc.gen rfl (PySem.W.codeRec_of inK hcd) (bound _ _ _ _ ?_)
  refine wpAny_newFunctionEnv_cells Sc.kind kinds fun en hen t1 xc => ?_
  subst hen
  refine ⟨noLim.keeps xc.toInCall.keep, codeAny_func ?_⟩
  obtain ⟨T, hT, run⟩ := hB cdv ⟨oc, od, kV, doc, pm, an, ct, osl, lk⟩ B fr t H us Q E (room.deeper _) hS
  have inv0 : Inv (cxOf (L2.CX P w) P w K mg base N qual (defScope st) g cdv B fr t H E) [] (start N us) H t1 := inv_start Sc room.r.hd env0 eqL rel xc
  refine wpAny_mono (hT.run [] t1 (start N us) H _ inv0 run) (fun flow t2 h2 => ?_) fun e t2 h2 => h2
  have finish : ∀ {τ : L2.St} {H2 : Hp} {v : V} {u : Value}, Inv (cxOf (L2.CX P w) P w K mg base N qual (defScope st) g cdv B fr t H E) [] τ H2 t2 → RelV v u → Q v H2 → CE fr P w H t Q u t2 :=
    fun {τ H2 v u} J r2 q2 => ⟨v, H2, J.os, J.bare, J.base, J.hok, r2, q2⟩
  match flow, h2 with
  | .ret u, h2 =>
    obtain ⟨v, τ, H2, J, r2, q2⟩ := h2
    exact finish J r2 q2
  | .next, h2 =>
    obtain ⟨τ, H2, J, q2⟩ := h2
    exact finish (v := V.non) (u := Value.none) J rfl q2
  | .brk, h2 =>
    obtain ⟨_, _, _, q2⟩ := h2
    exact q2.elim
  | .cont, h2 =>
    obtain ⟨_, _, _, q2⟩ := h2
    exact q2.elim
end
section
variable {X : Cx} {k : Nat} {g : Addr} {gd : FuncData} {ns : List Str} {S : Sp} {E : L2.St → XK} {x : Str} {p pos : Pos} {e : Expr} {es : List Expr} {ta : TA}
theorem run_fng {pins : List (Addr × Obj)} {σ : L2.St} {H : Hp} {t : Shared} {Q : VK} {ar : Args} {ws : List Value} {us : List V} (F : FnG y X.prog X.w X.K X.mg X.base k g gd ns S) (room : RoomG y k X.A) (bound : BindsTo t gd ar (ns.zip ws)) (hx : PassesAt (L2.CX X.prog X.w) X σ (E σ))
    (I : Inv X pins σ H t) (rel : Vals us ws) (h : S us H Q (E σ)) : wpAny (model X.prog X.w) X.A (call (.ref g) ar.pos ar.kw) (EP X pins σ Q) X.xe t := by
  refine wpAny_call (codeAny_mono (F.go X.A X.stack t H ⟨ar.pos, ar.kw⟩ ws us Q (E σ) room I.env0 bound rel h) fun res t2 hq => ?_)
  match res, hq with
  | .error e, hq => exact hx pins H t e t2 I hq
  | .ok (.ret u), hq => exact I.after hq
  | .ok .next, hq => exact hq.elim
  | .ok .brk, hq => exact hq.elim
  | .ok .cont, hq => exact hq.elim
theorem pe_callG (F : FnG y X.prog X.w X.K X.mg X.base k g gd ns S) (room : RoomG y k X.A) (hg : Gl X x) (hm : X.mg x = some (.ref g)) (hk : PySem.W.keepIn X.K (.ref g) = true) (hb : Binds X.K gd ns []) (hx : ∀ σ, PassesAt (L2.CX X.prog X.w) X σ (E σ))
    (ha : PA X (e :: es) ta) (hdb : (x == ("__debug__" : Str)) = false) (hst : starEach (e :: es) X.env = (false, eval e X.env) :: starEach es X.env) (hpl : (backTo pos (starEach es X.env)).any (·.1) = false) :
    PE X (.Call (.Name x p) (e :: es) [] pos) (tCallS S E ta) := by
  refine ⟨fun pins t σ H Q I h => wpAny_Call_Name_kw (ld_glob I hg hm ?_ hdb)⟩
  refine PySem.W.callWith_K (h₀ := X.base) I.ok.mod.kin hk (thn (ha.run pos pins t σ H _ I h) fun ws t1 ⟨us, H1, I1, rel, q⟩ => ⟨I1.kIn, ?_⟩) hst hpl
  have eqL : ws.length = ns.length := by rw [← rel.length]; exact F.ln _ _ _ _ q
  have b := hb t1 ws I1.kIn (by rw [List.append_nil]; exact eqL)
  rw [List.append_nil] at b
  exact run_fng (ar := ⟨ws, []⟩) F room b (hx σ) I1 rel q
end
section
variable {P : Program} {w : World} {K : PySem.W.Frag} {mg : Str → Option Value} {base : Heap}
abbrev WD (E : XK) : WX := fun cls d _ H => E cls d H
/-- THE RULE for a def -/
theorem fn_ok {x qual : Str} {st : Stmt} {f : Addr} {fd : FuncData} {N ps : List Str} {k : Nat} {body : SM} (F : Fun K x qual st f fd) (S : FnScope N ps (defScope st))
    (hb : ∀ (cdv : Value) (_ : CodeAt K x qual st f cdv) (A : Around) (outer : List Env) (s : Shared) (H : Hp) (E : XK), RoomG y k (A.deeper (envOfC qual (defScope st) s.heap.objs.size f cdv)) →
      Takes (cxOf (L2.CX P w) P w K mg base N qual (defScope st) f cdv A outer s H E) (WD E) → PassesOwn (model P w) (A.deeper (envOfC qual (defScope st) s.heap.objs.size f cdv)) (envOfC qual (defScope st) s.heap.objs.size f cdv) (cxOf (L2.CX P w) P w K mg base N qual (defScope st) f cdv A outer s H E).xe →
      JSs (cxOf (L2.CX P w) P w K mg base N qual (defScope st) f cdv A outer s H E) (WD E) (defBody st) body) : FnG y P w K mg base (k + 1) f fd ps (spF K ps.length (runDef ps.length N.length body)) := by
  refine fng_of F S (fun vs H Q E h => ?_) (fun cdv lc A outer s H vs Q E hr h => ⟨_, hb cdv lc A outer s H E hr (takes_of rfl rfl rfl rfl) (passes_of rfl), ?_⟩)
  · obtain ⟨z, m, S, args, hS, hA, hl, _⟩ := h
    rw [← hA.len]; exact hl
  · obtain ⟨z, m, S, args, hS, hA, hl, h⟩ := h
    refine ⟨z, m, S, args.map some ++ List.replicate (N.length - ps.length) none, hS, ?_, ?_⟩
    · have e := RelE.start hA (N.length - ps.length)
      have e2 : vs.length = ps.length := by rw [← hA.len]; exact hl
      show RelE K z m H _ (L2.start N vs)
      unfold L2.start
      rw [e2]
      exact e
    · unfold runDef at h
      rw [if_pos hl] at h
      cases c : body (args.map some ++ List.replicate (N.length - ps.length) none) S with
      | nx ρ S1 =>
        simp only [c] at h
        exact fun z' m' H' σ' x s E => fin_ok rfl hS h z' m' H' .non x s .non
      | rt d S1 =>
        simp only [c] at h
        exact fin_ok rfl hS h
      | bk ρ S1 => simp only [c] at h; exact h.elim
      | ct ρ S1 => simp only [c] at h; exact h.elim
      | err ρ C fs S1 =>
        simp only [c] at h
        split at h
        · rename_i hc
          rw [Bool.and_eq_true] at hc
          intro z' m' H' σ' x s _
          obtain ⟨t, rfl, ht⟩ := x.me
          have hs : ∀ a, a ∈ z → a ∈ z' := by obtain ⟨u, rfl, _⟩ := x.ze; exact fun a h => List.mem_append_left _ h
          exact (h H' ⟨⟨[], by simp, by simp⟩, ⟨[], by simp, by simp⟩, x.keep, x.live⟩ (s.cut hs hS.sub hS.len.symm hc.1)).mono (fun vfs hf => RFs.cut hS.len.symm hs hc.2 hf) fun _ _ q => q
        · exact h.elim
      | bad => simp only [c] at h; exact h.elim
/-- a def of the module that computes F -/
structure DefOk (y : Bool) (P : Program) (w : World) (K : PySem.W.Frag) (mg : Str → Option Value) (base : Heap) (x : Str) (k : Nat) (ps : List Str) (F : Fn) : Prop where
  ex : ∃ (f : Addr) (fd : FuncData), mg x = some (.ref f) ∧ PySem.W.keepIn K (.ref f) = true ∧ Binds K fd ps [] ∧ FnG y P w K mg base k f fd ps (spF K ps.length F) ∧ ∃ (oc : Value) (od : Option Addr) (osl : Array (Option Value)), K.lookup f = some ⟨oc, od, .func fd, osl⟩
end
def splitA : List D → Nat → List Nat × List D
  | [], _ => ([], [])
  | .v p :: r, n => let q := splitA r n; (q.1, .v p :: q.2)
  | .o j :: r, n => let q := splitA r (n + 1); (j :: q.1, .o n :: q.2)
def cellsAt (S : List Cell) : List Nat → Option (List Cell)
  | [] => some []
  | j :: r => match S[j]?, cellsAt S r with
    | some c, some cs => if closedC 0 c = true then some (c :: cs) else none
    | _, _ => none
def putCells (S : List Cell) : List Nat → List Cell → List Cell
  | j :: r, c :: cs => putCells (S.set j c) r cs
  | _, _ => S
def callR (os : List Nat) (S : List Cell) (r : ER RV) : ER RV := match r with
  | .ok rv cs => if cs.all (closedC 0) = true then (match rv with
      | .v p => .ok (.v p) (putCells S os cs)
      | .nl l => .ok (.nl l) (putCells S os cs)
      | .nd ks vs => .ok (.nd ks vs) (putCells S os cs)
      | .o n => (match os[n]? with
        | some j => .ok (.o j) (putCells S os cs)
        | none => .bad)) else .bad
  | .err C fs cs => if (cs.all (closedC 0) && closedF 0 fs) = true then .err C fs (putCells S os cs) else .bad
  | .bad => .bad
def callF (n : Nat) (F : Fn) (ds : List D) (S : List Cell) : ER RV := if ds.length = n ∧ (splitA ds 0).1.Nodup then (match cellsAt S (splitA ds 0).1 with
    | some cs => callR (splitA ds 0).1 S (F (splitA ds 0).2 cs)
    | none => .bad) else .bad
/-- a list that is handed back new stands by value -/
def rvD : RV → D
  | .v p => .v p
  | .o n => .o n
  | .nl l => .v (.lst l)
  | .nd ks vs => .v (.dct ks vs)
def eCall (n : Nat) (F : Fn) (f : EM (List D)) : EM D := fun ρ S => (f ρ S).bind fun ds S1 => (callF n F ds S1).bind fun r S2 => .ok (rvD r) S2
/-- .. or as an object of the store -/
def eCallN (n : Nat) (F : Fn) (f : EM (List D)) : EM D := fun ρ S => (f ρ S).bind fun ds S1 => (callF n F ds S1).bind fun r S2 => match r with
  | .nl l => .ok (.o S2.length) (S2 ++ [.lst l])
  | .nd _ _ => .bad
  | r => .ok (rvD r) S2
section
variable {K : PySem.W.Frag} {z z' m m' : List Addr} {H H' : Hp} {S : List Cell}
/-- the places of the objects handed over -/
def locs (m : List Addr) (os : List Nat) : List Addr := os.filterMap fun j => m[j]?
theorem locs_cons {m : List Addr} {j : Nat} {os : List Nat} {a : Addr} (h : m[j]? = some a) : locs m (j :: os) = a :: locs m os := by
  unfold locs; rw [List.filterMap_cons, h]
theorem splitA_rel : ∀ {ds : List D} {vs : List V} {pre : List Addr}, RDs K z m H ds vs → RDs K z (pre ++ locs m (splitA ds pre.length).1) H (splitA ds pre.length).2 vs ∧ ∀ j ∈ (splitA ds pre.length).1, j < m.length
  | _, _, pre, .nil => ⟨.nil, fun _ h => by cases h⟩
  | .v p :: ds, _, pre, .cons h t => by
    obtain ⟨h1, h2⟩ := splitA_rel (pre := pre) t
    exact ⟨.cons h h1, h2⟩
  | .o j :: ds, v :: vs, pre, .cons h t => by
    obtain ⟨a, h1, h2⟩ := h
    have ih := splitA_rel (pre := pre ++ [a]) t
    rw [List.length_append] at ih
    obtain ⟨i1, i2⟩ := ih
    have e : pre ++ locs m (splitA (.o j :: ds) pre.length).1 = pre ++ [a] ++ locs m (splitA ds (pre.length + 1)).1 := by
      show pre ++ locs m (j :: (splitA ds (pre.length + 1)).1) = _
      rw [locs_cons h1, List.append_assoc] <;> rfl
    refine ⟨?_, fun i hi => ?_⟩
    · rw [e]
      refine .cons ⟨a, ?_, h2⟩ i1
      rw [List.append_assoc, List.getElem?_append_right (Nat.le_refl _), Nat.sub_self] <;> rfl
    · rcases List.mem_cons.mp (show i ∈ j :: (splitA ds (pre.length + 1)).1 from hi) with rfl | hi
      · exact (List.getElem?_eq_some_iff.mp h1).1
      · exact i2 i hi
theorem RFs.closed0 : ∀ {fs : List (Str × D)} {vs : List (Str × V)}, closedF 0 fs = true → RFs K z m H fs vs → RFs K z m' H fs vs
  | _, _, _, .nil => .nil
  | (f, d) :: fs, _, c, .cons h q => by
    unfold closedF at c
    rw [List.all_cons, Bool.and_eq_true] at c
    refine .cons ?_ (RFs.closed0 c.2 q)
    cases d with
    | v p => exact h
    | o j => exact absurd (of_decide_eq_true c.1) (Nat.not_lt_zero j)
theorem RC.closed0 {a : Addr} {c : Cell} (hc : closedC 0 c = true) (h : RC K z m H a c) : RC K z m' H a c := by
  cases h with
  | lst g1 g2 => exact .lst g1 g2
  | dK g1 g2 g3 => exact .dK g1 g2 g3
  | dR g1 g2 g3 => exact .dR g1 g2 g3
  | ins g1 g2 => exact .ins g1 (g2.closed0 hc)
  | gone => exact .gone
theorem cellsAt_get : ∀ {os : List Nat} {cs : List Cell} {i : Nat} {c : Cell}, cellsAt S os = some cs → cs[i]? = some c → ∃ j, os[i]? = some j ∧ S[j]? = some c ∧ closedC 0 c = true
  | [], cs, i, c, e, h => by cases e; simp at h
  | j :: os, cs, i, c, e, h => by
    unfold cellsAt at e
    split at e
    · rename_i c' cs' h1 h2
      split at e
      · rename_i h3
        cases e
        cases i with
        | zero => simp at h; subst h; exact ⟨j, rfl, h1, h3⟩
        | succ i =>
          obtain ⟨k, g1, g2, g3⟩ := cellsAt_get h2 (by simpa using h)
          exact ⟨k, by simpa using g1, g2, g3⟩
      · cases e
    · cases e
theorem cellsAt_len : ∀ {os : List Nat} {cs : List Cell}, cellsAt S os = some cs → cs.length = os.length
  | [], cs, e => by cases e; rfl
  | j :: os, cs, e => by
    unfold cellsAt at e
    split at e
    · rename_i c' cs' h1 h2
      split at e
      · cases e
        simp only [List.length_cons, cellsAt_len h2]
      · cases e
    · cases e
theorem locs_get : ∀ {os : List Nat}, (∀ j ∈ os, j < m.length) → ∀ i : Nat, (locs m os)[i]? = (os[i]?).bind fun j => m[j]?
  | [], _, i => by simp [locs]
  | j :: os, h, i => by
    have hj := h j List.mem_cons_self
    rw [locs_cons (List.getElem?_eq_getElem hj)]
    cases i with
    | zero => simp [List.getElem?_eq_getElem hj]
    | succ i =>
      have := locs_get (os := os) (fun k hk => h k (List.mem_cons_of_mem _ hk)) i
      simpa using this
theorem locs_len : ∀ {os : List Nat}, (∀ j ∈ os, j < m.length) → (locs m os).length = os.length
  | [], _ => rfl
  | j :: os, h => by
    rw [locs_cons (List.getElem?_eq_getElem (h j List.mem_cons_self)), List.length_cons, List.length_cons, locs_len fun k hk => h k (List.mem_cons_of_mem _ hk)]
theorem locs_mem {os : List Nat} {a : Addr} (h : a ∈ locs m os) : ∃ j, j ∈ os ∧ m[j]? = some a := by
  obtain ⟨j, h1, h2⟩ := List.mem_filterMap.mp h
  exact ⟨j, h1, h2⟩
theorem nodup_inj {m : List Addr} (nd : m.Nodup) {i j : Nat} {a : Addr} (h1 : m[i]? = some a) (h2 : m[j]? = some a) : i = j := by
  obtain ⟨l1, e1⟩ := List.getElem?_eq_some_iff.mp h1
  obtain ⟨l2, e2⟩ := List.getElem?_eq_some_iff.mp h2
  have p := List.pairwise_iff_getElem.mp nd
  rcases Nat.lt_trichotomy i j with q | q | q
  · exact absurd (e1.trans e2.symm) (p i j l1 l2 q)
  · exact q
  · exact absurd (e2.trans e1.symm) (p j i l2 l1 q)
theorem locs_nodup (nd : m.Nodup) : ∀ {os : List Nat}, os.Nodup → (∀ j ∈ os, j < m.length) → (locs m os).Nodup
  | [], _, _ => .nil
  | j :: os, h, hl => by
    rw [List.nodup_cons] at h
    have hj := List.getElem?_eq_getElem (hl j List.mem_cons_self)
    rw [locs_cons hj, List.nodup_cons]
    refine ⟨fun q => ?_, locs_nodup nd h.2 fun k hk => hl k (List.mem_cons_of_mem _ hk)⟩
    obtain ⟨k, k1, k2⟩ := locs_mem q
    exact h.1 (by rw [nodup_inj nd hj k2]; exact k1)
theorem putCells_len : ∀ {os : List Nat} {cs : List Cell} {S : List Cell}, (putCells S os cs).length = S.length
  | [], _, S => by unfold putCells; rfl
  | _ :: _, [], S => by unfold putCells; rfl
  | j :: os, c :: cs, S => by
    show (putCells (S.set j c) os cs).length = _
    rw [putCells_len, List.length_set]
theorem putCells_out : ∀ {os : List Nat} {cs : List Cell} {S : List Cell} {i : Nat}, i ∉ os → (putCells S os cs)[i]? = S[i]?
  | [], _, S, i, _ => by unfold putCells; rfl
  | _ :: _, [], S, i, _ => by unfold putCells; rfl
  | j :: os, c :: cs, S, i, h => by
    show (putCells (S.set j c) os cs)[i]? = _
    simp only [List.mem_cons, not_or] at h
    rw [putCells_out h.2, List.getElem?_set_ne (Ne.symm h.1)]
theorem putCells_in : ∀ {os : List Nat} {cs : List Cell} {S : List Cell} {k j : Nat} {c : Cell}, os.Nodup → os[k]? = some j → j < S.length → cs.length = os.length → (putCells S os cs)[j]? = some c → cs[k]? = some c
  | [], _, S, k, j, c, _, h, _, _, _ => by simp at h
  | _ :: _, [], S, k, j, c, _, _, _, h, _ => by simp at h
  | i :: os, d :: cs, S, k, j, c, nd, h, hl, hn, e => by
    rw [List.nodup_cons] at nd
    have e' : (putCells (S.set i d) os cs)[j]? = some c := e
    cases k with
    | zero =>
      simp at h
      subst h
      rw [putCells_out nd.1, List.getElem?_set_self hl] at e'
      simpa using e'
    | succ k =>
      have := putCells_in (k := k) nd.2 (by simpa using h) (by rw [List.length_set]; exact hl) (by simpa using hn) e'
      simpa using this
/-- the callee's state -/
theorem RelS.enter {os : List Nat} {cs : List Cell} (R : RelS K z m S H) (nd : os.Nodup) (hl : ∀ j ∈ os, j < m.length) (hc : cellsAt S os = some cs) : RelS K z (locs m os) cs H where
  len := by rw [locs_len hl, cellsAt_len hc]
  nd := locs_nodup R.nd nd hl
  sub := fun a h => by
    obtain ⟨j, _, h2⟩ := locs_mem h
    exact R.sub a (List.mem_of_getElem? h2)
  live := R.live
  cell := fun i a c h1 h2 => by
    obtain ⟨j, g1, g2, g3⟩ := cellsAt_get hc h2
    rw [locs_get hl, g1] at h1
    exact (R.cell j a c h1 g2).closed0 g3
  tabs := R.tabs
theorem RFs.kz (kz : Keep z H H') (hz : ∀ b, b ∈ z' → b ∉ z → NewA H b) : ∀ {l : List (Str × D)} {vs : List (Str × V)}, RFs K z m H l vs → RFs K z' m H' l vs
  | _, _, .nil => .nil
  | (_, .v p) :: _, _, .cons h t => .cons (RP.mono kz hz _ _ h) (RFs.kz kz hz t)
  | (_, .o n) :: _, _, .cons h t => .cons h (RFs.kz kz hz t)
theorem RFs.pushm {a : Addr} : ∀ {l : List (Str × D)} {vs : List (Str × V)}, RFs K z m H l vs → RFs K z (m ++ [a]) H l vs
  | _, _, .nil => .nil
  | (_, .v p) :: _, _, .cons h t => .cons h (RFs.pushm t)
  | (_, .o n) :: _, _, .cons ⟨b, h1, h2⟩ t => .cons ⟨b, getP h1, h2⟩ (RFs.pushm t)
/-- behind it -/
theorem RelS.leave {os : List Nat} {cs : List Cell} (R : RelS K z m S H) (nd : os.Nodup) (hl : ∀ j ∈ os, j < m.length) (x : Ext z (locs m os) H z (locs m os) H') (hz : ∀ b, b ∈ z' → b ∉ z → NewA H b) (hs : ∀ b, b ∈ z → b ∈ z') (R' : RelS K z' (locs m os) cs H') (hc : cs.all (closedC 0) = true) : RelS K z' m (putCells S os cs) H' where
  len := by rw [putCells_len, R.len]
  nd := R.nd
  sub := fun a h => hs a (R.sub a h)
  live := R'.live
  cell := fun i a c h1 h2 => by
    by_cases hi : i ∈ os
    · obtain ⟨k, hk⟩ := List.getElem?_of_mem hi
      have hn : cs.length = os.length := by rw [← R'.len, locs_len hl]
      have g := putCells_in nd hk (by rw [← R.len]; exact hl i hi) hn h2
      have g1 : (locs m os)[k]? = some a := by rw [locs_get hl, hk]; exact h1
      exact (R'.cell k a c g1 g).closed0 (List.all_eq_true.mp hc c (List.mem_of_getElem? g))
    · rw [putCells_out hi] at h2
      have na : a ∉ locs m os := fun q => by
        obtain ⟨j, j1, j2⟩ := locs_mem q
        exact hi (by rw [nodup_inj R.nd h1 j2]; exact j1)
      have kz : Keep z H H' := fun b u e h => x.keep b u e (by
        rcases h with h | h
        · refine .inl ⟨fun q => ?_, h.2⟩
          obtain ⟨j, _, j2⟩ := locs_mem q
          exact h.1 (R.sub b (List.mem_of_getElem? j2))
        · exact .inr h)
      have ps : ∀ {l : List Da} {vs : List V}, RPs K z H l vs → RPs K z' H' l vs := fun h => RPs.mono kz hz _ _ h
      cases R.cell i a c h1 h2 with
      | lst g1 g2 => exact .lst (x.keep a _ g1 (.inl ⟨na, trivial⟩)) (ps g2)
      | dK g1 g2 g3 => exact .dK (x.keep a _ g1 (.inl ⟨na, trivial⟩)) g2 (ps g3)
      | dR g1 g2 g3 => exact .dR (x.keep a _ g1 (.inl ⟨na, trivial⟩)) (g2.keep kz) (ps g3)
      | ins g1 g2 => exact .ins (x.keep a _ g1 (.inl ⟨na, trivial⟩)) (RFs.kz kz hz g2)
      | gone => exact .gone
  tabs := R'.tabs
theorem RelS.leave0 {os : List Nat} {cs : List Cell} (R : RelS K z m S H) (nd : os.Nodup) (hl : ∀ j ∈ os, j < m.length) (x : Ext z (locs m os) H z (locs m os) H') (R' : RelS K z (locs m os) cs H') (hc : cs.all (closedC 0) = true) : RelS K z m (putCells S os cs) H' := R.leave nd hl x (fun _ h1 h2 => absurd h1 h2) (fun _ h => h) R' hc
theorem RelS.push {a : Addr} {c : Cell} (R : RelS K z m S H) (ha : a ∈ z) (hm : a ∉ m) (hc : RC K z (m ++ [a]) H a c) : RelS K z (m ++ [a]) (S ++ [c]) H where
  len := by rw [List.length_append, List.length_append, R.len] <;> rfl
  nd := by
    rw [List.nodup_append]
    refine ⟨R.nd, by simp, fun b h d hb => ?_⟩
    simp at hb
    subst hb
    exact fun e => hm (by rw [← e]; exact h)
  sub := fun b h => by
    rcases List.mem_append.mp h with h | h
    · exact R.sub b h
    · simp at h; rw [h]; exact ha
  live := R.live
  cell := fun i b c' h1 h2 => by
    by_cases hi : i < m.length
    · rw [List.getElem?_append_left hi] at h1
      rw [List.getElem?_append_left (by rw [← R.len]; exact hi)] at h2
      cases R.cell i b c' h1 h2 with
      | lst g1 g2 => exact .lst g1 g2
      | dK g1 g2 g3 => exact .dK g1 g2 g3
      | dR g1 g2 g3 => exact .dR g1 g2 g3
      | ins g1 g2 => exact .ins g1 g2.pushm
      | gone => exact .gone
    · have hi : m.length ≤ i := Nat.le_of_not_lt hi
      rw [List.getElem?_append_right hi] at h1
      rw [List.getElem?_append_right (by rw [← R.len]; exact hi), ← R.len] at h2
      cases q : i - m.length with
      | zero =>
        rw [q] at h1 h2
        simp at h1 h2
        subst h1; subst h2
        exact hc
      | succ k => rw [q] at h1; simp at h1
  tabs := R.tabs
theorem Ext.leave {os : List Nat} (x : Ext z (locs m os) H z (locs m os) H') : Ext z m H z m H' :=
  ⟨⟨[], by simp, by simp⟩, ⟨[], by simp, by simp⟩, fun a o e h => x.keep a o e (by
    rcases h with h | h
    · refine .inl ⟨fun q => ?_, h.2⟩
      obtain ⟨j, _, j2⟩ := locs_mem q
      exact h.1 (List.mem_of_getElem? j2)
    · exact .inr h), x.live⟩
/-- the promise of a callee at a call -/
theorem sp_call {F : Fn} {ds : List D} {vs : List V} {n : Nat} {Q : VK} {E : XK} (R : RelS K z m S H) (r : RDs K z m H ds vs) (h : PostF K z m H (callF n F ds S) Q E) : spF K n F vs H Q E := by
  obtain ⟨r1, r2⟩ := splitA_rel (pre := []) r
  rw [List.nil_append] at r1
  have r1' : RDs K z (locs m (splitA ds 0).1) H (splitA ds 0).2 vs := r1
  have r2' : ∀ j ∈ (splitA ds 0).1, j < m.length := r2
  unfold callF at h
  split at h
  · rename_i nd
    obtain ⟨hn, nd⟩ := nd
    cases c : cellsAt S (splitA ds 0).1 with
    | none => simp only [c] at h; exact h.elim
    | some cs =>
      simp only [c] at h
      refine ⟨z, locs m (splitA ds 0).1, cs, (splitA ds 0).2, R.enter nd r2' c, r1', by rw [r1'.len, ← r.len]; exact hn, ?_⟩
      unfold callR at h
      cases e : F (splitA ds 0).2 cs with
      | bad => simp only [e] at h; exact h.elim
      | err C fs cs' =>
        simp only [e] at h
        split at h
        · rename_i hc
          rw [Bool.and_eq_true] at hc
          exact fun H' x s => (h H' x.leave (R.leave0 nd r2' x s hc.1)).mono (fun vfs hf => hf.closed0 hc.2) fun _ _ q => q
        · exact h.elim
      | ok rv cs' =>
        simp only [e] at h
        split at h
        · rename_i hc
          cases rv with
          | v p => exact fun H' v x s r => h H' v x.leave (R.leave0 nd r2' x s hc) r
          | nl l =>
            refine fun H' a vs x s hn ha r => h H' a vs x.leave (R.leave nd r2' x (fun b h1 h2 => ?_) (fun b hb => List.mem_append_left _ hb) s hc) hn ha r
            rcases List.mem_append.mp h1 with q | q
            · exact absurd q h2
            · simp at q; rw [q]; exact hn
          | nd ks vs => exact fun H' a u x s hn ha hd => h H' a u x.leave (R.leave0 nd r2' x s hc) hn ha hd
          | o n =>
            intro H' a x s ha
            rw [locs_get r2'] at ha
            cases q : (splitA ds 0).1[n]? with
            | none => rw [q] at ha; cases ha
            | some j =>
              simp only [q] at h
              rw [q] at ha
              exact h H' a x.leave (R.leave0 nd r2' x s hc) ha
        · exact h.elim
  · exact h.elim
end
section
variable {X : Cx} {W : WX} {a b c e : Expr} {es : List Expr} {pos : Pos}
theorem Ext.new' {z m : List Addr} {H H' : Hp} {p : Addr} (x : Ext z m H z m H') (hp : NewA H p) : Ext z m H (z ++ [p]) (m ++ [p]) H' :=
  ⟨⟨[p], rfl, fun a h => by simp at h; rw [h]; exact hp⟩, ⟨[p], rfl, fun a h => by simp at h; rw [h]; exact hp⟩, x.keep, x.live⟩
/-- what is made new and will not be written is locked at once -/
def tFrz (t : TE) : TE := fun σ H Q => t σ H fun v H' => Q v H' ∨ ∃ a u, v = .ref a ∧ H' a = some u ∧ Mut (some u) ∧ ∀ od, Q v (upd H' a (.frz od u))
theorem pe_frz {t : TE} (h : PE X e t) : PE X e (tFrz t) := by
  refine ⟨fun pins s σ H Q I hq => ?_⟩
  refine thn (h.run pins s σ H _ I hq) fun u s1 ⟨v, H1, I1, r, q⟩ => ?_
  rcases q with q | ⟨a, w, rfl, e, mu, q⟩
  · exact ⟨v, H1, I1, r, q⟩
  · obtain ⟨od, I2⟩ := I1.lock e mu
    exact ⟨_, _, I2, r, q od⟩
/-- a place is written that is no list, no tuple, no locked thing, no table -/
structure Dk (a : Addr) (u : HO) : Prop where
  nl : ∀ l, u ≠ .lst l
  nt : ∀ l, u ≠ .tup l
  nf : ∀ o w, u ≠ .frz o w
  ntb : ∀ ps, u ≠ .tbl ps
  nco : ∀ q, u ≠ LamX.CodeO a q
  ni : ∀ C dx fs, u ≠ .ins C dx fs
section
variable {K : PySem.W.Frag} {z m : List Addr} {H : Hp} {S : List Cell} {a : Addr} {u o : HO}
theorem Dk.fz (d : Dk a u) (h : H a = some u) {b : Addr} {vs : List V} (q : FzL K H b vs) : FzL K (upd H a o) b vs := by
  rcases q with ⟨w, q⟩ | q
  · exact .inl ⟨w, by rw [upd_ne (fun e => d.nf _ _ (Option.some.inj (h.symm.trans (by rw [← e]; exact q))))]; exact q⟩
  · exact .inr q
theorem Dk.sqT (d : Dk a u) (h : H a = some u) {b : Addr} {vs : List V} (q : SqT K H b vs) : SqT K (upd H a o) b vs := by
  rcases q with (q | ⟨w, q⟩) | q
  · exact .inl (.inl (by rw [upd_ne (fun e => d.nt _ (Option.some.inj (h.symm.trans (by rw [← e]; exact q))))]; exact q))
  · exact .inl (.inr ⟨w, by rw [upd_ne (fun e => d.nf _ _ (Option.some.inj (h.symm.trans (by rw [← e]; exact q))))]; exact q⟩)
  · exact .inr q
theorem Dk.rks (d : Dk a u) (h : H a = some u) {ks : List Da} {xs : List (List Key × Addr × V)} (q : RKs K H ks xs) : RKs K (upd H a o) ks xs := ⟨q.1, fun x hx => d.sqT h (q.2 x hx)⟩
mutual
theorem RP.at_ (d : Dk a u) (h : H a = some u) : ∀ (p : Da) (v : V), RP K z H p v → RP K z (upd H a o) p v
  | .non, _, q => by cases q; exact .non
  | .bl b, _, q => by cases q; exact .bl b
  | .int i, _, q => by cases q; exact .int i
  | .str x, _, q => by cases q; exact .str x
  | .tup l, _, q => by
    cases q with
    | tup h1 h2 => exact .tup (d.sqT h h1) (RPs.at_ d h l _ h2)
  | .lst l, _, q => by
    cases q with
    | lst h1 h2 h3 => exact .lst (by rw [upd_ne (fun e => d.nl _ (Option.some.inj (h.symm.trans (by rw [← e]; exact h1))))]; exact h1) h2 (RPs.at_ d h l _ h3)
  | .flst l, _, q => by
    cases q with
    | flst h1 h2 => exact .flst (d.fz h h1) (RPs.at_ d h l _ h2)
  | .dck ks vs, _, q => by
    cases q with
    | dK h1 h3 h4 => exact .dK (by rw [upd_ne (fun e => d.nf _ _ (Option.some.inj (h.symm.trans (by rw [← e]; exact h1))))]; exact h1) h3 (RPs.at_ d h vs _ h4)
  | .dct ks vs, _, q => by
    cases q with
    | dR h1 h3 h4 => exact .dR (by rw [upd_ne (fun e => d.nf _ _ (Option.some.inj (h.symm.trans (by rw [← e]; exact h1))))]; exact h1) (d.rks h h3) (RPs.at_ d h vs _ h4)
  | .ref a, _, q => by cases q; exact .ref a
  | .ty n, _, q => by cases q; exact .ty n
theorem RPs.at_ (d : Dk a u) (h : H a = some u) : ∀ (ps : List Da) (vs : List V), RPs K z H ps vs → RPs K z (upd H a o) ps vs
  | [], _, q => by cases q; exact .nil
  | p :: ps, _, q => by
    cases q with
    | cons h1 h2 => exact .cons (RP.at_ d h p _ h1) (RPs.at_ d h ps _ h2)
end
theorem RFs.at_ (d : Dk a u) (h : H a = some u) : ∀ {l : List (Str × FL.D)} {vs : List (Str × V)}, RFs K z m H l vs → RFs K z m (upd H a o) l vs
  | _, _, .nil => .nil
  | (_, .v p) :: _, _, .cons q t => .cons (RP.at_ d h p _ q) (RFs.at_ d h t)
  | (_, .o n) :: _, _, .cons q t => .cons q (RFs.at_ d h t)
/-- .. of no object of the store -/
theorem RelS.at_ (R : RelS K z m S H) (d : Dk a u) (h : H a = some u) (ha : a ∉ m) (ko : NTb o := by first | trivial | (unfold dRaw; trivial)) : RelS K z m S (upd H a o) where
  len := R.len
  nd := R.nd
  sub := R.sub
  live := fun b hb n => R.live b hb (n.upd ko)
  cell := fun i b c h1 h2 => by
    have ne : b ≠ a := fun q => ha (by rw [← q]; exact List.mem_of_getElem? h1)
    cases R.cell i b c h1 h2 with
    | lst g1 g2 => exact .lst (by rw [upd_ne ne]; exact g1) (RPs.at_ d h _ _ g2)
    | dK g1 g2 g3 => exact .dK (by rw [upd_ne ne]; exact g1) g2 (RPs.at_ d h _ _ g3)
    | dR g1 g2 g3 => exact .dR (by rw [upd_ne ne]; exact g1) (d.rks h g2) (RPs.at_ d h _ _ g3)
    | ins g1 g2 => exact .ins (by rw [upd_ne ne]; exact g1) (RFs.at_ d h g2)
    | gone => exact .gone
  tabs := tabs_upd R.tabs (fun ps e => d.ntb ps (Option.some.inj (h.symm.trans e))) (fun q e => d.nco q (Option.some.inj (h.symm.trans e)))
theorem DctAt.dk {ks vs : List Da} (h : DctAt K z H a u ks vs) : Dk a u ∧ Mut (some u) := by
  obtain ⟨xs, rfl, _⟩ := h
  exact ⟨⟨fun _ e => (by unfold dRaw at e; cases e), fun _ e => (by unfold dRaw at e; cases e), fun _ _ e => (by unfold dRaw at e; cases e), fun _ e => (by unfold dRaw at e; cases e), fun _ => dRaw_ne_code, fun _ _ _ e => (by unfold dRaw at e; cases e)⟩, trivial⟩
theorem DctAt.rp {ks vs : List Da} {od : Obj} (h : DctAt K z H a u ks vs) (e : H a = some u) : RP K z (upd H a (.frz od u)) (.dct ks vs) (.ref a) := by
  have d := h.dk.1
  obtain ⟨xs, rfl, h1, h2⟩ := h
  exact .dR upd_same (d.rks e h1) (RPs.at_ d e _ _ h2)
theorem Ext.frz {z' m' : List Addr} {H' : Hp} (x : Ext z m H z' m' H') (hn : NewA H a) : Ext z m H z' m' (upd H' a o) := x.updz hn
end
theorem tG_call {K : PySem.W.Frag} {F : Fn} {f : EM (List D)} {n : Nat} {σ : L2.St} {H : Hp} {Q : VK} (h : tE K W (eCall n F f) σ H Q) : tFrz (tCallS (spF K n F) (WE W) (tA K W f)) σ H Q := by
  obtain ⟨z, m, S, ρ, hS, hE, h⟩ := h
  refine tG_intro hS hE h fun ds S1 z1 m1 H1 vs e1 x1 s1 E1 r1 h1 => ?_
  refine sp_call s1 r1 ?_
  cases c : callF n F ds S1 with
  | bad => simp only [c, ER.bind] at h1; exact h1.elim
  | err C fs S2 =>
    simp only [c, ER.bind] at h1
    exact fun H' x s => h1 z1 m1 H' x s
  | ok rv S2 =>
    simp only [c, ER.bind] at h1
    cases rv with
    | v p => exact fun H' v x s r => .inl (h1 z1 m1 H' v x s r)
    | o n => exact fun H' a x s ha => .inl (h1 z1 m1 H' _ x s ⟨a, ha, rfl⟩)
    | nl l => exact fun H' a vs x s hn ha r => .inl (h1 z1 m1 H' _ x (s.lessz (fun b hb => List.mem_append_left _ hb) s1.sub) (.lst ha (fun q => s1.live a q hn) (r.lessz fun b hb => List.mem_append_left _ hb)))
    | nd ks vs => exact fun H' a u x s hn ha hd => .inr ⟨a, u, rfl, ha, hd.dk.2, fun od => h1 z1 m1 _ _ (x.frz hn) (s.at_ hd.dk.1 ha fun q => s1.live a (s1.sub a q) hn) (hd.rp ha)⟩
theorem tG_callN {K : PySem.W.Frag} {F : Fn} {f : EM (List D)} {n : Nat} {σ : L2.St} {H : Hp} {Q : VK} (h : tE K W (eCallN n F f) σ H Q) : tCallS (spF K n F) (WE W) (tA K W f) σ H Q := by
  obtain ⟨z, m, S, ρ, hS, hE, h⟩ := h
  refine tG_intro hS hE h fun ds S1 z1 m1 H1 vs e1 x1 s1 E1 r1 h1 => ?_
  refine sp_call s1 r1 ?_
  cases c : callF n F ds S1 with
  | bad => simp only [c, ER.bind] at h1; exact h1.elim
  | err C fs S2 =>
    simp only [c, ER.bind] at h1
    exact fun H' x s => h1 z1 m1 H' x s
  | ok rv S2 =>
    simp only [c, ER.bind] at h1
    cases rv with
    | v p => exact fun H' v x s r => h1 z1 m1 H' v x s r
    | o n => exact fun H' a x s ha => h1 z1 m1 H' _ x s ⟨a, ha, rfl⟩
    | nl l =>
      intro H' a vs x s hn ha r
      refine h1 (z1 ++ [a]) (m1 ++ [a]) H' _ (x.new' hn) (s.push (by simp) (fun q => s1.live a (s1.sub a q) hn) (.lst ha r)) ⟨a, ?_, rfl⟩
      rw [← s.len]; exact last_get
    | nd ks vs => exact h1.elim
theorem je_call {x : Str} {k : Nat} {ps : List Str} {F : Fn} {f : EM (List D)} {p : Pos} (G : DefOk y X.prog X.w X.K X.mg X.base x k ps F) (hr : RoomG y k X.A) (tk : Takes X W) (ha : JA X W (e :: es) f) (hg : Gl X x := by rfl)
    (hdb : (x == ("__debug__" : Str)) = false := by decide) (he : starEach (e :: es) X.env = (false, eval e X.env) :: starEach es X.env := by rfl) (hpl : (backTo pos (starEach es X.env)).any (·.1) = false := by rfl) : JE X W (.Call (.Name x p) (e :: es) [] pos) (eCall ps.length F f) := by
  obtain ⟨f', fd, hm, hk, hb, F', _⟩ := G.ex
  exact pe_imp (pe_frz (pe_callG F' hr hg hm hk hb (fun σ => passAt tk σ) ha hdb he hpl)) fun _ _ _ h => tG_call h
theorem je_callN {x : Str} {k : Nat} {ps : List Str} {F : Fn} {f : EM (List D)} {p : Pos} (G : DefOk y X.prog X.w X.K X.mg X.base x k ps F) (hr : RoomG y k X.A) (tk : Takes X W) (ha : JA X W (e :: es) f) (hg : Gl X x := by rfl)
    (hdb : (x == ("__debug__" : Str)) = false := by decide) (he : starEach (e :: es) X.env = (false, eval e X.env) :: starEach es X.env := by rfl) (hpl : (backTo pos (starEach es X.env)).any (·.1) = false := by rfl) : JE X W (.Call (.Name x p) (e :: es) [] pos) (eCallN ps.length F f) := by
  obtain ⟨f', fd, hm, hk, hb, F', _⟩ := G.ex
  exact pe_imp (pe_callG F' hr hg hm hk hb (fun σ => passAt tk σ) ha hdb he hpl) fun _ _ _ h => tG_callN h
end
end FL
end
section
namespace FL
open PySem PySem.Spec PyProof.Rows L2
variable [TabsOf]
variable {y : Bool}
theorem hu64 {k : Nat} {A : Around} (hr : RoomG y k A) : A.units + 64 < cLine := hr.r.units
theorem hu65 {k : Nat} {A : Around} (hr : RoomG y k A) : A.units + 65 < cLine := by have := hr.r.un; omega
abbrev subP : Da → Da → Option Da := iOp fun i j => i - j
abbrev mulP : Da → Da → Option Da := iOpC mulOk fun i j => i * j
abbrev divP : Da → Da → Option Da := iOpC divOk fun i j => i / j
abbrev modP : Da → Da → Option Da := iOpC modOk fun i j => i % j
abbrev ltP : Da → Da → Option Bool := iCmp fun i j => decide (i < j)
abbrev leP : Da → Da → Option Bool := iCmp fun i j => decide (i ≤ j)
abbrev gtP : Da → Da → Option Bool := iCmp fun i j => decide (j < i)
abbrev geP : Da → Da → Option Bool := iCmp fun i j => decide (j ≤ i)
abbrev max2P : List Da → Option Da := i2P fun i j => if j > i then j else i
abbrev min2P : List Da → Option Da := i2P fun i j => if j < i then j else i
theorem bt_len : bootBuiltins "len" = some (.builtin "len") := by decide +kernel
theorem bt_abs : bootBuiltins "abs" = some (.builtin "abs") := by decide +kernel
theorem bt_min : bootBuiltins "min" = some (.builtin "min") := by decide +kernel
theorem bt_max : bootBuiltins "max" = some (.builtin "max") := by decide +kernel
theorem bt_sum : bootBuiltins "sum" = some (.builtin "sum") := by decide +kernel
theorem bt_all : bootBuiltins "all" = some (.builtin "all") := by decide +kernel
theorem bt_any : bootBuiltins "any" = some (.builtin "any") := by decide +kernel
theorem bt_isinstance : bootBuiltins "isinstance" = some (.builtin "isinstance") := by decide +kernel
theorem bt_divmod : bootBuiltins "divmod" = some (.builtin "divmod") := by decide +kernel
theorem bt_repr : bootBuiltins "repr" = some (.builtin "repr") := by decide +kernel
theorem bt_int : bootBuiltins "int" = some (.type "int") := by decide +kernel
theorem bt_bool : bootBuiltins "bool" = some (.type "bool") := by decide +kernel
theorem bt_tuple : bootBuiltins "tuple" = some (.type "tuple") := by decide +kernel
theorem bt_dict : bootBuiltins "dict" = some (.type "dict") := by decide +kernel
section
variable {P : Program} {w : World} {K : PySem.W.Frag} {mg : Str → Option Value} {base : Heap}
theorem defok_mk {x : Str} {st : Stmt} {N ps : List Str} {k : Nat} {body : SM} (h : ∃ (f : Addr) (fd : FuncData), mg x = some (.ref f) ∧ Fun K x x st f fd) (S : FnScope N ps (defScope st))
    (hbd : ∀ (kV doc pm : Value) (an : Option Addr) (cdv ct : Value) (us : List Value), us.length = ps.length → bindArgs (PySem.W.fnOf x x (defArgs st) (defBody st) (defScope st) .none kV doc pm an cdv ct) ⟨us, []⟩ = pure (ps.zip us))
    (hb : ∀ (f : Addr) (cdv : Value) (_ : mg x = some (.ref f) ∧ CodeAt K x x st f cdv) (A : Around) (outer : List Env) (s : Shared) (H : Hp) (E : XK), RoomG y k (A.deeper (envOfC x (defScope st) s.heap.objs.size f cdv)) →
      Takes (cxOf (L2.CX P w) P w K mg base N x (defScope st) f cdv A outer s H E) (WD E) → PassesOwn (model P w) (A.deeper (envOfC x (defScope st) s.heap.objs.size f cdv)) (envOfC x (defScope st) s.heap.objs.size f cdv) (cxOf (L2.CX P w) P w K mg base N x (defScope st) f cdv A outer s H E).xe →
      JSs (cxOf (L2.CX P w) P w K mg base N x (defScope st) f cdv A outer s H E) (WD E) (defBody st) body) : DefOk y P w K mg base x (k + 1) ps (runDef ps.length N.length body) := by
  obtain ⟨f, fd, hm, F⟩ := h
  obtain ⟨oc, od, kV, doc, pm, an, cdv, ct, osl, e, lk, _⟩ := id F.ex
  exact ⟨f, fd, hm, F.kp, F.binds hbd, fn_ok F S (fun cdv lc => hb f cdv ⟨hm, lc⟩), oc, od, osl, lk⟩
end
section
variable {X : Cx} {W : WX} {a b c e : Expr} {es : List Expr} {pos : Pos}
theorem opr_add : OpR X (binaryOp .Add) (rAddAll X.K) := op_add.or (op_add_str.or (op_catA.or op_cat))
theorem je_gi {x : Str} {i : Int} (hm : ∃ t, X.mg x = some (.int i t)) (hg : Gl X x := by rfl) (hd : (x == ("__debug__" : Str)) = false := by decide) : JE X W (.Name x pos) (eC (.int i)) := by
  obtain ⟨t, hm⟩ := hm
  exact je_gint hm hg hd
end
end FL
end
section
namespace FL
open PySem PySem.Spec PyProof.Rows L2
variable [TabsOf]
abbrev countCell (it : Addr) : Obj := { cls := .type "enumerate", data := .fields #[.none, .bool false, .ref it, rawInt 0, .none, .none] }
section
variable {v : Value} {o : Obj} {G : Heap → Prop}
theorem count_makes (B : Begins v o G) : Meets (Builtin.«enumerate.__new__» ⟨[.type "enumerate", v], []⟩) fun _ R s =>
    G s.heap ∧ R (.ok (.ret (.ref (s.heap.push o).objs.size))) { s with heap := (s.heap.push o).push (countCell s.heap.objs.size) } := .of_wp fun prog w A R s pre => by
  rcases s with ⟨hp, gs, dr, tk, os⟩
  rcases pre with ⟨ready, post⟩
  have own := sub_enumerate
  have iter_ : ∀ {B' : Around} {E : Value → Shared → Prop} {Q : Value → Shared → Prop}, Q (.ref hp.objs.size) ⟨hp.push o, gs, dr, tk, os⟩ → wpAny (model prog w) B' (pyIter v) Q E ⟨hp, gs, dr, tk, os⟩ :=
    fun q => B.iter prog w _ _ _ _ ready q
  wp_walk using iter_
  refine wpAny_stack_any fun _ => wpAny_pure ?_
  split
  · rename_i c _ _ _ _ _
    generalize (c == Value.type "enumerate") = k
    cases k <;> (wp_walk using iter_; exact ⟨_, rfl, post⟩)
  · wp_walk using iter_
    exact ⟨_, rfl, post⟩
theorem count_call {P : Program} {w : World} {A : Around} {E : Value → Shared → Prop} {Q : Value → Shared → Prop} {s : Shared} (B : Begins v o G) (ready : G s.heap)
    (post : ∀ h', h'.get? s.heap.objs.size = some o → IsEnum h' (s.heap.objs.size + 1) s.heap.objs.size 0 .none → (∀ b u, s.heap.get? b = some u → h'.get? b = some u) → Q (.ref (s.heap.objs.size + 1)) { s with heap := h' }) :
    wpAny (model P w) A (call (.type "enumerate") [v]) Q E s := by
  have next : (s.heap.push o).objs.size = s.heap.objs.size + 1 := Heap.size_push ..
  have cell := Heap.get?_push_size (s.heap.push o) (o := countCell s.heap.objs.size) rfl
  have all := post _ (Heap.get?_push_of_some _ (Heap.get?_push_size _ B.free)) (next ▸ cell) fun b u q => Heap.get?_push_of_some _ (Heap.get?_push_of_some _ q)
  refine callType_new F.called_enumerate (by decide) (F.typeCall_enumerate_1 v) (F.newCall_enumerate_1 v) (fun x => F.args_object_init_2 x v) F.entry_enumerate_new (count_makes B) ⟨ready, ?_⟩
  show _ ∧ _
  exact ⟨⟨_, cell, rfl⟩, next ▸ all⟩
end
theorem turn_made {P : Program} {w : World} {K : PySem.W.Frag} {elts : List Expr} {kk : Nat} {tpos : Pos} {J : It} {e : Addr} {ch : List Addr} {S : Nat → Heap → Prop} (mem : e ∈ ch)
    (obj : ∀ i h, S i h → ∀ b ∈ ch, ∃ o, h.get? b = some o ∧ ∀ v, o.data ≠ .cell v) (keep : ∀ i h h', S i h → (∀ b ∈ ch, ∀ o, h.get? b = some o → h'.get? b = some o) → S i h')
    (made : ∀ (X : Cx), X.prog = P → X.w = w → X.K = K → X.calm = true → ∀ (i : Nat) (pins : List (Addr × Obj)) (s : Shared) (σ : L2.St) (H : Hp), Inv X pins σ H s → S i s.heap → J.go i H →
      ∃ fp n Pt St Mid, WalksT P w X.A e fp ch n Pt St Mid ∧ i < n ∧ St i s.heap ∧ (∀ h, St (i + 1) h → S (i + 1) h) ∧
        ∀ cells : Array Value, Pt i cells → ∃ l : List V, l.length ≤ sizeLine ∧ Vals l cells.toList ∧ ∀ T, H T = none → J.yld i H (.ref T) (upd H T (.tup l)))
    (over : ∀ (X : Cx), X.prog = P → X.w = w → X.K = K → X.calm = true → ∀ (i : Nat) (pins : List (Addr × Obj)) (s : Shared) (σ : L2.St) (H : Hp) (E : Value → Shared → Prop), Inv X pins σ H s → (∀ b ∈ ch, FpOk X pins H b) → S i s.heap → J.stop i H →
      wpAny (model P w) X.A (pyNext (.ref e)) (fun r s1 => r = none ∧ Inv X pins σ H s1) E s)
    (self : ∀ (A : Around) (i : Nat) (s : Shared) (Q : Value → Shared → Prop) (E : Value → Shared → Prop), S i s.heap → Q (.ref e) s → wpAny (model P w) A (pyIter (.ref e)) Q E s) :
    Turn P w K (.Tuple elts kk tpos) J ch e S := by
  refine ⟨mem, obj, keep, ?_, over, self⟩
  intro X eP eW eK calm i pins s σ H E I new st go
  obtain ⟨fp, n, Pt, St, Mid, W, less, st', next, told⟩ := made X eP eW eK calm i pins s σ H I st go
  subst eP eW eK
  refine W.item i s _ E less st' fun T cells h1 tk pt above tup mid same => ⟨.ref T, rfl, W.go elts kk tpos i T _ _ _ mid fun h2 st2 same2 => ?_⟩
  obtain ⟨l, few, vals, yld⟩ := told cells pt
  have free : H T = none := I.hok.fresh above
  have tup2 : h2.IsTuple T cells := tup.at fun u q => same2 T u (W.apart i T h1 mid) q
  have J2 : Inv X pins σ (upd H T (.tup l)) { s with heap := h2, toks := tk } := I.turnedNew (fun b u out q => same2 b u out (same b u out q)) new above ⟨few, cells.toList, vals, show h2.IsTuple T cells.toList.toArray by simpa using tup2⟩
  refine ⟨.ref T, _, J2, rfl, yld T free, next h2 st2, fun b hb => ?_⟩
  have apart : b ≠ T := fun z => W.apart i T h1 mid (z ▸ hb)
  exact (upd_ne apart).trans (new b hb).1
/-- the tuple at a, each item in a new pair with its number -/
def ItEnT (K : PySem.W.Frag) (a : Addr) : It where
  go := fun i H => ∃ (xs : List V) (x : V), SqT K H a xs ∧ xs[i]? = some x
  yld := fun i H v H' => ∃ T x, v = .ref T ∧ H T = none ∧ H' = upd H T (.tup [.int (i : Nat), x]) ∧ ∀ xs, SqT K H a xs → xs[i]? = some x
  stop := fun i H => ∃ xs : List V, SqT K H a xs ∧ i = xs.length
theorem turn_enT {P : Program} {w : World} {K : PySem.W.Frag} {elts : List Expr} {kk : Nat} {tpos : Pos} (a e it : Addr) (hai : a ≠ it) :
    Turn P w K (.Tuple elts kk tpos) (ItEnT K a) [e, it] e (fun i h => (∃ old, IsEnum h e it ((i : Nat) : Int) old) ∧ h.IsTupleIter it a i ∧ e ≠ it ∧ a ≠ e) := by
  refine turn_made List.mem_cons_self ?_ (fun i h h' st k => ⟨st.1.imp fun _ q => k e (by simp) _ q, st.2.1.at fun o q => k it (by simp) o q, st.2.2⟩) ?_ ?_ fun A i s Q E st q => st.1.elim fun _ cell => wpAny_pyIter_enum cell q
  · intro i h st b hb
    obtain ⟨⟨_, cell⟩, ⟨o, itr, _, fields⟩, _⟩ := st
    simp only [List.mem_cons, List.not_mem_nil, or_false] at hb
    rcases hb with rfl | rfl
    · exact ⟨_, cell, fun v q => nomatch q⟩
    · exact ⟨o, itr, fun v q => by rw [fields] at q; cases q⟩
  · intro X eP eW eK calm i pins s σ H I st go
    subst eP eW eK
    obtain ⟨xs, x, seq, at_⟩ := go
    obtain ⟨⟨old, cell⟩, itr, d1, d2⟩ := st
    obtain ⟨its, vals, there, _⟩ := I.tuple seq
    obtain ⟨u, hu, ru⟩ := vals.get at_
    have less : i < its.toArray.size := by simpa using (List.getElem?_eq_some_iff.mp hu).1
    refine ⟨_, _, _, _, _, WalksT.enumerateD (Draws.tuple (A := X.A.in1) (I.ok.hd calm) it a hai its.toArray) e d1 (by simp [d1, Ne.symm d2]) (by simp), less, ⟨⟨old, cell⟩, itr, there⟩, fun h st => ⟨st.1, st.2.1, d1, d2⟩, fun cells pt => ?_⟩
    obtain ⟨t, y, at2, rfl⟩ := pt
    have : some y = some u := at2.symm.trans (by simpa using hu)
    cases this
    exact ⟨[.int (i : Nat), x], by show 2 ≤ sizeLine; decide, .cons ⟨_, rfl⟩ (.cons ru .nil), fun T free => ⟨T, x, rfl, free, rfl, fun ys other => by rw [I.tuple_inj other seq]; exact at_⟩⟩
  · intro X eP eW eK calm i pins s σ H E I new st stop
    subst eP eW eK
    obtain ⟨xs, seq, rfl⟩ := stop
    obtain ⟨⟨old, cell⟩, itr, d1, d2⟩ := st
    obtain ⟨its, vals, there, _⟩ := I.tuple seq
    have len : xs.length = its.toArray.size := by simpa using vals.length
    obtain ⟨n0, n1, n2, n3, n4, n5⟩ := new it (by simp)
    exact wpAny_pyNext_enum_endD (Draws.tuple (A := X.A.in1) (I.ok.hd calm) it a hai its.toArray) cell ⟨len ▸ itr, there⟩ fun h' ext => ⟨rfl, I.turned (t' := s.toks) (fun b o hb q => ext b o hb q) n0 n1 n3 n4 n5⟩
def iEnA (K : PySem.W.Frag) (ta : TA) : TI := fun σ H R => ta σ H fun vs H1 => ∃ a xs, vs = [.ref a] ∧ ((SqL K H1 a xs ∧ R (Ite K a) H1) ∨ (SqT K H1 a xs ∧ R (ItEnT K a) H1))
theorem pi_enA {X : Cx} {e : Expr} {ta : TA} {p pos tpos : Pos} {elts : List Expr} {kk : Nat} (hg : Gl X "enumerate") (hm : X.mg "enumerate" = none) (ha : PA X [e] ta) (hs : starEach [e] X.env = [(false, eval e X.env)] := by rfl) :
    PI X (.Tuple elts kk tpos) (.Call (.Name "enumerate" p) [e] [] pos) (iEnA X.K ta) := by
  constructor
  intro pins s σ H R I h
  refine Call_ (ld_blt I hg hm boot_enumerate (PyProof.Rows.callWith_type1 (thn (ha.run pos pins s σ H _ I h) ?_) hs rfl))
  rintro us t ⟨vs, H1, J, rs, a, xs, rfl, which⟩
  obtain ⟨u, rfl, ru⟩ := vals1 rs
  obtain rfl : u = Value.ref a := ru
  have newer : ∀ b ∈ [t.heap.objs.size + 1, t.heap.objs.size], FpOk X pins H1 b := by
    intro b hb
    have above : t.heap.objs.size ≤ b := by
      simp only [List.mem_cons, List.not_mem_nil, or_false] at hb
      rcases hb with rfl | rfl
      · exact Nat.le_succ _
      · exact Nat.le_refl _
    exact J.fpOk above (J.hok.fresh above)
  rcases which with ⟨seq, q⟩ | ⟨seq, q⟩
  · obtain ⟨its, _, there, _⟩ := J.list seq
    refine count_call (begins_list a its.toArray) there.isList fun h' itr cell old => wpAny_pyIter_enum cell ?_
    exact ⟨_, _, _, _, H1, rfl, J.kept (t' := t.toks) old, turn_enum a _ _, ⟨⟨.none, cell⟩, ⟨_, itr, rfl, rfl⟩, Nat.succ_ne_self _⟩, newer, q⟩
  · obtain ⟨its, _, there, _⟩ := J.tuple seq
    have there : t.heap.IsTuple a its.toArray := there
    have below : a < t.heap.objs.size := by obtain ⟨_, q, _⟩ := id there; exact Heap.lt_size q
    refine count_call (begins_tuple a its.toArray) there fun h' itr cell old => wpAny_pyIter_enum cell ?_
    exact ⟨_, _, _, _, H1, rfl, J.kept (t' := t.toks) old, turn_enT a _ _ (Nat.ne_of_lt below), ⟨⟨.none, cell⟩, ⟨_, itr, rfl, rfl⟩, Nat.succ_ne_self _, Nat.ne_of_lt (Nat.lt_succ_of_lt below)⟩, newer, q⟩
theorem walk_enT {K : PySem.W.Frag} {a : Addr} {xs : List V} : Walk (ItEnT K a) xs.length (fun H => SqT K H a xs) (YPair (fun i => some (.int (i : Nat))) (fun i => xs[i]?)) where
  goes := fun i H hi g => ⟨xs, xs[i], g, List.getElem?_eq_getElem hi⟩
  stops := fun H g => ⟨xs, g, rfl⟩
  yields := fun i H v H' hi g ⟨T, x, h1, h2, h3, h4⟩ => ⟨T, .int (i : Nat), x, h1, h2, h3, rfl, h4 xs g⟩
def enD (l : List Da) : List Da := (List.range l.length).map fun i => .tup [.int (i : Nat), l.getD i .non]
def iEnum (f : EM (List D)) : EM (List Da) := fun ρ S => (f ρ S).bind fun ds S1 => match ds with
  | [.v p] => (match seqP p with
    | some l => .ok (enD l) S1
    | none => .bad)
  | _ => .bad
theorem enD_len (l : List Da) : (enD l).length = l.length := by unfold enD; rw [List.length_map, List.length_range]
theorem enD_get {l : List Da} {i : Nat} {d : Da} (h : l[i]? = some d) : (enD l)[i]? = some (.tup [.int (i : Nat), d]) := by
  have hi := (List.getElem?_eq_some_iff.mp h).1
  unfold enD
  rw [List.getElem?_map, List.getElem?_range hi]
  simp [List.getD, h]
theorem pair_rel {K : PySem.W.Frag} {z : List Addr} {H : Hp} {T : Addr} {x y : V} {p q : Da} (hT : H T = none) (r1 : RP K z H p x) (r2 : RP K z H q y) : RP K z (upd H T (.tup [x, y])) (.tup [p, q]) (.ref T) :=
  .tup (SqT.of upd_same) (.cons (r1.same (same_upd hT)) (.cons (r2.same (same_upd hT)) .nil))
theorem walk_enRW {K : PySem.W.Frag} {z m : List Addr} {S : List Cell} {H : Hp} {l : List Da} {vs : List V} {J : It} {G : Hp → Prop} (R : RelS K z m S H) (r : RPs K z H l vs)
    (w : Walk J vs.length G (YPair (fun i => some (.int (i : Nat))) (fun i => vs[i]?))) (hG : ∀ z1 m1 H1, Ext z m H z1 m1 H1 → G H1) : RW K z m H (enD l) J := by
  rw [← r.len] at w
  unfold RW
  rw [enD_len]
  refine w.mono (fun H1 ⟨z1, m1, S1, x, s⟩ => hG z1 m1 H1 x) fun i H1 x H2 hi g ⟨T, a, b, e1, e2, e3, e4, e5⟩ => ?_
  subst e1; subst e3
  cases e4
  have e5 : vs[i]? = some b := e5
  obtain ⟨d, hd, _⟩ := r.getV e5
  refine ⟨same_upd e2, _, enD_get hd, fun z1 m1 S1 x1 s1 => ?_⟩
  obtain ⟨v, hv, hr⟩ := (r.ext R x1).get hd
  rw [e5] at hv; cases hv
  exact pair_rel e2 (.int _) hr
section
variable {X : Cx} {W : WX} {a b c e tg : Expr} {es : List Expr} {pos : Pos}
theorem ji_enum {f : EM (List D)} {p tpos : Pos} {elts : List Expr} {kk : Nat} (hm : X.mg "enumerate" = none) (ha : JA X W [a] f) (hg : Gl X "enumerate" := by rfl) (hs : starEach [a] X.env = [(false, eval a X.env)] := by rfl) : JI X W (.Tuple elts kk tpos) (.Call (.Name "enumerate" p) [a] [] pos) (iEnum f) := by
  refine pi_imp (pi_enA hg hm ha hs) fun σ H Q ⟨z, m, S, ρ, hS, hE, h⟩ => ?_
  refine tG_intro hS hE h fun ds S1 z1 m1 H1 vs e1 x1 s1 E1 r1 h1 => ?_
  split at h1
  · rename_i p
    cases r1 with | cons q1 q2 =>
    cases q2
    cases p with
    | lst l =>
      cases q1 with
      | lst g1 g2 g3 => exact ⟨_, _, rfl, .inl ⟨SqL.of g1, h1 z1 m1 H1 _ .refl s1 (walk_enRW s1 g3 walk_enum fun z2 m2 H2 x2 => SqL.of (x2.keep _ _ g1 (.inl ⟨fun q => g2 (s1.sub _ q), trivial⟩)))⟩⟩
    | flst l =>
      cases q1 with
      | flst g1 g3 => exact ⟨_, _, rfl, .inl ⟨g1.sq, h1 z1 m1 H1 _ .refl s1 (walk_enRW s1 g3 walk_enum fun z2 m2 H2 x2 => (x2.keep.fz g1).sq)⟩⟩
    | tup l =>
      cases q1 with
      | tup g1 g3 => exact ⟨_, _, rfl, .inr ⟨g1, h1 z1 m1 H1 _ .refl s1 (walk_enRW s1 g3 walk_enT fun z2 m2 H2 x2 => x2.keep.sqT g1)⟩⟩
    | non => exact h1.elim
    | bl b => exact h1.elim
    | int i => exact h1.elim
    | str x => exact h1.elim
    | dct k v => exact h1.elim
    | dck k v => exact h1.elim
    | ref a => exact h1.elim
    | ty n => exact h1.elim
  · exact h1.elim
def zipD (l k : List Da) : List Da := (List.range (min l.length k.length)).map fun i => .tup [l.getD i .non, k.getD i .non]
def iZip (f : EM (List D)) : EM (List Da) := fun ρ S => (f ρ S).bind fun ds S1 => match ds with
  | [.v (.lst l), .v (.lst k)] => .ok (zipD l k) S1
  | [.v (.tup l), .v (.tup k)] => .ok (zipD l k) S1
  | _ => .bad
end
end FL
end
section
namespace PySem
open HT PySem.Calls PyProof.Rows
section
variable {prog : Program} {w : World} {A : Around} {E : Value → Shared → Prop} {s : Shared}
end
end PySem
namespace FL
open PySem PySem.Spec PyProof.Rows L2
variable [TabsOf]
section
variable {X : Cx} {W : WX} {a b c e tg : Expr} {es : List Expr} {pos : Pos}
def revP : Da → Option Da
  | .lst l => some (.lst l.reverse)
  | .tup l => some (.tup l.reverse)
  | _ => none
def eRev (f : EM D) : EM D := fun ρ S => (f ρ S).bind fun d S1 => match view S1 d with
  | some p => (match revP p with
    | some r => .ok (.v r) S1
    | none => .bad)
  | none => .bad
def powOk (i j : Int) : Bool := decide (0 ≤ j) && decide (j ≤ 1000) && decide (i.natAbs < 2 ^ 64)
abbrev powP : Da → Da → Option Da := iOpC powOk fun i j => i ^ j.toNat
theorem powOk_to (i j : Int) (h : powOk i j = true) : CPow i j := by
  unfold powOk at h
  rw [Bool.and_eq_true, Bool.and_eq_true] at h
  have a1 := of_decide_eq_true h.1.1
  have a2 := of_decide_eq_true h.1.2
  have a3 := of_decide_eq_true h.2
  exact ⟨a1, by omega, a3⟩
structure Mu (a : Addr) (o : HO) : Prop where
  nim : ¬ Im o
  ntb : ∀ ps, o ≠ .tbl ps
  nco : ∀ q, o ≠ LamX.CodeO a q
theorem mu_lst {a : Addr} {vs : List V} : Mu a (.lst vs) := ⟨fun q => q, fun _ e => (nomatch e), fun q e => by unfold LamX.CodeO at e; cases e⟩
theorem mu_raw {a : Addr} {P : Program} {w : World} {xs : List (List Key × Addr × V)} : Mu a (dRaw P w a xs) := ⟨fun q => q, fun _ e => (by unfold dRaw at e; cases e), fun _ => dRaw_ne_code⟩
theorem keep_write {K : PySem.W.Frag} {z : List Addr} {H : Hp} {a : Addr} {o o' : HO} (hz : a ∈ z) (ho : H a = some o) (hm : Mu a o) : Keep z H (upd H a o') := fun b u e h => by
  have : b ≠ a := fun q => by
    subst q
    rw [ho] at e; cases e
    rcases h with h | h
    · exact h.1 hz
    · exact hm.nim h
  rw [upd_ne this]; exact e
theorem RelS.write {K : PySem.W.Frag} {z m : List Addr} {S : List Cell} {H : Hp} {n : Nat} {a : Addr} {o o' : HO} {c' : Cell} (R : RelS K z m S H) (h : m[n]? = some a) (ho : H a = some o) (hm : Mu a o) (hc' : RC K z m (upd H a o') a c') (ko : NTb o' := by first | trivial | (unfold dRaw; trivial)) : RelS K z m (S.set n c') (upd H a o') where
  len := by rw [List.length_set, R.len]
  nd := R.nd
  sub := R.sub
  live := fun b hb n => R.live b hb (n.upd ko)
  cell := fun i b c h1 h2 => by
    have kz : Keep z H (upd H a o') := keep_write (K := K) (R.sub a (List.mem_of_getElem? h)) ho hm
    have ps : ∀ {l : List Da} {vs : List V}, RPs K z H l vs → RPs K z (upd H a o') l vs := fun h => RPs.mono kz (fun _ q1 q2 => absurd q1 q2) _ _ h
    by_cases e : i = n
    · subst e
      rw [h1] at h; cases h
      have hn : i < S.length := by rw [← R.len]; exact (List.getElem?_eq_some_iff.mp h1).1
      rw [List.getElem?_set_self hn] at h2
      cases h2
      exact hc'
    · rw [List.getElem?_set_ne (Ne.symm e)] at h2
      have ne : b ≠ a := fun q => e (nodup_inj R.nd h1 (by rw [q]; exact h))
      cases R.cell i b c h1 h2 with
      | lst g1 g2 => exact .lst (by rw [upd_ne ne]; exact g1) (ps g2)
      | dK g1 g2 g3 => exact .dK (by rw [upd_ne ne]; exact g1) g2 (ps g3)
      | dR g1 g2 g3 => exact .dR (by rw [upd_ne ne]; exact g1) (g2.keep kz) (ps g3)
      | ins g1 g2 => exact .ins (by rw [upd_ne ne]; exact g1) (RFs.kz kz (fun _ q1 q2 => absurd q1 q2) g2)
      | gone => exact .gone
  tabs := tabs_upd R.tabs (fun ps e => hm.ntb ps (by rw [ho] at e; exact Option.some.inj e)) (fun q e => hm.nco q (by rw [ho] at e; exact Option.some.inj e))
theorem Ext.write {z m : List Addr} {H : Hp} {n : Nat} {a : Addr} {o o' : HO} (h : m[n]? = some a) (ho : H a = some o) (hm : Mu a o) (ko : NTb o' := by first | trivial | (unfold dRaw; trivial)) : Ext z m H z m (upd H a o') :=
  ⟨⟨[], by simp, by simp⟩, ⟨[], by simp, by simp⟩, fun b u e h' => by
    have : b ≠ a := fun q => by
      subst q
      rw [ho] at e; cases e
      rcases h' with h' | h'
      · exact h'.1 (List.mem_of_getElem? h)
      · exact hm.nim h'
    rw [upd_ne this]; exact e, fun b hb => hb.upd ko⟩
theorem RPs.write {K : PySem.W.Frag} {z : List Addr} {H : Hp} {a : Addr} {o o' : HO} {l : List Da} {vs : List V} (hz : a ∈ z) (ho : H a = some o) (hm : Mu a o) (h : RPs K z H l vs) : RPs K z (upd H a o') l vs := RPs.mono (keep_write (K := K) hz ho hm) (fun _ q1 q2 => absurd q1 q2) _ _ h
theorem RelS.listAt {K : PySem.W.Frag} {z m : List Addr} {S : List Cell} {H : Hp} {n : Nat} {a : Addr} {l : List Da} (R : RelS K z m S H) (h : m[n]? = some a) (hc : S[n]? = some (.lst l)) : ∃ vs, H a = some (.lst vs) ∧ RPs K z H l vs := by
  cases R.cell n a _ h hc with
  | lst g1 g2 => exact ⟨_, g1, g2⟩
def lstOf (S : List Cell) (d : D) : Option (Nat × List Da) := match d with
  | .o n => (match S[n]? with
    | some (.lst l) => some (n, l)
    | _ => none)
  | _ => none
theorem lstOf_rel {K : PySem.W.Frag} {z m : List Addr} {S : List Cell} {H : Hp} {d : D} {v : V} {n : Nat} {l : List Da} (R : RelS K z m S H) (r : RD K z m H d v) (h : lstOf S d = some (n, l)) : ∃ a vs, m[n]? = some a ∧ v = .ref a ∧ H a = some (.lst vs) ∧ RPs K z H l vs ∧ S[n]? = some (.lst l) ∧ d = .o n := by
  cases d with
  | v p => cases h
  | o k =>
    unfold lstOf at h
    cases c : S[k]? with
    | none => simp only [c] at h; cases h
    | some c' =>
      cases c' with
      | lst l' =>
        simp only [c] at h
        cases h
        obtain ⟨a, h1, h2⟩ := r
        obtain ⟨vs, g1, g2⟩ := R.listAt h1 c
        exact ⟨a, vs, h1, h2, g1, g2, c, rfl⟩
      | dct ks vs => simp only [c] at h; cases h
      | dck ks vs => simp only [c] at h; cases h
      | ins C fs => simp only [c] at h; cases h
      | gone => simp only [c] at h; cases h
/-- xs.append(e) -/
def eAppend (f g : EM D) : EM D := fun ρ S => (f ρ S).bind fun d S1 => match lstOf S1 d with
  | some _ => (g ρ S1).bind fun e S2 => (match lstOf S2 d, e with
    | some (n, l), .v p => if l.length < 1000000 then .ok (.v .non) (S2.set n (.lst (l ++ [p]))) else .bad
    | _, _ => .bad)
  | none => .bad
theorem je_append {o : Expr} {f g : EM D} {apos cpos : Pos} (ho : JE X W o f) (ha : JE X W a g) (hbase : attributeBase o "append" X.env (eval o X.env) = eval o X.env := by rfl)
    (hfew : ((backTo cpos (starEach [a] X.env)).all (fun x => !x.1) && (backToKw cpos (keywordEach [] X.env)).all (fun x => x.1.isSome) && decide ([a].length + ([] : List Keyword).length + (if ([] : List Keyword).isEmpty then 0 else 1) < 30)) = true := by rfl)
    (hline : (apos.endLine == cpos.line) = true := by rfl) (hst : starEach [a] X.env = (false, eval a X.env) :: starEach [] X.env := by rfl) (hpl : (backTo cpos (starEach [] X.env)).any (·.1) = false := by rfl) : JE X W (.Call (.Attribute o "append" apos) [a] [] cpos) (eAppend f g) := by
  refine pe_imp (pe_bm PySem.F.plainAttrs_list PySem.F.slot_list_append PySem.F.type_list_append mt_append ho (pa_cons ha pa_nil hst) hbase hfew hline hst hpl) fun σ H Q ⟨z, m, S, ρ, hS, hE, h⟩ => ?_
  refine tG_intro hS hE h fun d S1 z1 m1 H1 v e1 x1 s1 E1 r1 h1 => ?_
  cases c1 : lstOf S1 d with
  | none => simp only [c1] at h1; exact h1.elim
  | some nl =>
    obtain ⟨n, l⟩ := nl
    simp only [c1] at h1
    obtain ⟨a1, vs, k1, rfl, k2, k3, k4, rfl⟩ := lstOf_rel s1 r1 c1
    refine ⟨.inl ⟨rfl, vs, SqL.of k2⟩, ?_⟩
    refine tG_intro s1 E1 h1 fun d2 S2 z2 m2 H2 v2 e2 x2 s2 E2 r2 h2 => ?_
    split at h2
    · rename_i n' l' p c2
      split at h2
      · rename_i hl
        obtain ⟨a2, ws, j1, j2, j3, j4, j5, j6⟩ := lstOf_rel s2 (r1.ext s1 x2) c2
        cases j2
        refine ⟨a1, ws, v2, rfl, rfl, j3, by rw [← j4.len]; exact Nat.lt_of_lt_of_le hl line_big, ?_⟩
        have nim : Mu a1 (.lst ws) := mu_lst
        exact h2 z2 m2 _ .non (.write j1 j3 nim) (s2.write j1 j3 nim (.lst upd_same (RPs.write (s2.sub a1 (List.mem_of_getElem? j1)) j3 nim (j4.append (.cons r2 .nil))))) .non
      · exact h2.elim
    · exact h2.elim
/-- xs[i] = e -/
def setIx (S : List Cell) (d : D) (i : D) (p : Da) : Option (List Cell) := match lstOf S d, i with
  | some (n, l), .v (.int k) => (match ixN l.length k with
    | some j => some (S.set n (.lst (l.set j p)))
    | none => none)
  | _, _ => none
def sSetIx (f o i : EM D) : SM := sThen f fun d => sThen o fun od => sThen i fun id ρ S => match d with
  | .v p => (match setIx S od id p with
    | some S' => .nx ρ S'
    | none => .bad)
  | _ => .bad
theorem setIx_rel {K : PySem.W.Frag} {z m : List Addr} {S S' : List Cell} {H : Hp} {d i : D} {p : Da} {ov iv v : V} {Q : Hp → Prop} (R : RelS K z m S H) (ro : RD K z m H d ov) (ri : RD K z m H i iv) (rv : RP K z H p v) (h : setIx S d i p = some S')
    (k : ∀ H', Ext z m H z m H' → RelS K z m S' H' → Q H') : rSetL ov iv v H Q := by
  unfold setIx at h
  split at h
  · rename_i n l kk c
    split at h
    · rename_i j hj
      cases h
      obtain ⟨a, vs, k1, rfl, k2, k3, k4, rfl⟩ := lstOf_rel R ro c
      cases ri
      have nim : Mu a (.lst vs) := mu_lst
      refine ⟨a, vs, _, j, rfl, rfl, k2, by rw [← k3.len]; exact hj, k _ (.write k1 k2 nim) (R.write k1 k2 nim (.lst upd_same ?_))⟩
      exact RPs.write (R.sub a (List.mem_of_getElem? k1)) k2 nim (RPs.set rv j k3)
    · cases h
  · cases h
theorem js_setIx {o i : Expr} {f fo fi : EM D} {tpos : Pos} (he : JE X W e f) (ho : JE X W o fo) (hi : JE X W i fi) (ha : ∀ v, assign (.Subscript o i tpos) X.env v = (do let ov ← holding [v] (eval o X.env); let iv ← holding [v, ov] (eval i X.env); standAt tpos; holding [v, ov, iv] (setItem ov iv v); release [v, ov, iv] []) := by intro _; rfl)
    (hs : swapsWithSole [.Subscript o i tpos] e pos.line X.env = pure false := by rfl) (hw : swappedStores [.Subscript o i tpos] e X.env = pure none := by rfl) (h1 : (assignEach [.Subscript o i tpos] X.env).map (·.2) = [assign (.Subscript o i tpos) X.env] := by rfl) : JS X W (.Assign [.Subscript o i tpos] e pos) (sSetIx f fo fi) := by
  refine ps_imp (ps_asg he (pg_sub ho hi set_list ha) hs hw h1) fun D σ H ⟨z, m, S, ρ, hS, hE, h⟩ => ?_
  refine tS_intro hS hE h fun d S1 z1 m1 H1 v e1 x1 s1 E1 r1 h1 => ?_
  refine tS_intro s1 E1 h1 fun od S2 z2 m2 H2 ov e2 x2 s2 E2 r2 h2 => ?_
  refine tS_intro s2 E2 h2 fun id S3 z3 m3 H3 iv e3 x3 s3 E3 r3 h3 => ?_
  cases d with
  | o n => exact h3.elim
  | v p =>
    simp only at h3
    cases c : setIx S3 od id p with
    | none => simp only [c] at h3; exact h3.elim
    | some S' =>
      simp only [c] at h3
      exact setIx_rel s3 (r2.ext s2 x3) r3 (RP.ext s2 x3 (RP.ext s1 x2 r1)) c fun H' x s => h3 z3 m3 H' σ x s (E3.ext s3 x)
/-- xs[i], name = a pair -/
def sUnpIx (f o i : EM D) (j : Nat) : SM := sThen f fun d => match d with
  | .v (.tup [p, q]) => sThen o fun od => sThen i fun id ρ S => (match setIx S od id p with
    | some S' => .nx (ρ.set j (some (.v q))) S'
    | none => .bad)
  | _ => fun _ _ => .bad
theorem js_unpIx {o i : Expr} {f fo fi : EM D} {x : Str} {j k : Nat} {tpos npos tp2 : Pos} (hN : X.N.Nodup) (he : JE X W e f) (ho : JE X W o fo) (hi : JE X W i fi) (hj : X.N[j]? = some x := by rfl) (hx : Loc X.env.scope x := by exact Or.inl rfl)
    (ha : ∀ v, assign (.Subscript o i tpos) X.env v = (do let ov ← holding [v] (eval o X.env); let iv ← holding [v, ov] (eval i X.env); standAt tpos; holding [v, ov, iv] (setItem ov iv v); release [v, ov, iv] []) := by intro _; rfl)
    (hc : X.calm = true := by rfl) (hf : X.fn x = true ∨ X.env.scope.names.lookup x = some .local := by first | exact .inl rfl | exact .inr rfl | assumption)
    (g1 : (assignEach (.Subscript o i tpos :: [.Name x npos]) X.env).map (·.2) = assign (.Subscript o i tpos) X.env :: (assignEach [.Name x npos] X.env).map (·.2) := by rfl) (g2 : (assignEach (.Name x npos :: []) X.env).map (·.2) = assign (.Name x npos) X.env :: (assignEach [] X.env).map (·.2) := by rfl)
    (hn : (assignEach [.Subscript o i tpos, .Name x npos] X.env).length = 2 := by rfl) (hst : (assignEach [.Subscript o i tpos, .Name x npos] X.env).findIdx? (·.1) = none := by rfl)
    (hs : swapsWithSole [.Tuple [.Subscript o i tpos, .Name x npos] k tp2] e pos.line X.env = pure false := by rfl) (hw : swappedStores [.Tuple [.Subscript o i tpos, .Name x npos] k tp2] e X.env = pure none := by rfl)
    (h1 : (assignEach [.Tuple [.Subscript o i tpos, .Name x npos] k tp2] X.env).map (·.2) = [assign (.Tuple [.Subscript o i tpos, .Name x npos] k tp2) X.env] := by rfl) : JS X W (.Assign [.Tuple [.Subscript o i tpos, .Name x npos] k tp2] e pos) (sUnpIx f fo fi j) := by
  refine ps_imp (ps_asg he (pg_tup hc (pgs_cons (pg_sub ho hi set_list ha) (pgs_cons (pg_name hN hj hx hf) pgs_nil g2) g1) hn hst) hs hw h1) fun D σ H ⟨z, m, S, ρ, hS, hE, h⟩ => ?_
  refine tS_intro hS hE h fun d S1 z1 m1 H1 v e1 x1 s1 E1 r1 h1 => ?_
  split at h1
  · rename_i p q
    cases r1 with
    | tup k1 k2 =>
      cases k2 with | cons k3 k4 =>
      cases k4 with | cons k5 k6 =>
      cases k6
      refine ⟨_, _, rfl, k1, rfl, _, _, rfl, ?_⟩
      refine tS_intro s1 E1 h1 fun od S2 z2 m2 H2 ov e2 x2 s2 E2 r2 h2 => ?_
      refine tS_intro s2 E2 h2 fun id S3 z3 m3 H3 iv e3 x3 s3 E3 r3 h3 => ?_
      cases c : setIx S3 od id p with
      | none => simp only [c] at h3; exact h3.elim
      | some S' =>
        simp only [c] at h3
        refine setIx_rel s3 (r2.ext s2 x3) r3 (RP.ext s2 x3 (RP.ext s1 x2 k3)) c fun H' x s => ⟨_, _, rfl, rfl, ?_⟩
        have k5' : RP X.K z3 H' q _ := RP.ext s3 x (RP.ext s2 x3 (RP.ext s1 x2 k5))
        exact h3 z3 m3 H' _ x s ((E3.ext s3 x).set (d := .v q) k5' j)
  · exact h1.elim
end
end FL
end
section
namespace FL
open PySem PySem.Spec PyProof.Rows L2
variable [TabsOf]
variable {y : Bool}
section
variable {X : Cx} {W : WX} {a b c e tg : Expr} {es : List Expr} {pos : Pos}
def sPar3 (i j l : Nat) (f : EM (List D)) : SM := sThen f fun ds ρ S => match ds with
  | [d, d', d2] => .nx (((ρ.set i (some d)).set j (some d')).set l (some d2)) S
  | _ => .bad
theorem js_par3 {i j l : Nat} {x y z : Str} {f : EM (List D)} {px py pz pt : Pos} {kt k2 pt2} (hN : X.N.Nodup) (hij : i ≠ j) (hil : i ≠ l) (hjl : j ≠ l) (ha : JA X W [a, b, c] f)
    (hw : swappedStores [.Tuple [.Name x px, .Name y py, .Name z pz] kt pt] (.Tuple [a, b, c] k2 pt2) X.env = pure (some [x, y, z]))
    (hc : X.calm = true := by rfl) (hi : X.N[i]? = some x := by rfl) (hj : X.N[j]? = some y := by rfl) (hl : X.N[l]? = some z := by rfl) (hx : X.env.scope.names.lookup x = some .local := by rfl) (hy : X.env.scope.names.lookup y = some .local := by rfl) (hz : X.env.scope.names.lookup z = some .local := by rfl)
    (hs : swapsWithSole [.Tuple [.Name x px, .Name y py, .Name z pz] kt pt] (.Tuple [a, b, c] k2 pt2) pos.line X.env = pure false := by rfl) :
    JS X W (.Assign [.Tuple [.Name x px, .Name y py, .Name z pz] kt pt] (.Tuple [a, b, c] k2 pt2) pos) (sPar3 i j l f) := by
  refine ps_imp (ps_par3 hc hN hi hj hl hij hil hjl hx hy hz ha hw hs) fun D σ H ⟨zz, m, S, ρ, hS, hE, h⟩ => ?_
  refine tS_intro hS hE h fun ds S1 z1 m1 H1 vs e1 x1 s1 E1 r1 h1 => ?_
  split at h1
  · cases r1 with | cons q1 q2 =>
    cases q2 with | cons q3 q4 =>
    cases q4 with | cons q5 q6 =>
    cases q6
    exact ⟨_, _, _, rfl, h1 z1 m1 H1 _ .refl s1 (((E1.set q1 i).set q3 j).set q5 l)⟩
  · exact h1.elim
def JK (X : Cx) (W : WX) (kws : List Keyword) (f : EM (List D)) : Prop := PK X kws (tA X.K W f)
theorem pk_imp {kws : List Keyword} {t t' : TA} (h : PK X kws t) (i : ∀ σ H Q, t' σ H Q → t σ H Q) : PK X kws t' := ⟨fun pos pins s σ H Q I q => h.run pos pins s σ H Q I (i σ H Q q)⟩
theorem jk_nil : JK X W [] aNil := pk_imp pk_nil fun σ H Q ⟨z, m, S, ρ, hS, hE, h⟩ => h z m H [] .refl hS .nil
theorem jk_cons {nm : Option Str} {kpos : Pos} {kws : List Keyword} {f : EM D} {g : EM (List D)} (ha : JE X W e f) (hr : JK X W kws g) : JK X W (⟨nm, e, kpos⟩ :: kws) (aCons f g) := by
  refine pk_imp (pk_cons ha hr) fun σ H Q ⟨z, m, S, ρ, hS, hE, h⟩ => ?_
  refine tG_intro hS hE h fun d S1 z1 m1 H1 v e1 x1 s1 E1 r1 h1 => ?_
  refine tG_intro s1 E1 h1 fun ds S2 z2 m2 H2 vs e2 x2 s2 E2 r2 h2 => ?_
  exact h2 z2 m2 H2 (v :: vs) .refl s2 (.cons (r1.ext s1 x2) r2)
/-- the keywords' values in the parameters' order -/
def kwG (n : Nat) (perm : List Nat) (us ws : List Value) : List Value := if us.length = n ∧ ws.length = perm.length then us ++ perm.map (fun i => ws.getD i .none) else []
def kwV (n : Nat) (perm : List Nat) (us ws : List V) : List V := if us.length = n ∧ ws.length = perm.length then us ++ perm.map (fun i => ws.getD i .non) else []
def kwD (n : Nat) (perm : List Nat) (us ws : List D) : List D := if us.length = n ∧ ws.length = perm.length then us ++ perm.map (fun i => ws.getD i (.v .non)) else []
theorem vals_getD {zs : List V} {ws : List Value} (r : Vals zs ws) (i : Nat) : RelV (zs.getD i .non) (ws.getD i .none) := by
  cases c : zs[i]? with
  | some v =>
    obtain ⟨u, h1, h2⟩ := Vals.get r c
    simp only [List.getD, c, h1, Option.getD_some]; exact h2
  | none =>
    have := Vals.none_of r c
    simp only [List.getD, c, this, Option.getD_none]; rfl
theorem kw_rel {n : Nat} {perm : List Nat} {vs : List V} {us : List Value} {zs : List V} {ws : List Value} (r : Vals vs us) (q : Vals zs ws) : Vals (kwV n perm vs zs) (kwG n perm us ws) := by
  unfold kwV kwG
  rw [r.length, q.length]
  split
  · refine r.append ?_
    induction perm with
    | nil => exact .nil
    | cons i p ih => exact .cons (vals_getD q i) (by
        have : ∀ p : List Nat, Vals (p.map fun i => zs.getD i .non) (p.map fun i => ws.getD i .none) := fun p => by
          induction p with
          | nil => exact .nil
          | cons i p ih => exact .cons (vals_getD q i) ih
        exact this p)
  · exact .nil
theorem RDs.getD {K : PySem.W.Frag} {z m : List Addr} {H : Hp} : ∀ {ds : List D} {vs : List V} (i : Nat), RDs K z m H ds vs → RD K z m H (ds.getD i (.v .non)) (vs.getD i .non)
  | _, _, _, .nil => .non
  | _, _, 0, .cons h _ => h
  | _, _, i + 1, .cons _ t => RDs.getD i t
theorem RDs.append {K : PySem.W.Frag} {z m : List Addr} {H : Hp} : ∀ {ds es : List D} {vs ws : List V}, RDs K z m H ds vs → RDs K z m H es ws → RDs K z m H (ds ++ es) (vs ++ ws)
  | _, _, _, _, .nil, s => s
  | _, _, _, _, .cons r t, s => .cons r (RDs.append t s)
theorem kwD_rel {K : PySem.W.Frag} {z m : List Addr} {H : Hp} {n : Nat} {perm : List Nat} {ds es : List D} {vs ws : List V} (r : RDs K z m H ds vs) (q : RDs K z m H es ws) : RDs K z m H (kwD n perm ds es) (kwV n perm vs ws) := by
  unfold kwD kwV
  rw [r.len, q.len]
  split
  · refine r.append ?_
    have : ∀ p : List Nat, RDs K z m H (p.map fun i => es.getD i (.v .non)) (p.map fun i => ws.getD i .non) := fun p => by
      induction p with
      | nil => exact .nil
      | cons i p ih => exact .cons (RDs.getD i q) ih
    exact this perm
  · exact .nil
theorem kbinds {K : PySem.W.Frag} {x : Str} {st : Stmt} {f : Addr} {fd : FuncData} {ps ks : List Str} {n : Nat} {perm : List Nat} (F : Fun K x x st f fd) (h0 : ps ≠ [])
    (h : ∀ (kV doc pm : Value) (an : Option Addr) (cdv ct : Value) (us ws : List Value), us.length = n → ws.length = perm.length → bindArgs (PySem.W.fnOf x x (defArgs st) (defBody st) (defScope st) .none kV doc pm an cdv ct) ⟨us, ks.zip ws⟩ = pure (ps.zip (us ++ perm.map (fun i => ws.getD i .none)))) :
    KBinds K fd ps ks (kwG n perm) (kwV n perm) := by
  obtain ⟨oc, od, kV, doc, pm, an, cdv, ct, osl, rfl, lk, hcd⟩ := F.ex
  refine ⟨fun s us ws hK hl => ?_, fun r q => kw_rel r q⟩
  unfold kwG at hl ⊢
  split at hl
  · rename_i hh
    rw [if_pos hh]
    exact .of_eq (h kV doc pm an cdv ct us ws hh.1 hh.2)
  · exact absurd (List.eq_nil_of_length_eq_zero hl.symm) h0
def tCallKS (sp : Sp) (gV : List V → List V → List V) (E : L2.St → XK) (t tk : TA) : TE := fun σ H Q => t σ H fun vs H1 => tk σ H1 fun zs H2 => sp (gV vs zs) H2 Q (E σ)
def eCallK (n : Nat) (F : Fn) (np : Nat) (perm : List Nat) (f g : EM (List D)) : EM D := fun ρ S => (f ρ S).bind fun ds S1 => (g ρ S1).bind fun es S2 => (callF n F (kwD np perm ds es) S2).bind fun r S3 => .ok (rvD r) S3
theorem tG_callK {K : PySem.W.Frag} {F : Fn} {f g : EM (List D)} {n np : Nat} {perm : List Nat} {σ : L2.St} {H : Hp} {Q : VK} (h : tE K W (eCallK n F np perm f g) σ H Q) : tFrz (tCallKS (spF K n F) (kwV np perm) (WE W) (tA K W f) (tA K W g)) σ H Q := by
  obtain ⟨z, m, S, ρ, hS, hE, h⟩ := h
  refine tG_intro hS hE h fun ds S1 z1 m1 H1 vs e1 x1 s1 E1 r1 h1 => ?_
  refine tG_intro s1 E1 h1 fun es S2 z2 m2 H2 ws e2 x2 s2 E2 r2 h2 => ?_
  refine sp_call s2 (kwD_rel (r1.ext s1 x2) r2) ?_
  cases c : callF n F (kwD np perm ds es) S2 with
  | bad => simp only [c, ER.bind] at h2; exact h2.elim
  | err C fs S3 =>
    simp only [c, ER.bind] at h2
    exact fun H' x s => h2 z2 m2 H' x s
  | ok rv S3 =>
    simp only [c, ER.bind] at h2
    cases rv with
    | v p => exact fun H' v x s r => .inl (h2 z2 m2 H' v x s r)
    | o n => exact fun H' a x s ha => .inl (h2 z2 m2 H' _ x s ⟨a, ha, rfl⟩)
    | nl l => exact fun H' a vs x s hn ha r => .inl (h2 z2 m2 H' _ x (s.lessz (fun b hb => List.mem_append_left _ hb) s2.sub) (.lst ha (fun q => s2.live a q hn) (r.lessz fun b hb => List.mem_append_left _ hb)))
    | nd ks vs => exact fun H' a u x s hn ha hd => .inr ⟨a, u, rfl, ha, hd.dk.2, fun od => h2 z2 m2 _ _ (x.frz hn) (s.at_ hd.dk.1 ha fun q => s2.live a (s2.sub a q) hn) (hd.rp ha)⟩
/-- the same object under two views of a def -/
theorem fun_same {K : PySem.W.Frag} {mg : Str → Option Value} {x : Str} {st : Stmt} {f f' : Addr} {fd fd' : FuncData} (h1 : mg x = some (.ref f)) (F : Fun K x x st f fd) (h2 : mg x = some (.ref f')) (l : ∃ oc od osl, K.lookup f' = some ⟨oc, od, .func fd', osl⟩) : f = f' ∧ fd = fd' := by
  rw [h1] at h2
  cases h2
  obtain ⟨oc, od, osl, l⟩ := l
  obtain ⟨oc2, od2, kV, doc, pm, an, cdv, ct, osl2, e, lk, _⟩ := F.ex
  rw [lk] at l
  cases l
  exact ⟨rfl, rfl⟩
theorem pe_callKS0 {k : Nat} {f : Addr} {fd : FuncData} {x : Str} {p : Pos} {kws : List Keyword} {tk : TA} {ps ks : List Str} {sp : Sp} {E : L2.St → XK} {g : List Value → List Value → List Value} {gV : List V → List V → List V} (F : FnG y X.prog X.w X.K X.mg X.base k f fd ps sp) (hr : RoomG y k X.A) (hg : Gl X x) (hm : X.mg x = some (.ref f)) (hk : PySem.W.keepIn X.K (.ref f) = true) (hb : KBinds X.K fd ps ks g gV) (hx : ∀ σ, PassesAt (L2.CX X.prog X.w) X σ (E σ))
    (hkw : PK X kws tk) (hall : (backToKw pos (keywordEach kws X.env)).all (·.1.isSome) = true) (hks : (backToKw pos (keywordEach kws X.env)).filterMap (·.1) = ks)
    (hdb : (x == ("__debug__" : Str)) = false) (hpl : ((backTo pos (starEach [] X.env)).any (·.1) || (backToKw pos (keywordEach kws X.env)).any (·.1.isNone)) = false) :
    PE X (.Call (.Name x p) [] kws pos) (tCallKS sp gV E tNil tk) := by
  refine ⟨fun pins s σ H Q I h => ?_⟩
  refine wpAny_Call_Name_kw (ld_glob I hg hm ?_ hdb)
  refine PySem.W.callWith_KW0 (h₀ := X.base) I.ok.mod.kin hk hall (thn (hkw.run pos pins s σ H _ I h) fun ws s2 ⟨zs, H2, I2, rz, q2⟩ => ⟨I2.kIn, ?_⟩) hpl
  rw [hks]
  exact run_fng (ar := ⟨[], ks.zip ws⟩) F hr (hb.to s2 [] ws I2.kIn (by rw [← (hb.rel (vs := []) .nil rz).length]; exact F.ln _ _ _ _ q2)) (hx σ) I2 (hb.rel (vs := []) .nil rz) q2
theorem je_callK0 {x : Str} {st : Stmt} {k : Nat} {perm : List Nat} {ps ks : List Str} {F : Fn} {g : EM (List D)} {p : Pos} {kws : List Keyword} (G : DefOk y X.prog X.w X.K X.mg X.base x k ps F) (T : ∃ (f : Addr) (fd : FuncData), X.mg x = some (.ref f) ∧ Fun X.K x x st f fd) (h0 : ps ≠ [])
    (hb : ∀ (kV doc pm : Value) (an : Option Addr) (cdv ct : Value) (us ws : List Value), us.length = 0 → ws.length = perm.length → bindArgs (PySem.W.fnOf x x (defArgs st) (defBody st) (defScope st) .none kV doc pm an cdv ct) ⟨us, ks.zip ws⟩ = pure (ps.zip (us ++ perm.map (fun i => ws.getD i .none))))
    (hr : RoomG y k X.A) (tk : Takes X W) (hk2 : JK X W kws g) (hg : Gl X x := by rfl) (hall : (backToKw pos (keywordEach kws X.env)).all (·.1.isSome) = true := by rfl) (hks : (backToKw pos (keywordEach kws X.env)).filterMap (·.1) = ks := by rfl)
    (hdb : (x == ("__debug__" : Str)) = false := by decide) (hpl : ((backTo pos (starEach [] X.env)).any (·.1) || (backToKw pos (keywordEach kws X.env)).any (·.1.isNone)) = false := by rfl) : JE X W (.Call (.Name x p) [] kws pos) (eCallK ps.length F 0 perm aNil g) := by
  obtain ⟨f', fd, hm, hk, hb', F', lk⟩ := G.ex
  obtain ⟨f2, fd2, hm2, F2⟩ := T
  obtain ⟨rfl, rfl⟩ := fun_same hm2 F2 hm lk
  refine pe_imp (pe_frz (pe_callKS0 F' hr hg hm hk (kbinds F2 h0 hb) (fun σ => passAt tk σ) hk2 hall hks hdb hpl)) fun σ H Q h => ?_
  have h2 := tG_callK h
  obtain ⟨z, m, S, ρ, hS, hE, h3⟩ := h2
  exact h3 z m H [] .refl hS .nil
end
end FL
end
section
namespace FL
open PySem PySem.Spec PyProof.Rows L2
variable [TabsOf]
variable {y : Bool}
def rReprG (K : PySem.W.Frag) : List V → Hp → VK → Prop := fun xs H Q => ∃ (x : Addr) (d : PyData), xs = [.ref x] ∧ Dp K H (.ref x) d ∧ d.showable = true ∧ d.hasDict = false ∧ d.depth < 32 ∧ d.shown.length ≤ sizeLine ∧ Q (.str d.shown) H
section
variable {X : Cx} {k : Nat}
theorem call_reprG (hr : RoomG true k X.A) : CallR X (.builtin "repr") (rReprG X.K) := by
  intro pins s σ H xs us Q I r h
  obtain ⟨x, d, rfl, hd, hs, hn, hdep, hsz, q⟩ := h
  rw [Vals.ref1 r]
  obtain ⟨as, rd⟩ := Dp.reads I d (.ref x) (.ref x) hd rfl
  have un := hu65 hr
  refine repr_of_reads' rd hs (fun e => by rw [hn] at e; cases e) (hr.g rfl) (by omega) (fun _ _ e => e) (fun h' u tk kp => ?_) hsz
  exact ⟨.str d.shown, H, I.kept (t' := tk) kp, ⟨u, rfl⟩, q⟩
end
def reprP : List Da → Option Da
  | [p] => match p, toPy p with
    | .lst _, some d => if d.showable = true ∧ d.hasDict = false ∧ d.depth < 32 ∧ d.shown.length ≤ sizeLine then some (.str d.shown) else none
    | .tup _, some d => if d.showable = true ∧ d.hasDict = false ∧ d.depth < 32 ∧ d.shown.length ≤ sizeLine then some (.str d.shown) else none
    | _, _ => none
  | _ => none
section
variable {K : PySem.W.Frag}
theorem prim_repr : PrimC K reprP (rReprG K) := by
  intro ps r' z H xs Q e a l k
  unfold reprP at e
  split at e
  · rename_i p
    obtain ⟨x, rfl, hx⟩ := a.one
    split at e
    · rename_i l' d hd
      split at e
      · rename_i hc
        cases e
        obtain ⟨b, vs, rfl, h1, h2⟩ := hx.list
        exact ⟨b, d, rfl, Dp.of _ d _ hd hx, hc.1, hc.2.1, hc.2.2.1, hc.2.2.2, k H _ (.refl H) (.str _)⟩
      · cases e
    · rename_i l' d hd
      split at e
      · rename_i hc
        cases e
        obtain ⟨b, vs, rfl, h1, h2⟩ := hx.tup
        exact ⟨b, d, rfl, Dp.of _ d _ hd hx, hc.1, hc.2.1, hc.2.2.1, hc.2.2.2, k H _ (.refl H) (.str _)⟩
      · cases e
    · cases e
  · cases e
end
section
variable {prog : Program} {w : World} {A : Around} {s : Shared}
def TupsAt (h : Heap) (d : Nat) (k : Value → List Int) (vs : List Value) : Prop := ∀ v ∈ vs, TS.TupInts h v (k v) ∧ (k v).length = d
theorem TupsAt.keep {h h' : Heap} {d : Nat} {k : Value → List Int} {vs : List Value} (x : TupsAt h d k vs) (q : ∀ b o, h.get? b = some o → o.cls = .type "tuple" → h'.get? b = some o) : TupsAt h' d k vs := fun v hv => ⟨(x v hv).1.keeps q, (x v hv).2⟩
end
section
variable {X : Cx}
end
section
variable {K : PySem.W.Frag}
end
end FL
end
section
namespace FL
open PySem PySem.Spec PyProof.Rows L2
variable [TabsOf]
section
variable {Pg : Program} {w : World} {A : Around} {Er : Value → Shared → Prop} {s : Shared}
end
/-- set(l) -/
def rSetL (K : PySem.W.Frag) (w : World) : List V → Hp → VK → Prop := fun xs H Q => ∃ (a : Addr) (js : List Int), xs = [V.ref a] ∧ SqL K H a (js.map V.int) ∧ js.length < 4000 ∧
  ∀ (p : Addr) (c : Nat), H p = none → (∀ l : List Int, l.Nodup → (∀ j, j ∈ l ↔ j ∈ js) → l.length = c) → Q (.ref p) (upd H p (SetO w p (fun j => decide (j ∈ js)) c))
section
variable {X : Cx}
end
section
variable {K : PySem.W.Frag} {w : World}
def lstRep : Da → Da → Option Da
  | .lst l, .int i => if 0 ≤ i ∧ i < 1000 ∧ l.length ≤ 1000 then some (.lst (List.replicate i.toNat l).flatten) else none
  | _, _ => none
theorem RPs.rep {z : List Addr} {H : Hp} {l : List Da} {vs : List V} (r : RPs K z H l vs) : ∀ n : Nat, RPs K z H (List.replicate n l).flatten (List.replicate n vs).flatten
  | 0 => .nil
  | n + 1 => by
    rw [List.replicate_succ, List.replicate_succ, List.flatten_cons, List.flatten_cons]
    exact r.append (RPs.rep r n)
theorem prim_lstRep : Prim2 K lstRep rRep := by
  intro p q r' z H x y Q e a b l k
  unfold lstRep at e
  split at e
  · split at e
    · rename_i xs i c
      cases e
      obtain ⟨a1, v1, rfl, h1, r1⟩ := a.list
      rw [b.int]
      refine ⟨a1, i, v1, rfl, rfl, h1, by omega, by omega, ?_, fun p hp => k _ _ (same_upd hp) (.lst upd_same (fun q => l p q hp) ((r1.rep _).same (same_upd hp)))⟩
      rw [← r1.len, sizeLine_eq]
      have : xs.length * i.toNat ≤ 1000 * 1000 := Nat.mul_le_mul c.2.2 (by omega)
      omega
    · cases e
  · cases e
def mulAllP : Da → Da → Option Da := fun p q => match mulP p q with
  | some x => some x
  | none => lstRep p q
def rMulAll : R2 := fun x y H Q => rI CMulX (fun i j => .int (i * j)) x y H Q ∨ rRep x y H Q
theorem prim_mulAll : Prim2 K mulAllP rMulAll := (prim_iOpC mulOk_to _).orL prim_lstRep
end
section
variable {X : Cx} {W : WX} {e : Expr} {pos : Pos}
theorem opr_mul : OpR X (binaryOp .Mult) rMulAll := op_mulX.or op_rep
end
end FL
end
section
namespace FL
open PySem PySem.Spec PyProof.Rows L2
variable [TabsOf]
section
variable {X : Cx}
end
section
variable {K : PySem.W.Frag}
def neSP : Da → Da → Option Bool
  | .str a, .str b => some (!decide (a = b))
  | _, _ => none
theorem prim_neS : PrimB K neSP rNe := by
  intro p q b z H x y Q e a c l k
  unfold neSP at e
  split at e
  · cases e
    rename_i u v
    rw [a.str, c.str]
    refine ⟨rfl, ?_⟩
    have : decide (V.str u = V.str v) = decide (u = v) := decide_eq_decide.mpr ⟨fun h => by cases h; rfl, fun h => by rw [h]⟩
    rw [this]
    exact k
  · cases e
def maxAllP : List Da → Option Da
  | [.lst l] => match intsOf l with
    | some (n :: r) => some (.int (maxI (n :: r)))
    | _ => none
  | [.tup l] => match intsOf l with
    | some (n :: r) => some (.int (maxI (n :: r)))
    | _ => none
  | _ => none
end
end FL
end
section
namespace FL
open PySem PySem.Spec PyProof.Rows L2
variable [TabsOf]
section
variable {X : Cx} {W : WX} {a b c e : Expr} {es : List Expr} {pos : Pos}
end
end FL
end
section
namespace FL
open PySem PySem.Spec PyProof.Rows L2
variable [TabsOf]
abbrev RX := List (List Key × Addr × V)
def getX (xs : RX) (k : List Key) : Option V := (xs.find? fun x => decide (x.1 = k)).map (·.2.2)
def putX (xs : RX) (k : List Key) (b : Addr) (v : V) : RX := if (getX xs k).isSome = true then xs.map (fun x => if x.1 = k then (x.1, x.2.1, v) else x) else xs ++ [(k, b, v)]
section
variable {α β α' β' : Type} {G : α → β → Prop} {l : List α} {m : List β}
/-- tests that agree on partners find partners -/
theorem partners {p : α → Bool} {q : β → Bool} (agree : ∀ x y, G x y → p x = q y) (r : Paired G l m) : (l.find? p = none ∧ m.find? q = none) ∨ ∃ x y, l.find? p = some x ∧ m.find? q = some y ∧ G x y := by
  induction r with
  | nil => exact .inl ⟨rfl, rfl⟩
  | @cons x y _ _ g _ rest =>
    cases c : q y with
    | true => exact .inr ⟨x, y, List.find?_cons_of_pos ((agree x y g).trans c), List.find?_cons_of_pos c, g⟩
    | false =>
      rw [List.find?_cons_of_neg (by rw [agree x y g, c]; exact Bool.false_ne_true), List.find?_cons_of_neg (by rw [c]; exact Bool.false_ne_true)]
      exact rest
theorem partnersMap {G' : α' → β' → Prop} {f : α → α'} {g : β → β'} (each : ∀ x y, G x y → G' (f x) (g y)) (r : Paired G l m) : Paired G' (l.map f) (m.map g) := by
  induction r with
  | nil => exact .nil
  | cons h _ rest => exact .cons (each _ _ h) rest
theorem partnerOf (r : Paired G l m) {y : β} (hy : y ∈ m) : ∃ x ∈ l, G x y := by
  obtain ⟨i, hi, rfl⟩ := List.getElem_of_mem hy
  have less : i < l.length := by rw [Paired.length r]; exact hi
  obtain ⟨z, hz, g⟩ := paired_get r (List.getElem?_eq_getElem less)
  rw [List.getElem?_eq_getElem hi] at hz
  cases hz
  exact ⟨_, List.getElem_mem less, g⟩
end
abbrev KR : RX → List (List Key × Addr × Value) → Prop := Paired fun p q => p.1 = q.1 ∧ p.2.1 = q.2.1 ∧ RelV p.2.2 q.2.2
theorem KR.val {xs : RX} {us : List (List Key × Addr × Value)} (r : KR xs us) (k : List Key) : RelO (getX xs k) ((atKey us k).map (·.2)) := by
  unfold getX atKey
  rcases partners (p := fun x : List Key × Addr × V => decide (x.1 = k)) (q := fun x : List Key × Addr × Value => decide (x.1 = k)) (fun x y g => by rw [g.1]) r with ⟨e1, e2⟩ | ⟨x, y, e1, e2, g⟩
  · rw [e1, e2]; exact True.intro
  · rw [e1, e2]; exact g.2.2
theorem KR.put {xs : RX} {us : List (List Key × Addr × Value)} (r : KR xs us) (k : List Key) (b : Addr) {y : V} {u : Value} (ry : RelV y u) : KR (putX xs k b y) (storedH us k b u) := by
  have there : (getX xs k).isSome = (atKey us k).isSome := by
    have := (r.val k).isSome_eq
    rwa [Option.isSome_map] at this
  unfold putX storedH
  rw [there]
  split
  · refine partnersMap (fun p q g => ?_) r
    show _ ∧ _ ∧ _
    unfold putAt
    rw [← g.1]
    split
    · exact ⟨g.1 ▸ rfl, g.2.1, ry⟩
    · exact g
  · exact Paired.snoc r ⟨rfl, rfl, ry⟩
theorem putX_len (xs : RX) (k : List Key) (b : Addr) (v : V) : (putX xs k b v).length ≤ xs.length + 1 := by
  unfold putX
  split <;> simp
/-- a tuple of ints and texts is a key -/
theorem key_is {P : Program} {w : World} {K : PySem.W.Frag} {H : Hp} {h : Heap} {a : Addr} {ks : List Key} (ok : HOk P w H h) (X : K.In h) (e : SqT K H a (ks.map kV)) : (tupleKind (mixKind P w)).is h ks a := by
  rcases e with e | ⟨o, its, n, lk, c, d, _, r⟩
  · have obj : ObjOk P w H h a (.tup (ks.map kV)) := e.ok ok
    obtain ⟨_, its, vals, o, at_, cls, n, data⟩ := obj
    refine ⟨o, _, n, at_, cls, data, ?_⟩
    have := items_are (P := P) (w := w) vals
    simpa using this
  · exact ⟨o, its, n, X _ _ lk, c, d, items_are r⟩
/-- the keys are keys -/
def KOk (K : PySem.W.Frag) (H : Hp) (xs : RX) : Prop := ∀ x ∈ xs, SqT K H x.2.1 (x.1.map kV)
section
variable {X : Cx} {pins : List (Addr × Obj)} {σ : L2.St} {H : Hp} {s : Shared} {a b : Addr} {k : List Key} {xs : RX} {A : Around} {E : Value → Shared → Prop}
theorem raw_at (I : Inv X pins σ H s) (e : Rd H a (dRaw X.prog X.w a xs)) (hk : KOk X.K H xs) : xs.length ≤ sizeLine ∧ (a == sysModules) = false ∧ ∃ us, KR xs us ∧ s.heap.DictOfH (tupleKind (mixKind X.prog X.w)) a us := by
  have q : ObjOk X.prog X.w H s.heap a (.ext (RawIs X.prog X.w a xs)) := e.ok I.hok
  obtain ⟨few, mods, us, r, o, es, ep, g1, g2, g3, g4, g5⟩ := q.1
  refine ⟨few, mods, us, r, o, es, ep, g1, g2, g3, g4, fun u hu => ?_, g5⟩
  obtain ⟨x, hx, e1, e2, _⟩ := partnerOf r hu
  exact e1 ▸ e2 ▸ key_is I.hok I.kIn (hk x hx)
theorem raw_ok {P : Program} {w : World} {H' : Hp} {h' : Heap} {us : List (List Key × Addr × Value)} (z : xs.length ≤ sizeLine) (hd : (a == sysModules) = false) (r : KR xs us) (dd : h'.DictOfH (tupleKind (mixKind P w)) a us) : ObjOk P w H' h' a (dRaw P w a xs) := by
  obtain ⟨o, es, ep, h1, h2, h3, h4, _, h5⟩ := dd
  refine ⟨⟨z, hd, us, r, o, es, ep, h1, h2, h3, h4, h5⟩, ⟨o, h1⟩, fun h1' h2' x st => ?_⟩
  obtain ⟨z, hd, us, r, o, es, ep, g1, g2⟩ := x
  exact ⟨z, hd, us, r, o, es, ep, st _ g1, g2⟩
theorem x_typeIs (I : Inv X pins σ H s) (e : Rd H a (dRaw X.prog X.w a xs)) : s.TypeIs (.ref a) "dict" ∧ (∀ b, Value.ref a = .ref b → ∃ ob, s.heap.get? b = some ob ∧ ob.dict = none) ∧ (a == sysModules) = false := by
  have q : ObjOk X.prog X.w H s.heap a (.ext (RawIs X.prog X.w a xs)) := e.ok I.hok
  obtain ⟨z, hd, us, r, o, es, ep, h1, h2, h3, h4, h5⟩ := q.1
  exact ⟨⟨o, h1, h2.1⟩, fun c q => by cases q; exact ⟨o, h1, h2.2.1⟩, hd⟩
/-- d.get(k, x) -/
theorem x_get2 {d : V} {r : Value} {Q : Value → Shared → Prop} (hu : A.units + 1 < cLine) (I : Inv X pins σ H s) (e : Rd H a (dRaw X.prog X.w a xs)) (hk : KOk X.K H xs) (hb : SqT X.K H b (k.map kV)) (rd : RelV d r)
    (h : ∀ w' s', Inv X pins σ H s' → RelV ((getX xs k).getD d) w' → Q w' s') : wpAny (model X.prog X.w) A (call (.builtin "dict.get") [.ref a, .ref b, r]) Q E s := by
  obtain ⟨z, hd, us, rel, dd⟩ := raw_at I e hk
  exact call_meetsIn PySem.F.slot_dict_get dd.typeIs PySem.F.entry_dict_get (PySem.F.args_dict_get_3 _ _ _) (meetsH_dict_get_default (tupleKind (mixKind X.prog X.w)) a b hd r) ⟨tupleKind_room_in1 hu, k, us, key_is I.hok I.kIn hb, dd, h _ _ (I.tok _) ((rel.val k).getD rd)⟩
/-- the dict holds another table -/
theorem raw_write {ys : RX} {ws : List (List Key × Addr × Value)} {h' : Heap} {tk : Nat} (I : Inv X pins σ H s) (e : H a = some (dRaw X.prog X.w a xs)) (mods : (a == sysModules) = false) (few : ys.length ≤ sizeLine) (r : KR ys ws)
    (dd : h'.DictOfH (tupleKind (mixKind X.prog X.w)) a ws) (same : Heap.SameBut a s.heap h') : Inv X pins σ (upd H a (dRaw X.prog X.w a ys)) { s with heap := h', toks := tk } :=
  d_write I (by rw [e]; trivial) same (Exists.elim dd fun o ⟨_, _, at_, _⟩ => ⟨o, at_⟩) (raw_ok few mods r dd)
/-- d[k] = v -/
theorem x_put {y : V} {r : Value} {Q : Unit → Shared → Prop} (hu : A.units + 1 < cLine) (I : Inv X pins σ H s) (e : H a = some (dRaw X.prog X.w a xs)) (hk : KOk X.K H xs) (hb : SqT X.K H b (k.map kV)) (hl : xs.length < sizeLine) (rv : RelV y r)
    (h : ∀ s', Inv X pins σ (upd H a (dRaw X.prog X.w a (putX xs k b y))) s' → Q () s') : wpAny (model X.prog X.w) A (setItem (.ref a) (.ref b) r) Q E s := by
  obtain ⟨few, mods, us, rel, dd⟩ := raw_at I (.inl e) hk
  exact wpAny_setItem_heap (hsz := Paired.length rel ▸ few) (tupleKind_room_in1 hu) (key_is I.hok I.kIn hb) dd fun h' dd' same => h _ (raw_write I e mods (Nat.le_trans (putX_len xs k b y) hl) (rel.put k b rv) dd' same)
/-- .. by a comprehension or a display -/
theorem x_set {y : V} {r : Value} {Q : Unit → Shared → Prop} (hu : X.A.units < cLine) (I : Inv X pins σ H s) (e : H a = some (dRaw X.prog X.w a xs)) (hk : KOk X.K H xs) (hb : SqT X.K H b (k.map kV)) (hl : xs.length < sizeLine) (rv : RelV y r)
    (h : ∀ s', Inv X pins σ (upd H a (dRaw X.prog X.w a (putX xs k b y))) s' → Q () s') : wpAny (model X.prog X.w) X.A (dictSet a (.ref b) r) Q E s := by
  obtain ⟨few, mods, us, rel, dd⟩ := raw_at I (.inl e) hk
  exact wpAny_dictSet_heap (hsz := Paired.length rel ▸ few) hu (key_is I.hok I.kIn hb) dd fun h' dd' same => h _ (raw_write I e mods (Nat.le_trans (putX_len xs k b y) hl) (rel.put k b rv) dd' same)
theorem raw_new {P : Program} {w : World} {H' : Hp} (h : Heap) (hb : sysModules < h.objs.size) : ObjOk P w H' (h.push { cls := .type "dict", data := .dict #[] }) h.objs.size (dRaw P w h.objs.size []) :=
  raw_ok (Nat.zero_le _) (beq_eq_false_iff_ne.mpr (Ne.symm (Nat.ne_of_lt hb))) .nil (Heap.DictOfH.new h)
/-- the hashes of keys -/
def hashX (P : Program) (w : World) (ks : List (List Key)) : List Int := ks.map fun k => tupleKeyHash (mixKind P w) k
/-- dict(d), the hashes of the keys apart -/
theorem x_copy {Q : Value → Shared → Prop} (hu : A.units + 3 < cLine) (I : Inv X pins σ H s) (e : Rd H a (dRaw X.prog X.w a xs)) (hk : KOk X.K H xs) (hn : (hashX X.prog X.w (xs.map (·.1))).Nodup)
    (h : ∀ p s', H p = none → Inv X pins σ (upd H p (dRaw X.prog X.w p xs)) s' → Q (.ref p) s') : wpAny (model X.prog X.w) A (call (.type "dict") [.ref a]) Q E s := by
  obtain ⟨few, mods, us, rel, old⟩ := raw_at I e hk
  let H0 := s.heap.push { cls := .type "dict", data := .dict #[] }
  have new : H0.DictOfH (tupleKind (mixKind X.prog X.w)) s.heap.objs.size [] := Heap.DictOfH.new s.heap
  have grown : ∀ b o, s.heap.get? b = some o → H0.get? b = some o := fun b o q => Heap.get?_push_of_some _ q
  obtain ⟨oo, es, ep, g1, g2, g3, g4, g5, g6⟩ := id old
  have tups : ∀ u ∈ us, ∃ o its n, H0.get? u.2.1 = some o ∧ o.cls = .type "tuple" ∧ o.data = .seq its n ∧ ItemsAre (mixKind X.prog X.w) u.1 its.toList := fun u hu => by
    obtain ⟨o, its, n, q1, q2, q3, q4⟩ := g5 u hu
    exact ⟨o, its, n, grown _ _ q1, q2, q3, q4⟩
  have old2 : H0.DictOfH (tupleKind (mixKind X.prog X.w)) a us := ⟨oo, es, ep, grown _ _ g1, g2, g3, g4, tups, g6⟩
  have apart : s.heap.objs.size ≠ a := Nat.ne_of_gt (Heap.lt_size g1)
  have keys : us.map (·.1) = xs.map (·.1) := by
    have := partnersMap (G' := fun p q => p = q) (f := fun x => x.1) (g := fun x => x.1) (fun x y g => g.1) rel
    clear new old2
    generalize us.map (·.1) = m at this
    generalize xs.map (·.1) = l at this
    induction this with
    | nil => rfl
    | cons q _ ih => rw [q, ih]
  have unlike : (us.map fun x => (tupleKind (mixKind X.prog X.w)).hash x.1).Nodup := by
    have q : us.map (fun x => (tupleKind (mixKind X.prog X.w)).hash x.1) = (us.map (·.1)).map fun k => tupleKeyHash (mixKind X.prog X.w) k := by
      rw [List.map_map]; rfl
    rw [q, keys]
    exact hn
  refine callType_codes (Q₁ := fun o t => o = .ref s.heap.objs.size ∧ t = { s with heap := H0 }) F.kt_called_dict (F.kt_typeCall_dict_1 _) F.entry_dict_init (kt_code_dict_new _ ⟨rfl, rfl⟩) ?_
  rintro _ _ ⟨rfl, rfl⟩
  refine ⟨new.typeIs, F.args_dict_init_2 _ _, wpAny_bind (wpAny_bind (wpAny_notOrdered_dict new.typeIs (wpAny_pure ?_)))⟩
  refine updateFrom_dictH (nm := "dict.__init__") .none (by show A.in1.in1.units < cLine; simp only [Around.in1]; omega) apart mods new old2 (.inr ⟨fun u hu => ?_, unlike⟩) (by have := Paired.length rel; simp only [List.length_nil]; omega) fun h' dd _ same => ?_
  · obtain ⟨o, _, _, q1, q2, _⟩ := tups u hu
    exact ⟨o, q1, q2⟩
  · rw [storedAllH_nil_of_nodup us g6] at dd
    refine ⟨rfl, h _ _ (I.hok.fresh (Nat.le_refl _)) (I.laid (a := s.heap.objs.size) (t' := s.toks) (fun c q hq => ?_) (Nat.le_refl _) (raw_ok few (beq_eq_false_iff_ne.mpr (Ne.symm (Nat.ne_of_lt I.big))) rel dd))⟩
    exact (same.2 c (Nat.ne_of_lt (Heap.lt_size hq))).trans (grown c q hq)
end
end FL
end
section
namespace FL
open PySem PySem.Spec PyProof.Rows L2
variable [TabsOf]
section
variable {X : Cx} {pins : List (Addr × Obj)} {σ : L2.St} {H : Hp} {s : Shared} {d : Addr} {o : Obj} {xs : RX}
theorem lockedX (I : Inv X pins σ H s) (h : H d = some (.frz o (dRaw X.prog X.w d xs))) : (d == sysModules) = false ∧ s.heap.get? d = some o ∧ o.ExactDict ∧ ∃ (es : Array DictEntry) (ep : Nat), o.data = .dict es ep ∧ es.size = xs.length ∧
    ∀ (i : Nat) (k : List Key) (q : Addr) (v : V), xs[i]? = some (k, q, v) → ∃ en : DictEntry, es[i]? = some en ∧ en.key = .ref q ∧ RelV v en.val := by
  obtain ⟨hd, q, _, _⟩ := I.hok d _ h
  obtain ⟨z, hs, us, r, o2, es, ep, g1, g2, g3, g4, g5⟩ := q
  rw [hd] at g1
  cases g1
  have eS : es.size = us.length := by have := congrArg List.length g4; simpa using this
  refine ⟨hs, hd, g2, es, ep, g3, by rw [eS]; exact (Paired.length r).symm, fun i k q v e => ?_⟩
  obtain ⟨u, hu, e1, e2, e3⟩ := paired_get r e
  exact ⟨_, (entry_at g4 i).trans (congrArg (Option.map _) hu), congrArg Value.ref e2.symm, e3⟩
end
/-- walked pair by pair: each key with its value in a tuple just made -/
def Itx (P : Program) (w : World) (d : Addr) (o : Obj) (xs : RX) : It where
  go := fun i H => H d = some (.frz o (dRaw P w d xs)) ∧ i < xs.length
  yld := fun i H x H' => ∃ T k q v, xs[i]? = some (k, q, v) ∧ x = .ref T ∧ H T = none ∧ H' = upd H T (.tup [.ref q, v])
  stop := fun i H => H d = some (.frz o (dRaw P w d xs)) ∧ xs.length ≤ i
section
variable {P : Program} {w : World} {K : PySem.W.Frag} {d : Addr} {o : Obj} {es : Array DictEntry} {ep : Nat} {xs : RX}
theorem turnX {elts : List Expr} {kk : Nat} {tpos : Pos} (it : Addr) (hod : o.data = .dict es ep) : Turn P w K (.Tuple elts kk tpos) (Itx P w d o xs) [it] it (fun i h => (∃ ok ov, IsItemIter h it d i xs.length ep ok ov) ∧ d ≠ it) := by
  refine turn_made (List.mem_singleton.mpr rfl) ?_ (fun i h h' st k => ⟨st.1.imp fun _ x => x.imp fun _ q => k it (List.mem_singleton.mpr rfl) _ q, st.2⟩) ?_ ?_ fun A i s Q E st q => st.1.elim fun _ x => x.elim fun _ cell => wpAny_pyIter_itemiter cell q
  · intro i h st b hb
    obtain ⟨⟨_, _, cell⟩, _⟩ := st
    rw [List.mem_singleton.mp hb]
    exact ⟨_, cell, fun v q => nomatch q⟩
  · intro X eP eW eK calm i pins s σ H I st go
    subst eP eW eK
    obtain ⟨⟨ok, ov, cell⟩, apart⟩ := st
    obtain ⟨⟨k, q, v⟩, at_⟩ : ∃ p, xs[i]? = some p := ⟨_, List.getElem?_eq_getElem go.2⟩
    obtain ⟨_, here, exact_, es', ep', data, size, ent⟩ := lockedX I go.1
    cases hod.symm.trans data
    obtain ⟨en, hen, key, rv⟩ := ent i k q v at_
    refine ⟨_, _, _, _, _, WalksT.rawItems (I.ok.hd calm) it d apart es ep, size ▸ go.2, ⟨⟨ok, ov, size ▸ cell⟩, o, here, exact_, data⟩, fun h st => ⟨size ▸ st.1, apart⟩, fun cells pt => ?_⟩
    obtain ⟨less, rfl⟩ := pt
    have e : es[i] = en := Option.some.inj ((Array.getElem?_eq_getElem less).symm.trans hen)
    exact ⟨[.ref q, v], by show 2 ≤ sizeLine; decide, .cons (show RelV (.ref q) es[i].key by rw [e, key]; rfl) (.cons (show RelV v es[i].val by rw [e]; exact rv) .nil), fun T free => ⟨T, k, q, v, at_, rfl, free, rfl⟩⟩
  · intro X eP eW eK calm i pins s σ H E I new st stop
    subst eP eW eK
    obtain ⟨⟨ok, ov, cell⟩, _⟩ := st
    obtain ⟨_, here, exact_, es', ep', data, size, _⟩ := lockedX I stop.1
    cases hod.symm.trans data
    obtain ⟨n0, n1, n2, n3, n4, n5⟩ := new it (List.mem_singleton.mpr rfl)
    exact wpAny_pyNext_items_end_raw (I.ok.hd calm) (size ▸ cell) ⟨o, here, exact_, data⟩ (size ▸ stop.2) fun h' ext => ⟨rfl, I.turned (t' := s.toks) (fun b ob hb e => ext b ob hb e) n0 n1 n3 n4 n5⟩
end
def iItemsX (P : Program) (w : World) (td : TE) : TI := fun σ H R => td σ H fun x H1 => ∃ d o xs, x = .ref d ∧ H1 d = some (.frz o (dRaw P w d xs)) ∧ R (Itx P w d o xs) H1
theorem pi_itemsX {X : Cx} {e : Expr} {td : TE} {apos cpos : Pos} {elts : List Expr} {kk : Nat} {tpos : Pos} (he : PE X e td) (hbase : attributeBase e "items" X.env (eval e X.env) = eval e X.env := by rfl) (hline : (apos.endLine == cpos.line) = true := by rfl) :
    PI X (.Tuple elts kk tpos) (.Call (.Attribute e "items" apos) [] [] cpos) (iItemsX X.prog X.w td) := by
  constructor
  intro pins s σ H R I h
  refine wpAny_Call_method (T := "dict") (id := "dict.items") hbase rfl hline F.plainAttrs_dict F.slot_dict_items F.type_dict_items (thn (he.run pins s σ H _ I h) ?_)
  rintro _ t ⟨x, H1, J, rx, d, o, xs, rfl, hd, q⟩
  cases (show _ = Value.ref d from rx)
  obtain ⟨mods, here, exact_, es, ep, data, size, _⟩ := lockedX J hd
  have below : d < t.heap.objs.size := Heap.lt_size here
  have raw : t.heap.DictRaw d es ep := ⟨o, here, exact_, data⟩
  let view : Obj := { cls := .type "dict_items", data := .fields #[.ref d] }
  have J2 : Inv X pins σ H1 { t with heap := t.heap.push view } := J.kept (t' := t.toks) fun b ob e => Heap.get?_push_of_some _ e
  have fin : wpAny (model X.prog X.w) X.A (pyIter (.ref t.heap.objs.size)) (PIE X pins σ (.Tuple elts kk tpos) R) X.xe { t with heap := t.heap.push view } := by
    refine wpAny_pyIter_items_raw (d := d) ⟨_, Heap.get?_push_size _ rfl, rfl, rfl⟩ (raw.at fun _ e => Heap.get?_push_of_some _ e) (pi_one (tk := t.toks) J2 _ (turnX _ data) ⟨⟨.none, .none, ?_⟩, ?_⟩ q)
    · rw [size]
      exact Heap.get?_push_size (t.heap.push view) rfl
    · rw [Heap.size_push]
      exact Nat.ne_of_lt (Nat.lt_succ_of_lt below)
  refine ⟨⟨o, here, exact_.1⟩, fun b z => by cases z; exact ⟨o, here, exact_.2.1⟩, ?_⟩
  show wpAny _ _ (callWith cpos (.builtin "dict.items") [.ref d] [] []) _ X.xe t
  exact method_meetsIn F.slot_dict_items F.entry_dict_items rfl (PySem.evalArgs_none ⟨rfl, ⟨o, here, exact_.1⟩, F.args_dict_items_1 _, _, meets_dict_items_raw d mods, ⟨es, ep, raw⟩, fin⟩)
end FL
end
section
namespace FL
open PySem PySem.Spec PyProof.Rows L2
variable [TabsOf]
def keyE : Da → Option Key
  | .int i => some (.inl i)
  | .str s => some (.inr s)
  | _ => none
def keyEs : List Da → Option (List Key)
  | [] => some []
  | p :: r => match keyE p, keyEs r with
    | some k, some ks => some (k :: ks)
    | _, _ => none
def keyT : Da → Option (List Key)
  | .tup l => keyEs l
  | _ => none
def keysT : List Da → Option (List (List Key))
  | [] => some []
  | p :: r => match keyT p, keysT r with
    | some k, some ks => some (k :: ks)
    | _, _ => none
theorem keyE_da (k : Key) : keyE (kDa k) = some k := by cases k <;> rfl
theorem keyEs_map : ∀ ks : List Key, keyEs (ks.map kDa) = some ks
  | [] => rfl
  | k :: ks => by simp only [List.map_cons, keyEs, keyE_da, keyEs_map ks]
theorem keysT_map : ∀ xs : RX, keysT (xs.map fun x => .tup (x.1.map kDa)) = some (xs.map (·.1))
  | [] => rfl
  | x :: xs => by simp only [List.map_cons, keysT, keyT, keyEs_map, keysT_map xs]
section
variable {K : PySem.W.Frag} {z m : List Addr} {H : Hp} {S : List Cell}
theorem keyEs_rel : ∀ {l : List Da} {ks : List Key} {vs : List V}, keyEs l = some ks → RPs K z H l vs → vs = ks.map kV ∧ l = ks.map kDa
  | [], ks, _, e, .nil => by cases e; exact ⟨rfl, rfl⟩
  | p :: r, ks, _, e, .cons h t => by
    unfold keyEs at e
    cases e1 : keyE p with
    | none => simp only [e1] at e; cases e
    | some k =>
      cases e2 : keyEs r with
      | none => simp only [e1, e2] at e; cases e
      | some kr =>
        simp only [e1, e2] at e
        cases e
        obtain ⟨q1, q2⟩ := keyEs_rel e2 t
        cases p with
        | int i => cases e1; cases h; exact ⟨by rw [q1]; rfl, by rw [q2]; rfl⟩
        | str i => cases e1; cases h; exact ⟨by rw [q1]; rfl, by rw [q2]; rfl⟩
        | _ => cases e1
theorem keyT_rel {p : Da} {k : List Key} {v : V} (e : keyT p = some k) (h : RP K z H p v) : ∃ b, v = .ref b ∧ SqT K H b (k.map kV) ∧ p = .tup (k.map kDa) := by
  cases p with
  | tup l =>
    cases h with
    | tup h1 h2 =>
      obtain ⟨q1, q2⟩ := keyEs_rel e h2
      exact ⟨_, rfl, by rw [← q1]; exact h1, by rw [q2]⟩
  | _ => cases e
theorem RKs.keys {ks : List Da} {xs : RX} (h : RKs K H ks xs) : keysT ks = some (xs.map (·.1)) := by rw [h.1, keysT_map]
def lookK {α : Type} (q : List Key) : List (List Key) → List α → Option α
  | k :: ks, v :: vs => if k = q then some v else lookK q ks vs
  | _, _ => none
def storK {α : Type} (q : List Key) (w : α) : List (List Key) → List α → List α
  | k :: ks, v :: vs => (if k = q then w else v) :: storK q w ks vs
  | _, _ => []
theorem lookK_rel (q : List Key) : ∀ {xs : RX} {vs : List Da}, RPs K z H vs (xs.map (·.2.2)) → (lookK q (xs.map (·.1)) vs = none ∧ getX xs q = none) ∨ ∃ p v, lookK q (xs.map (·.1)) vs = some p ∧ getX xs q = some v ∧ RP K z H p v
  | [], _, .nil => .inl ⟨rfl, rfl⟩
  | x :: xs, _ :: _, .cons h t => by
    by_cases e : x.1 = q
    · exact .inr ⟨_, _, by simp [lookK, e], by simp [getX, e], h⟩
    · have a1 : ∀ (p : Da) (vs : List Da), lookK q ((x :: xs).map (·.1)) (p :: vs) = lookK q (xs.map (·.1)) vs := fun p vs => by simp [lookK, e]
      have a2 : getX (x :: xs) q = getX xs q := by simp [getX, e]
      rw [a1, a2]
      exact lookK_rel q t
theorem storK_rel (q : List Key) {w : Da} {y : V} (hw : RP K z H w y) : ∀ {xs : RX} {vs : List Da}, RPs K z H vs (xs.map (·.2.2)) → RPs K z H (storK q w (xs.map (·.1)) vs) ((xs.map fun x => if x.1 = q then (x.1, x.2.1, y) else x).map (·.2.2))
  | [], _, .nil => .nil
  | x :: xs, _ :: _, .cons h t => by
    simp only [List.map_cons, storK]
    by_cases e : x.1 = q
    · rw [if_pos e, if_pos e]; exact .cons hw (storK_rel q hw t)
    · rw [if_neg e, if_neg e]; exact .cons h (storK_rel q hw t)
/-- behind d[k] = w -/
def putD (ks vs : List Da) (p w : Da) : Option (List Da × List Da) := match keysT ks, keyT p with
  | some kk, some k => if ks.length ≤ 1000000 then (match lookK k kk vs with
    | some _ => some (ks, storK k w kk vs)
    | none => some (ks ++ [p], vs ++ [w])) else none
  | _, _ => none
theorem putD_rel {ks vs ks' vs' : List Da} {p w : Da} {xs : RX} {k : List Key} {b : Addr} {y : V} (hk : RKs K H ks xs) (hv : RPs K z H vs (xs.map (·.2.2))) (kp : keyT p = some k) (hp : p = .tup (k.map kDa)) (hb : SqT K H b (k.map kV)) (hw : RP K z H w y) (e : putD ks vs p w = some (ks', vs')) :
    RKs K H ks' (putX xs k b y) ∧ RPs K z H vs' ((putX xs k b y).map (·.2.2)) ∧ xs.length < sizeLine := by
  unfold putD at e
  rw [hk.keys, kp] at e
  simp only at e
  split at e
  · rename_i hl
    have hlen : xs.length < sizeLine := by
      have : ks.length = xs.length := by rw [hk.1, List.length_map]
      rw [sizeLine_eq]; omega
    rcases lookK_rel k hv with ⟨q1, q2⟩ | ⟨r, v, q1, q2, q3⟩
    · rw [q1] at e
      cases e
      have ex : putX xs k b y = xs ++ [(k, b, y)] := by unfold putX; rw [q2]; rfl
      rw [ex]
      refine ⟨⟨by rw [List.map_append, ← hk.1, hp]; rfl, fun x hx => ?_⟩, ?_, hlen⟩
      · rcases List.mem_append.mp hx with h | h
        · exact hk.2 x h
        · simp at h; subst h; exact hb
      · rw [List.map_append]; exact hv.append (.cons hw .nil)
    · rw [q1] at e
      cases e
      have ex : putX xs k b y = xs.map fun x => if x.1 = k then (x.1, x.2.1, y) else x := by unfold putX; rw [q2]; rfl
      rw [ex]
      refine ⟨⟨?_, fun x hx => ?_⟩, storK_rel k hw hv, hlen⟩
      · rw [hk.1, List.map_map]
        refine List.map_congr_left fun x _ => ?_
        simp only [Function.comp]
        split <;> rfl
      · obtain ⟨x0, h0, rfl⟩ := List.mem_map.mp hx
        have := hk.2 x0 h0
        split
        · exact this
        · exact this
  · cases e
end
/-- a is a dict with tuple keys, these -/
structure IsX (K : PySem.W.Frag) (z : List Addr) (H : Hp) (a : Addr) (ks vs : List Da) (xs : RX) : Prop where
  rd : Rd H a (dRaw TabsOf.P TabsOf.w a xs)
  ks : RKs K H ks xs
  vs : RPs K z H vs (xs.map (·.2.2))
end FL
end
section
namespace FL
open PySem PySem.Spec PyProof.Rows L2
variable [TabsOf]
/-- the row's own program and world -/
structure Amb (X : Cx) : Prop where
  p : TabsOf.P = X.prog
  w : TabsOf.w = X.w
def tXGet2 (P : Program) (w : World) (K : PySem.W.Frag) (td ty tx : TE) : TE := fun σ H Q => td σ H fun x H1 => ∃ a xs0, x = .ref a ∧ Rd H1 a (dRaw P w a xs0) ∧ ty σ H1 fun y H2 => tx σ H2 fun z H3 => ∃ xs b k, Rd H3 a (dRaw P w a xs) ∧ KOk K H3 xs ∧ y = .ref b ∧ SqT K H3 b (k.map kV) ∧ Q ((getX xs k).getD z) H3
def sXPut (P : Program) (w : World) (K : PySem.W.Frag) (td ty tv : TE) : TS := fun D σ H => tv σ H fun v H1 => td σ H1 fun x H2 => ty σ H2 fun y H3 => ∃ a xs b k, x = .ref a ∧ H3 a = some (dRaw P w a xs) ∧ KOk K H3 xs ∧ y = .ref b ∧ SqT K H3 b (k.map kV) ∧ xs.length < sizeLine ∧ D.nx σ (upd H3 a (dRaw P w a (putX xs k b v)))
def rXCopy (P : Program) (w : World) (K : PySem.W.Frag) : List V → Hp → VK → Prop := fun vs H Q => ∃ a xs, vs = [.ref a] ∧ Rd H a (dRaw P w a xs) ∧ KOk K H xs ∧ (hashX P w (xs.map (·.1))).Nodup ∧ ∀ p, H p = none → Q (.ref p) (upd H p (dRaw P w p xs))
def tXNew (P : Program) (w : World) : TE := fun _ H Q => ∀ p, H p = none → Q (.ref p) (upd H p (dRaw P w p []))
def tXOne (P : Program) (w : World) (K : PySem.W.Frag) (tk tv : TE) : TE := fun σ H Q => ∀ p, H p = none → tPairs [(tk, tv)] σ (upd H p (dRaw P w p [])) fun ps H2 => ∃ y v, ps = [(y, v)] ∧ H2 p = some (dRaw P w p []) ∧ ∃ b k, y = .ref b ∧ SqT K H2 b (k.map kV) ∧ Q (.ref p) (upd H2 p (dRaw P w p [(k, b, v)]))
section
variable {X : Cx} {o e f i value : Expr} {apos cpos pos pos' : Pos} {td ty tx tv tk : TE}
theorem pe_xget2 (hu : X.A.units + 1 < cLine) (ho : PE X o td) (he : PE X e ty) (hf : PE X f tx) (m : M2 X o "get" apos e f cpos) : PE X (.Call (.Attribute o "get" apos) [e, f] [] cpos) (tXGet2 X.prog X.w X.K td ty tx) := by
  refine ⟨fun pins s σ H Q I h => ?_⟩
  refine wpAny_Call_method m.base m.few m.line PySem.F.plainAttrs_dict PySem.F.slot_dict_get PySem.F.type_dict_get (thn (ho.run pins s σ H _ I h) fun u s1 ⟨x, H1, J, rx, a, xs0, ex, d, q1⟩ => ?_)
  subst ex
  obtain rfl : u = Value.ref a := rx
  obtain ⟨t1, t2, _⟩ := x_typeIs J d
  refine ⟨t1, t2, ?_⟩
  rw [m.trees]
  refine Calls.callWith_builtin rfl (Calls.evalArgs_plain (Calls.spliced_cons (thn (he.run pins s1 σ H1 _ J q1) fun iv s2 ⟨y, H2, J2, ry, q2⟩ =>
    Calls.spliced_cons (thn (hf.run pins s2 σ H2 _ J2 q2) fun fv s3 ⟨w, H3, J3, rz, xs, b, k, d3, hk, ey, hb, q3⟩ => Calls.spliced_nil ?_))))
  subst ey
  obtain rfl : iv = Value.ref b := ry
  exact x_get2 hu J3 d3 hk hb rz fun w' s4 J4 rw' => ⟨_, H3, J4, rw', q3⟩
theorem ps_xput (hu : X.A.units + 1 < cLine) (ho : PE X o td) (hi : PE X i ty) (hv : PE X value tv) (hs : swapsWith value (some (.Subscript o i pos')) pos.line X.env = pure false) : PS X (.Assign [.Subscript o i pos'] value pos) (sXPut X.prog X.w X.K td ty tv) := by
  refine ⟨fun pins s σ H D I h => ?_⟩
  refine wpAny_Assign_Subscript (thn (hv.run pins s σ H _ I h) fun r s1 ⟨v, H1, J1, rv, q1⟩ => thn (ho.run pins s1 σ H1 _ J1 q1) fun u s2 ⟨x, H2, J2, rx, q2⟩ => thn (hi.run pins s2 σ H2 _ J2 q2) fun iv s3 ⟨y, H3, J3, ry, a, xs, b, k, ex, ea, hk, ey, hb, hl, q3⟩ => ?_) hs
  subst ex ey
  obtain rfl : u = Value.ref a := rx
  obtain rfl : iv = Value.ref b := ry
  exact x_put hu J3 ea hk hb hl rv fun s4 J4 => ⟨σ, _, J4, q3⟩
theorem call_xcopy (hu : X.A.units + 3 < cLine) : CallR X (.type "dict") (rXCopy X.prog X.w X.K) := by
  intro pins s σ H vs us Q I r h
  obtain ⟨a, xs, rfl, e, hk, hn, q⟩ := h
  cases r with
  | cons r1 r2 =>
    cases r2
    cases (show _ = Value.ref a from r1)
    exact x_copy hu I e hk hn fun p s' hp J => ⟨.ref p, _, J, rfl, q p hp⟩
theorem pe_xnew : PE X (.Dict [] [] pos) (tXNew X.prog X.w) := ⟨fun pins s σ H Q I h =>
  wpAny_Dict_empty ⟨.ref s.heap.objs.size, _, I.laid (a := s.heap.objs.size) (o := dRaw X.prog X.w s.heap.objs.size []) (t' := s.toks) (fun _ _ q => Heap.get?_push_of_some _ q) (Nat.le_refl _) (raw_new s.heap I.big), rfl, h _ (I.hok.fresh (Nat.le_refl _))⟩⟩
theorem pe_xone (hu : X.A.units < cLine) (hk : PE X e tk) (hv : PE X f tv) : PE X (.Dict [some e] [f] pos) (tXOne X.prog X.w X.K tk tv) := by
  constructor
  intro pins s σ H Q I q
  have free := I.hok.fresh (Nat.le_refl s.heap.objs.size)
  have laid := I.laid (a := s.heap.objs.size) (o := dRaw X.prog X.w s.heap.objs.size []) (h' := s.heap.push { cls := .type "dict", data := .dict #[] }) (t' := s.toks) (fun _ _ q => Heap.get?_push_of_some _ q) (Nat.le_refl _) (raw_new s.heap I.big)
  have pair := (pps_cons hk hv (pps_nil (pos := pos))).run pins _ σ _ _ laid (q _ free)
  rw [arm_eval_Dict, zip_pairTrees [some e] [f] X.env pos rfl rfl, dictDisplay_pairs (pairTrees [some e] [f] X.env pos) (by simp [pairTrees]) (by simp [pairTrees])]
  refine wpAny_bind (wpAny_standAt (wpAny_bind (wpAny_subDictH (knd := tupleKind (mixKind X.prog X.w)) (Q := fun d s' => wpAny (model X.prog X.w) X.A (pure (Value.ref d)) (fun u s' => ∃ v H', Inv X pins σ H' s' ∧ RelV v u ∧ Q v H') X.xe s') hu (by simp [pairTrees]) ?_)))
  refine wpAny_mono pair ?_ fun _ _ x => x
  rintro vs t ⟨_, H2, J, rel, y, v, rfl, there, b, k, rfl, hb, q2⟩
  cases rel with | @cons _ cell _ _ r none_ =>
  obtain ⟨pk, pv⟩ := cell
  cases none_
  obtain ⟨few, mods, us, none2, dd⟩ := raw_at J (.inl there) (fun _ h => nomatch h)
  cases none2
  cases (show pk = Value.ref b from r.1)
  exact ⟨[(k, b, pv)], ⟨rfl, rfl, key_is J.hok J.kIn hb, trivial⟩, dd, fun h' tk dd' same => wpAny_pure ⟨.ref s.heap.objs.size, _, raw_write J there mods (by simp [sizeLine_eq]) (.cons ⟨rfl, rfl, r.2⟩ .nil) dd' same, rfl, q2⟩⟩
end
end FL
end
section
namespace FL
open PySem PySem.Spec PyProof.Rows L2
variable [TabsOf]
/-- the pair y: u goes into the raw dict at D, then N -/
def PutAt (P : Program) (w : World) (K : PySem.W.Frag) (D : Addr) (N : Hp → Prop) (y u : V) (G : Hp) : Prop :=
  ∃ (xs : RX) (b : Addr) (k : List Key), y = .ref b ∧ G D = some (dRaw P w D xs) ∧ KOk K G xs ∧ SqT K G b (k.map kV) ∧ xs.length < sizeLine ∧ N (upd G D (dRaw P w D (putX xs k b u)))
/-- one turn: the target, the test, key and value -/
def putTurn (P : Program) (w : World) (K : PySem.W.Frag) (D : Addr) (ws : List Nat) (g : TG) (tt : TT) (tk tv : TE) (N : Hp → Prop) (x : V) (σ : L2.St) (G : Hp) : Prop :=
  g x σ G fun σ2 G2 => L2.wipe σ2 ws = σ ∧ tt σ2 G2 fun c G3 => if c = true then tk σ2 G3 fun y G4 => tv σ2 G4 fun u G5 => PutAt P w K D N y u G5 else N G3
def tDcX (P : Program) (w : World) (K : PySem.W.Frag) (wi : TI) (g : TG) (tt : TT) (tk tv : TE) (ws : List Nat) : TE := fun σ H Q => wi σ H fun J G =>
  ∀ D, G D = none → ∃ M : Nat → Nat → Hp → Prop, (∃ m, M 0 m (upd G D (dRaw P w D []))) ∧
    ∀ i m G1, M i m G1 → (J.stop i G1 ∧ Q (.ref D) G1) ∨ (J.go i G1 ∧ ∀ x G2, J.yld i G1 x G2 → putTurn P w K D ws g tt tk tv (fun G3 => ∃ m', m' < m ∧ M (i + 1) m' G3) x (L2.wipe σ ws) G2)
/-- the block between two turns -/
structure Between (Y : Cx) (σ : L2.St) (held : List Addr) (pos : Nat → Heap → Prop) (M : Nat → Nat → Hp → Prop) (m : Nat) (t : Shared) : Prop where
  ex : ∃ i G, Inv Y [] σ G t ∧ pos i t.heap ∧ (∀ b ∈ held, G b = none) ∧ M i m G
/-- a turn is over: what was held stands as it stood -/
theorem turn_over {Y : Cx} {σ σt : L2.St} {held : List Addr} {ws : List Nat} {pos : Nat → Heap → Prop} {M : Nat → Nat → Hp → Prop} {i m : Nat} {h : Heap} {G : Hp} {t : Shared} (J : Inv Y ([] ++ pinsAt held h) σt G t) (wiped : L2.wipe σt ws = σ)
    (stood : ∀ b ∈ held, ∃ o, h.get? b = some o) (go : ∀ h' : Heap, (∀ b ∈ held, ∀ o, h.get? b = some o → h'.get? b = some o) → pos (i + 1) h') (nx : ∃ m', m' < m ∧ M (i + 1) m' G) : ∃ m', m' < m ∧ Between Y σ held pos M m' t := by
  have pin : ∀ b ∈ held, ∀ o, h.get? b = some o → t.heap.get? b = some o ∧ G b = none := fun b hb o e =>
    have z := J.pin (b, o) (List.mem_append_right _ (List.mem_append_right _ (mem_pinsAt hb e)))
    ⟨z.1, z.2.1⟩
  obtain ⟨m', lt, k⟩ := nx
  have weak : Inv Y [] σ G t := by
    refine (J.unpinned (pins := [])).weak ?_ fun j v e => ?_
    · rw [← wiped, wipe_length]
    · rw [← wiped] at e; exact (wipe_some e).1
  refine ⟨m', lt, ⟨i + 1, G, weak, go _ fun b hb o e => (pin b hb o e).1, fun b hb => ?_, k⟩⟩
  obtain ⟨o, e⟩ := stood b hb
  exact (pin b hb o e).2
section
variable {X : Cx}
theorem run_block {pins : List (Addr × Obj)} {σ : L2.St} {Q : VK} {G3 : Hp} {t3 : Shared} {it D : Addr} {held : List Addr} {at_ : Nat → Heap → Prop} {J : It} {M : Nat → Nat → Hp → Prop} {m0 : Nat} {kx vx tg iter : Expr} {ifs : List Expr} {scope : Scope} {own : List (Str × Nat)} {pos : Pos} {g : TG} {tt : TT} {tk tv : TE}
    (room : X.A.units < cLine) (calm : X.calm = true) (nod : X.N.Nodup) (blk : BlkOk X.N X.env.scope scope own) (I3 : Inv X pins σ G3 t3) (Wk : Turn X.prog X.w X.K tg J held it at_) (p3 : at_ 0 t3.heap) (held3 : ∀ b ∈ held, FpOk X pins G3 b ∧ b < t3.heap.objs.size)
    (tgt : ∀ (s : Shared) (H : Hp) (C : Addr) (cl : List (Str × Addr)) (fps : List Addr), PG (X.blk s H scope (compEnvC scope cl C X.env) fps) tg g) (tst : ∀ (s : Shared) (H : Hp) (C : Addr) (cl : List (Str × Addr)) (fps : List Addr), PTs (X.blk s H scope (compEnvC scope cl C X.env) fps) ifs tt)
    (key : ∀ (s : Shared) (H : Hp) (C : Addr) (cl : List (Str × Addr)) (fps : List Addr), PE (X.blk s H scope (compEnvC scope cl C X.env) fps) kx tk) (val : ∀ (s : Shared) (H : Hp) (C : Addr) (cl : List (Str × Addr)) (fps : List Addr), PE (X.blk s H scope (compEnvC scope cl C X.env) fps) vx tv)
    (start : M 0 m0 G3) (turns : ∀ i m G1, M i m G1 → (J.stop i G1 ∧ Q (.ref D) G1) ∨ (J.go i G1 ∧ ∀ x G2, J.yld i G1 x G2 → putTurn X.prog X.w X.K D (own.map (·.2)) g tt tk tv (fun G => ∃ m', m' < m ∧ M (i + 1) m' G) x (L2.wipe σ (own.map (·.2))) G2)) :
    codeAny (model X.prog X.w) X.A (.compStart (.DictComp kx vx [⟨tg, iter, ifs, 0⟩] scope pos) 0 (.ref it) (.ref D) (compEnvC scope (cellsFrom (t3.heap.objs.size + 1) scope.names (cloFrom X.env.cells scope.names [])) t3.heap.objs.size X.env))
      (compPost (model X.prog X.w) X.A X.xe none (EP X pins σ Q) (.ref D) t3.heap.objs.size) { t3 with heap := pushCells (t3.heap.push { cls := .type "dict", data := .dict #[] }) scope.names } := by
  have I4 := block_start I3 blk nod held3
  have pT := tgt t3 G3 t3.heap.objs.size (cellsFrom (t3.heap.objs.size + 1) scope.names (cloFrom X.env.cells scope.names [])) held
  have pS := tst t3 G3 t3.heap.objs.size (cellsFrom (t3.heap.objs.size + 1) scope.names (cloFrom X.env.cells scope.names [])) held
  have pK := key t3 G3 t3.heap.objs.size (cellsFrom (t3.heap.objs.size + 1) scope.names (cloFrom X.env.cells scope.names [])) held
  have pV := val t3 G3 t3.heap.objs.size (cellsFrom (t3.heap.objs.size + 1) scope.names (cloFrom X.env.cells scope.names [])) held
  have locs : (compEnvC scope (cellsFrom (t3.heap.objs.size + 1) scope.names (cloFrom X.env.cells scope.names [])) t3.heap.objs.size X.env).locals = t3.heap.objs.size := rfl
  have p4 : at_ 0 ({ t3 with heap := pushCells (t3.heap.push { cls := .type "dict", data := .dict #[] }) scope.names } : Shared).heap := Wk.keep _ _ _ p3 fun _ _ _ e => pushCells_keeps _ _ _ _ (Heap.get?_push_of_some _ e)
  generalize compEnvC scope (cellsFrom (t3.heap.objs.size + 1) scope.names (cloFrom X.env.cells scope.names [])) t3.heap.objs.size X.env = CE at *
  generalize ({ t3 with heap := pushCells (t3.heap.push { cls := .type "dict", data := .dict #[] }) scope.names } : Shared) = t4 at I4 p4 ⊢
  -- the iterator's own objects, seen from the block
  have own_ok : ∀ {σ' : L2.St} {G' : Hp} {t' : Shared}, Inv (X.blk t3 G3 scope CE held) [] σ' G' t' → (∀ b ∈ held, G' b = none) → ∀ b ∈ held, FpOk (X.blk t3 G3 scope CE held) [] G' b := fun {_ _ _} I' no b hb => by
    have ⟨a1, a2⟩ := I'.ok.exf b hb
    exact ⟨no b hb, a1, I'.ok.exfs b hb, .inl hb, a2, fun p hp => absurd hp (by intro z; exact (List.not_mem_nil z).elim)⟩
  have loop : codeAny (model X.prog X.w) X.A (.compLoop (.DictComp kx vx [⟨tg, iter, ifs, 0⟩] scope pos) 0 (.ref it) (.ref D) CE) (compPost (model X.prog X.w) X.A X.xe none (EP X pins σ Q) (.ref D) t3.heap.objs.size) t4 := by
    refine compLoop_anyD (Between (X.blk t3 G3 scope CE held) (L2.wipe σ (own.map (·.2))) held at_ M) (fun n t5 bt => ?_) m0 ⟨0, G3, I4, p4, fun b hb => (held3 b hb).1.1, start⟩
    obtain ⟨i, G5, I5, p5, no5, now⟩ := bt.ex
    rcases turns i n G5 now with ⟨stop, last⟩ | ⟨go, step⟩
    · refine thnF (Wk.done (X.blk t3 G3 scope CE held) rfl rfl rfl calm i [] t5 _ G5 (fun _ _ => False) I5 (own_ok I5 no5) p5 stop) fun r t6 ⟨er, I6⟩ => ?_
      subst er
      have back : Inv X pins σ G5 t6 := I3.call' (ch := held) I6.os I6.base I6.hok I6.bare fun b hb => by
        obtain ⟨⟨_, k1, _, k3, k4, k5⟩, _⟩ := held3 b hb
        exact ⟨k3, k1, k4, k5⟩
      have free : G5 t3.heap.objs.size = none := by rw [← locs]; exact I6.free
      obtain ⟨mm, ns, _⟩ := I6.loc
      obtain ⟨k0, k1, _, k3, k4, k5⟩ := I3.fpOk (Nat.le_refl _) free
      refine ⟨mm, by rw [← locs]; exact ns, fun h' same => ⟨.ref D, G5, ?_, rfl, last⟩⟩
      exact back.turned (t' := t6.toks) (fun b o hb e => (same.2 b hb).trans e) k0 k1 k3 k4 k5
    · refine thnF (Wk.item (X.blk t3 G3 scope CE held) rfl rfl rfl calm i [] t5 _ G5 (fun _ _ => False) I5 (own_ok I5 no5) p5 go) fun r t6 ⟨u, er, set_⟩ => ?_
      subst er
      refine thnF set_ fun _ t7 ⟨x, G7, I7, rx, yx, p7, no7⟩ => ?_
      have pinned := I7.pinned (own_ok I7 no7) (Wk.obj _ _ p7)
      refine thnF (pT.run _ t7 _ G7 x u _ pinned rx (step x G7 yx)) fun _ t8 ⟨σ8, G8, I8, wp, q8⟩ => ?_
      refine thnF (pS.run _ t8 σ8 G8 _ I8 q8) fun c t9 ⟨G9, I9, q9⟩ => ?_
      have over : ∀ {t' : Shared} {G' : Hp}, Inv (X.blk t3 G3 scope CE held) ([] ++ pinsAt held t7.heap) σ8 G' t' → (∃ m', m' < n ∧ M (i + 1) m' G') → ∃ m', m' < n ∧ Between (X.blk t3 G3 scope CE held) (L2.wipe σ (own.map (·.2))) held at_ M m' t' := fun {_ _} I' nx =>
        turn_over I' wp (fun b hb => by obtain ⟨o, e, _⟩ := Wk.obj _ _ p7 b hb; exact ⟨o, e⟩) (fun h' k => Wk.keep _ _ _ p7 k) nx
      cases c with
      | false =>
        rw [if_neg Bool.false_ne_true] at q9
        rw [if_neg Bool.false_ne_true]
        exact over I9 q9
      | true =>
        rw [if_pos rfl] at q9
        rw [if_pos rfl]
        refine thnF (pK.run _ t9 σ8 G9 _ I9 q9) fun ku t10 ⟨y, G10, I10, ry, q10⟩ => ?_
        refine thnF (pV.run _ t10 σ8 G10 _ I10 q10) fun vu t11 ⟨z, G11, I11, rz, xs, b, k, ey, atD, kok, sq, few, nx⟩ => ?_
        subst ey
        cases (show ku = Value.ref b from ry)
        exact x_set (X := X.blk t3 G3 scope CE held) room I11 atD kok sq few rz fun _ I12 => over I12 nx
  exact codeAny_compStart_dict loop (Wk.self X.A 0 _ _ _ p4 loop)
theorem pe_dcx {kx vx tg iter : Expr} {ifs : List Expr} {scope : Scope} {own : List (Str × Nat)} {pos : Pos} {wi : TI} {g : TG} {tt : TT} {tk tv : TE} (room : X.A.units < cLine) (calm : X.calm = true) (nod : X.N.Nodup) (walk : PI X tg iter wi) (blk : BlkOk X.N X.env.scope scope own)
    (tgt : ∀ (s : Shared) (H : Hp) (C : Addr) (cl : List (Str × Addr)) (fps : List Addr), PG (X.blk s H scope (compEnvC scope cl C X.env) fps) tg g) (tst : ∀ (s : Shared) (H : Hp) (C : Addr) (cl : List (Str × Addr)) (fps : List Addr), PTs (X.blk s H scope (compEnvC scope cl C X.env) fps) ifs tt)
    (key : ∀ (s : Shared) (H : Hp) (C : Addr) (cl : List (Str × Addr)) (fps : List Addr), PE (X.blk s H scope (compEnvC scope cl C X.env) fps) kx tk) (val : ∀ (s : Shared) (H : Hp) (C : Addr) (cl : List (Str × Addr)) (fps : List Addr), PE (X.blk s H scope (compEnvC scope cl C X.env) fps) vx tv)
    (fold : ∀ x, foldedSetIterable iter X.env x = pure x := by intro _; rfl) : PE X (.DictComp kx vx [⟨tg, iter, ifs, 0⟩] scope pos) (tDcX X.prog X.w X.K wi g tt tk tv (own.map (·.2))) := by
  constructor
  intro pins s σ H Q I0 h0
  rw [arm_eval_DictComp]
  -- the iterable, then the new dict
  have cells : ∀ y ∈ scope.names, y.2 = .free → ∃ c, X.env.cells.lookup y.1 = some c := fun y hy e => I0.ok.has _ (blk.free y hy e)
  have first := walk.run pins s σ H _ I0 h0
  refine wpAny_comprehension_free rfl fold (closure_ok cells) blk.kind (fun y hy e => by rw [blk.uniq y hy, e]) (thn first fun _ t1 more => thn more fun _ t2 got => ?_)
  obtain ⟨it, held, at_, J, G, rfl, I2, Wk, p2, o2, q2⟩ := got
  refine wpAny_newObj_type (newEnv_comp ?_)
  obtain ⟨D, eD⟩ : ∃ D, t2.heap.objs.size = D := ⟨_, rfl⟩
  rw [eD]
  have noD : G D = none := I2.hok.fresh (Nat.le_of_eq eD)
  obtain ⟨M, ⟨m0, start⟩, turns⟩ := q2 D noD
  have small : ∀ b ∈ held, b < D := fun b hb => by
    obtain ⟨o, e, _⟩ := Wk.obj _ _ p2 b hb
    rw [← eD]; exact Heap.lt_size e
  have up : ∀ b o, t2.heap.get? b = some o → (t2.heap.push { cls := .type "dict", data := .dict #[] }).get? b = some o := fun b o e => Heap.get?_push_of_some _ e
  have I3 : Inv X pins σ (upd G D (dRaw X.prog X.w D [])) { t2 with heap := t2.heap.push { cls := .type "dict", data := .dict #[] } } :=
    I2.laid (t' := t2.toks) up (Nat.le_of_eq eD) (by rw [← eD]; exact raw_new t2.heap I2.big)
  refine run_block room calm nod blk I3 Wk (Wk.keep _ _ _ p2 fun b _ o e => up b o e) (fun b hb => ⟨⟨?_, (o2 b hb).2⟩, ?_⟩) tgt tst key val start turns
  · rw [upd_ne (Nat.ne_of_lt (small b hb))]
    exact (o2 b hb).1
  · show b < (t2.heap.push _).objs.size
    rw [Heap.size_push, eD]
    exact Nat.lt_succ_of_lt (small b hb)
end
end FL
end
section
namespace FL
open PySem PySem.Spec PyProof.Rows L2
variable [TabsOf]
theorem RKs.kok {K : PySem.W.Frag} {H : Hp} {ks : List Da} {xs : RX} (h : RKs K H ks xs) : KOk K H xs := h.2
theorem viewDct {K : PySem.W.Frag} {z m : List Addr} {H : Hp} {S : List Cell} {d : FL.D} {v : V} {ks vs : List Da} (R : RelS K z m S H) (r : RD K z m H d v) (e : view S d = some (.dct ks vs)) : ∃ a xs, v = .ref a ∧ Rd H a (dRaw TabsOf.P TabsOf.w a xs) ∧ RKs K H ks xs ∧ RPs K z H vs (xs.map (·.2.2)) := by
  have q := view_rel R r e
  cases q with
  | pl h => cases h with | dR h1 h2 h3 => exact ⟨_, _, rfl, .inr ⟨_, h1⟩, h2, h3⟩
  | dR h1 h2 h3 => exact ⟨_, _, rfl, h1, h2, h3⟩
def eDct0 : EM D := fun _ S => .ok (.v (.dct [] [])) S
def eDctN : EM D := fun _ S => .ok (.o S.length) (S ++ [.dct [] []])
def eDct1 (f g : EM D) : EM D := fun ρ S => (f ρ S).bind fun d S1 => (g ρ S1).bind fun e S2 => match d, e with
  | .v p, .v q => (match keyT p with
    | some _ => .ok (.v (.dct [p] [q])) S2
    | none => .bad)
  | _, _ => .bad
def eGet2 (o f g : EM D) : EM D := fun ρ S => (o ρ S).bind fun d S1 => match view S1 d with
  | some (.dct _ _) => (f ρ S1).bind fun p S2 => (g ρ S2).bind fun x S3 => (match view S3 d, view S3 p with
    | some (.dct ks vs), some q => (match keysT ks, keyT q with
      | some kk, some k => (match lookK k kk vs with
        | some r => .ok (.v r) S3
        | none => .ok x S3)
      | _, _ => .bad)
    | _, _ => .bad)
  | _ => .bad
def dputS (S : List Cell) (d i : D) (p : Da) : Option (List Cell) := match d, i with
  | .o n, .v q => (match S[n]? with
    | some (.dct ks vs) => (match putD ks vs q p with
      | some (ks', vs') => some (S.set n (.dct ks' vs'))
      | none => none)
    | _ => none)
  | _, _ => none
def sDput (f o i : EM D) : SM := sThen f fun d => sThen o fun od => sThen i fun id ρ S => match d with
  | .v p => (match dputS S od id p with
    | some S' => .nx ρ S'
    | none => .bad)
  | _ => .bad
/-- the hashes of keys that are tuples of ints -/
def hashI : List Key → Option (List Int)
  | [] => some []
  | .inl i :: r => match hashI r with
    | some l => some (hashInt i :: l)
    | none => none
  | _ => none
def hashT (k : List Key) : Option Int := match hashI k with
  | some l => some (reduceHash (Builtin.Tuple.tupleHashOf l))
  | none => none
def hashTs : List (List Key) → Option (List Int)
  | [] => some []
  | k :: r => match hashT k, hashTs r with
    | some h, some l => some (h :: l)
    | _, _ => none
theorem hashI_eq {P : Program} {w : World} : ∀ {k : List Key} {l : List Int}, hashI k = some l → k.map (mixKind P w).hash = l
  | [], _, e => by cases e; rfl
  | .inl i :: r, l, e => by
    unfold hashI at e
    cases c : hashI r with
    | none => simp only [c] at e; cases e
    | some m =>
      simp only [c] at e; cases e
      rw [List.map_cons, hashI_eq c] <;> rfl
  | .inr x :: r, l, e => by unfold hashI at e; cases e
theorem hashTs_eq {P : Program} {w : World} : ∀ {k : List (List Key)} {l : List Int}, hashTs k = some l → hashX P w k = l
  | [], _, e => by cases e; rfl
  | k :: r, l, e => by
    unfold hashTs at e
    cases c : hashT k with
    | none => simp only [c] at e; cases e
    | some h =>
      cases c2 : hashTs r with
      | none => simp only [c, c2] at e; cases e
      | some m =>
        simp only [c, c2] at e; cases e
        have e1 := hashTs_eq (P := P) (w := w) c2
        unfold hashX at e1 ⊢
        rw [List.map_cons, e1]
        congr 1
        unfold hashT at c
        cases c3 : hashI k with
        | none => simp only [c3] at c; cases c
        | some q =>
          simp only [c3] at c; cases c
          unfold tupleKeyHash
          rw [hashI_eq c3]
def apartK (ks : List Da) : Prop := ∃ kk l, keysT ks = some kk ∧ hashTs kk = some l ∧ l.Nodup
open Classical in
noncomputable def eDcopyN (f : EM D) : EM D := fun ρ S => (f ρ S).bind fun d S1 => match view S1 d with
  | some (.dct ks vs) => if apartK ks then .ok (.o S1.length) (S1 ++ [.dct ks vs]) else .bad
  | _ => .bad
section
variable {X : Cx} {W : WX} {a b c e o i : Expr} {es : List Expr} {pos apos cpos pos' : Pos}
theorem je_get2 {f g h : EM D} (am : Amb X) (hu : X.A.units + 1 < cLine) (ho : JE X W o f) (ha : JE X W a g) (hb : JE X W b h) (base : attributeBase o "get" X.env (eval o X.env) = eval o X.env := by rfl)
    (few : ((backTo cpos (starEach [a, b] X.env)).all (fun x => !x.1) && (backToKw cpos (keywordEach [] X.env)).all (fun x => x.1.isSome) && decide (([a, b] : List Expr).length + ([] : List Keyword).length + (if ([] : List Keyword).isEmpty then 0 else 1) < 30)) = true := by rfl)
    (line : (apos.endLine == cpos.line) = true := by rfl) (trees : backTo cpos (starEach [a, b] X.env) = [(false, eval a X.env), (false, eval b X.env)] := by rfl) : JE X W (.Call (.Attribute o "get" apos) [a, b] [] cpos) (eGet2 f g h) := by
  refine pe_imp (pe_xget2 hu ho ha hb ⟨base, few, line, trees⟩) fun σ H Q ⟨z, m, S, ρ, hS, hE, h⟩ => ?_
  refine tG_intro hS hE h fun d S1 z1 m1 H1 v e1 x1 s1 E1 r1 h1 => ?_
  split at h1
  · rename_i ks0 vs0 c0
    obtain ⟨a1, xs0, rfl, q1, _, _⟩ := viewDct s1 r1 c0
    refine ⟨a1, xs0, rfl, by rw [← am.p, ← am.w]; exact q1, ?_⟩
    refine tG_intro s1 E1 h1 fun p S2 z2 m2 H2 y e2 x2 s2 E2 r2 h2 => ?_
    refine tG_intro s2 E2 h2 fun x S3 z3 m3 H3 u e3 x3 s3 E3 r3 h3 => ?_
    split at h3
    · rename_i ks vs q c1 c2
      obtain ⟨a2, xs, ea, k1, k2, k3⟩ := viewDct s3 ((r1.ext s1 x2).ext s2 x3) c1
      cases ea
      split at h3
      · rename_i kk k c3 c4
        have rq := view_rel s3 (r2.ext s2 x3) c2
        have rp : RP X.K z3 H3 q y := by
          cases q with
          | tup l => cases rq with | pl h => exact h
          | _ => cases c4
        obtain ⟨bb, rfl, hb, _⟩ := keyT_rel c4 rp
        have ek : kk = xs.map (·.1) := by have := k2.keys; rw [c3] at this; exact Option.some.inj this
        subst ek
        refine ⟨xs, bb, k, by rw [← am.p, ← am.w]; exact k1, k2.kok, rfl, hb, ?_⟩
        rcases lookK_rel k k3 with ⟨q1, q2⟩ | ⟨p1, v1, q1, q2, q3⟩
        · rw [q1] at h3; rw [q2]; exact h3 z3 m3 H3 _ .refl s3 r3
        · rw [q1] at h3; rw [q2]; exact h3 z3 m3 H3 _ .refl s3 q3
      · exact h3.elim
    · exact h3.elim
  · exact h1.elim
theorem js_dput {f fo fi : EM D} {tpos : Pos} (am : Amb X) (hu : X.A.units + 1 < cLine) (he : JE X W e f) (ho : JE X W o fo) (hi : JE X W i fi) (hs : swapsWith e (some (.Subscript o i tpos)) pos.line X.env = pure false := by rfl) : JS X W (.Assign [.Subscript o i tpos] e pos) (sDput f fo fi) := by
  refine ps_imp (ps_xput hu ho hi he hs) fun D σ H ⟨z, m, S, ρ, hS, hE, h⟩ => ?_
  refine tS_intro hS hE h fun d S1 z1 m1 H1 v e1 x1 s1 E1 r1 h1 => ?_
  refine tS_intro s1 E1 h1 fun od S2 z2 m2 H2 ov e2 x2 s2 E2 r2 h2 => ?_
  refine tS_intro s2 E2 h2 fun id S3 z3 m3 H3 iv e3 x3 s3 E3 r3 h3 => ?_
  cases d with
  | o n => exact h3.elim
  | v p =>
    simp only at h3
    cases c : dputS S3 od id p with
    | none => simp only [c] at h3; exact h3.elim
    | some S' =>
      simp only [c] at h3
      unfold dputS at c
      split at c
      · rename_i n q
        split at c
        · rename_i ks vs c1
          split at c
          · rename_i ks' vs' c2
            cases c
            obtain ⟨a0, k1, rfl⟩ := r2.ext s2 x3
            have rp : RP X.K z3 H3 p v := RP.ext s2 x3 (RP.ext s1 x2 r1)
            cases s3.cell n a0 _ k1 c1 with
            | @dR _ _ xs g1 g2 g3 =>
              have kt : ∃ k, keyT q = some k := by
                unfold putD at c2
                split at c2
                · exact ⟨_, by assumption⟩
                · cases c2
              obtain ⟨k, kt⟩ := kt
              obtain ⟨bb, rfl, hb, hq⟩ := keyT_rel kt (show RP X.K z3 H3 q iv from r3)
              obtain ⟨n1, n2, n3⟩ := putD_rel g2 g3 kt hq hb rp c2
              have g1' : H3 a0 = some (dRaw X.prog X.w a0 xs) := by rw [← am.p, ← am.w]; exact g1
              refine ⟨a0, xs, bb, k, rfl, g1', g2.kok, rfl, hb, n3, ?_⟩
              rw [← am.p, ← am.w]
              have az := s3.sub a0 (List.mem_of_getElem? k1)
              have kz : Keep z3 H3 (upd H3 a0 (dRaw TabsOf.P TabsOf.w a0 (putX xs k bb v))) := keep_write (K := X.K) az g1 mu_raw
              refine h3 z3 m3 _ σ (.write k1 g1 mu_raw) (s3.write k1 g1 mu_raw (.dR upd_same (n1.keep kz) (RPs.write az g1 mu_raw n2))) ?_
              exact E3.ext s3 (.write k1 g1 mu_raw)
          · cases c
        · cases c
      · cases c
theorem je_dctN (am : Amb X) : JE X W (.Dict [] [] pos) eDctN := by
  refine pe_imp pe_xnew fun σ H Q ⟨z, m, S, ρ, hS, hE, h⟩ => ?_
  intro p hp
  rw [← am.p, ← am.w]
  have x : Ext z m H (z ++ [p]) (m ++ [p]) (upd H p (dRaw TabsOf.P TabsOf.w p [])) := ⟨⟨[p], rfl, fun a h => by simp at h; rw [h]; exact .of hp⟩, ⟨[p], rfl, fun a h => by simp at h; rw [h]; exact .of hp⟩, Same.keep (same_upd hp), Same.back (same_upd hp)⟩
  refine h (z ++ [p]) (m ++ [p]) _ (.ref p) x (hS.new hp (.dR upd_same ⟨rfl, fun _ h => nomatch h⟩ .nil)) ⟨p, ?_, rfl⟩
  rw [← hS.len]; exact last_get
theorem je_dct0 (am : Amb X) : JE X W (.Dict [] [] pos) eDct0 := by
  refine pe_imp (pe_frz pe_xnew) fun σ H Q ⟨z, m, S, ρ, hS, hE, h⟩ => ?_
  intro p hp
  rw [← am.p, ← am.w]
  have na : p ∉ m := fun q => hS.live p (hS.sub p q) (.of hp)
  refine .inr ⟨p, _, rfl, upd_same, trivial, fun od => ?_⟩
  have dk : Dk p (dRaw TabsOf.P TabsOf.w p []) := (DctAt.dk (K := X.K) (z := z) (H := H) (ks := []) (vs := []) ⟨[], rfl, ⟨rfl, fun _ h => nomatch h⟩, .nil⟩).1
  exact h z m _ (.ref p) ((Same.ext (same_upd hp)).frz (.of hp)) ((hS.same (same_upd hp)).at_ dk upd_same na) (.dR upd_same ⟨rfl, fun _ h => nomatch h⟩ .nil)
theorem je_dct1 {f g : EM D} (am : Amb X) (hu : X.A.units < cLine) (ha : JE X W a f) (hb : JE X W b g) : JE X W (.Dict [some a] [b] pos) (eDct1 f g) := by
  refine pe_imp (pe_frz (pe_xone hu ha hb)) fun σ H Q ⟨z, m, S, ρ, hS, hE, h⟩ => ?_
  intro p hp
  rw [← am.p, ← am.w]
  have na : p ∉ z := fun q => hS.live p q (.of hp)
  have x0 : Ext z m H (z ++ [p]) m (upd H p (dRaw TabsOf.P TabsOf.w p [])) := .morez hp
  have S0 : RelS X.K (z ++ [p]) m S (upd H p (dRaw TabsOf.P TabsOf.w p [])) := hS.morez hp
  have post : PostE X.K W (fun z m H => RD X.K z m H) (z ++ [p]) m (upd H p (dRaw TabsOf.P TabsOf.w p [])) σ (eDct1 f g ρ S) (fun v H' => Q v H') := PostE.ext h x0
  refine tG_intro S0 (hE.ext hS x0) post fun d S1 z1 m1 H1 v e1 x1 s1 E1 r1 h1 => ?_
  refine tG_intro s1 E1 h1 fun e S2 z2 m2 H2 w e2 x2 s2 E2 r2 h2 => ?_
  cases d with
  | o n => exact h2.elim
  | v q =>
    cases e with
    | o n => exact h2.elim
    | v q2 =>
      simp only at h2
      cases c : keyT q with
      | none => simp only [c] at h2; exact h2.elim
      | some k =>
        simp only [c] at h2
        have r1' : RP X.K z2 H2 q v := RP.ext s1 x2 r1
        obtain ⟨bb, rfl, hbb, hq⟩ := keyT_rel c r1'
        have pm : p ∉ m1 ∧ p ∉ m2 := by
          have p0 : p ∉ m := fun q => hS.live p (hS.sub p q) (.of hp)
          have p1 : p ∉ m1 := by
            obtain ⟨t, rfl, ht⟩ := x1.me
            intro q
            rcases List.mem_append.mp q with q | q
            · exact p0 q
            · exact ht p q _ upd_same (by unfold dRaw; trivial)
          refine ⟨p1, ?_⟩
          obtain ⟨t, rfl, ht⟩ := x2.me
          intro q
          rcases List.mem_append.mp q with q | q
          · exact p1 q
          · exact x1.live p (ht p q) _ upd_same (by unfold dRaw; trivial)
        have n1 : m.length = m.length := rfl
        have at1 : H1 p = some (dRaw TabsOf.P TabsOf.w p []) := x1.keep p _ upd_same (.inl ⟨fun q => hS.live p (hS.sub p q) (.of hp), trivial⟩)
        have at2 : H2 p = some (dRaw TabsOf.P TabsOf.w p []) := x2.keep p _ at1 (.inl ⟨pm.1, trivial⟩)
        refine ⟨.ref bb, w, rfl, at2, bb, k, rfl, hbb, .inr ⟨p, _, rfl, upd_same, trivial, fun od => ?_⟩⟩
        have hz : p ∈ z2 := by
          obtain ⟨t, rfl, _⟩ := x1.ze
          obtain ⟨t2, rfl, _⟩ := x2.ze
          simp
        have dk : ∀ ys, Dk p (dRaw TabsOf.P TabsOf.w p ys) := fun ys => ⟨fun _ e => (by unfold dRaw at e; cases e), fun _ e => (by unfold dRaw at e; cases e), fun _ _ e => (by unfold dRaw at e; cases e), fun _ e => (by unfold dRaw at e; cases e), fun _ => dRaw_ne_code, fun _ _ _ e => (by unfold dRaw at e; cases e)⟩
        have ep : H p = none := hp
        rw [upd_upd]
        have s3 : RelS X.K z2 m2 S2 (upd H2 p (.frz od (dRaw TabsOf.P TabsOf.w p [(k, bb, w)]))) := s2.at_ (dk []) at2 pm.2
        have h0 : PostE X.K W (fun z m H => RD X.K z m H) z m H σ (.ok (.v (.dct [q] [q2])) S2) Q := by
          have q0 := h
          unfold eDct1 at q0
          rw [e1] at q0
          simp only [ER.bind] at q0
          rw [e2] at q0
          simp only [c] at q0
          exact q0
        refine h0 z2 m2 _ (.ref p) ((x0.trans (x1.trans x2)).frz (.of hp)) s3 (.dR upd_same ⟨by rw [hq]; rfl, fun y hy => ?_⟩ ?_)
        · simp at hy; subst hy; exact (dk []).sqT at2 hbb
        · exact RPs.at_ (dk []) at2 _ _ (.cons r2 .nil)
end
end FL
end
section
namespace FL
open PySem PySem.Spec PyProof.Rows L2
variable [TabsOf]
def zipKV : List Da → List Da → List Da
  | k :: ks, v :: vs => .tup [k, v] :: zipKV ks vs
  | _, _ => []
def iItems (f : EM D) : EM (List Da) := fun ρ S => (f ρ S).bind fun d S1 => match d with
  | .v (.dct ks vs) => .ok (zipKV ks vs) S1
  | _ => .bad
/-- the dict of the store will not be written any more -/
def eTake (f : EM D) : EM D := fun ρ S => (f ρ S).bind fun d S1 => match d with
  | .o n => (match S1[n]? with
    | some (.dct ks vs) => .ok (.v (.dct ks vs)) (S1.set n .gone)
    | _ => .bad)
  | _ => .bad
theorem zipKV_at {K : PySem.W.Frag} {z : List Addr} {H : Hp} : ∀ {xs : RX} {vs : List Da} {i : Nat} {k : List Key} {q : Addr} {v : V}, KOk K H xs → RPs K z H vs (xs.map (·.2.2)) → xs[i]? = some (k, q, v) → ∃ w, (zipKV (xs.map fun x => .tup (x.1.map kDa)) vs)[i]? = some (.tup [.tup (k.map kDa), w]) ∧ RP K z H w v
  | [], _, i, _, _, _, _, _, e => by simp at e
  | x :: xs, _ :: _, 0, k, q, v, _, .cons h t, e => by
    simp at e; subst e
    exact ⟨_, rfl, h⟩
  | x :: xs, _ :: _, i + 1, k, q, v, hk, .cons h t, e => by
    obtain ⟨w, h1, h2⟩ := zipKV_at (i := i) (fun y hy => hk y (List.mem_cons_of_mem _ hy)) t (by simpa using e)
    exact ⟨w, by simpa [zipKV] using h1, h2⟩
theorem zipKV_len {K : PySem.W.Frag} {z : List Addr} {H : Hp} : ∀ {xs : RX} {vs : List Da}, RPs K z H vs (xs.map (·.2.2)) → (zipKV (xs.map fun x => .tup (x.1.map kDa)) vs).length = xs.length
  | [], _, .nil => rfl
  | x :: xs, _ :: _, .cons h t => by simp only [List.map_cons, zipKV, List.length_cons, zipKV_len t]
theorem keyDa_rp {K : PySem.W.Frag} {z : List Addr} {H : Hp} {k : List Key} {q : Addr} (h : SqT K H q (k.map kV)) : RP K z H (.tup (k.map kDa)) (.ref q) := by
  refine .tup h ?_
  have : ∀ l : List Key, RPs K z H (l.map kDa) (l.map kV) := fun l => by
    induction l with
    | nil => exact .nil
    | cons a l ih => cases a with
      | inl i => exact .cons (.int i) ih
      | inr x => exact .cons (.str x) ih
  exact this k
section
variable {X : Cx} {W : WX} {a b c e o i : Expr} {es : List Expr} {pos apos cpos pos' : Pos}
theorem walkItems {K : PySem.W.Frag} {z m : List Addr} {S : List Cell} {H : Hp} {d : Addr} {od : Obj} {xs : RX} {ks vs : List Da} (R : RelS K z m S H) (hd : H d = some (.frz od (dRaw TabsOf.P TabsOf.w d xs))) (hk : RKs K H ks xs) (hv : RPs K z H vs (xs.map (·.2.2))) : RW K z m H (zipKV ks vs) (Itx TabsOf.P TabsOf.w d od xs) := by
  obtain ⟨rfl, hk⟩ := hk
  have ln := zipKV_len hv
  have at1 : ∀ {H1}, GW K z m H H1 → H1 d = some (.frz od (dRaw TabsOf.P TabsOf.w d xs)) := fun ⟨z1, m1, S1, x, s⟩ => x.keep _ _ hd (.inr trivial)
  refine ⟨fun i H1 hi g => ⟨at1 g, by rw [← ln]; exact hi⟩, fun H1 g => ⟨at1 g, Nat.le_of_eq ln.symm⟩, fun i H1 x H2 hi g ⟨T, k, q, v, e1, e2, e3, e4⟩ => ?_⟩
  subst e2 e4
  obtain ⟨w, hw, _⟩ := zipKV_at hk hv e1
  refine ⟨same_upd e3, _, hw, fun z1 m1 S1 x s => ?_⟩
  obtain ⟨w2, hw2, rw2⟩ := zipKV_at hk hv e1
  rw [hw] at hw2
  cases hw2
  have rk : RP K z1 H1 (.tup (k.map kDa)) (.ref q) := keyDa_rp (x.keep.sqT (hk _ (List.mem_of_getElem? e1)))
  have rv : RP K z1 H1 w v := RP.ext R x rw2
  exact .tup (SqT.of upd_same) (.cons (RP.same (same_upd e3) rk) (.cons (RP.same (same_upd e3) rv) .nil))
theorem ji_items {f : EM D} {elts : List Expr} {kk : Nat} {tpos : Pos} (am : Amb X) (he : JE X W e f) (hbase : attributeBase e "items" X.env (eval e X.env) = eval e X.env := by rfl) (hline : (apos.endLine == cpos.line) = true := by rfl) : JI X W (.Tuple elts kk tpos) (.Call (.Attribute e "items" apos) [] [] cpos) (iItems f) := by
  refine pi_imp (pi_itemsX he hbase hline) fun σ H Q ⟨z, m, S, ρ, hS, hE, h⟩ => ?_
  refine tG_intro hS hE h fun d S1 z1 m1 H1 v e1 x1 s1 E1 r1 h1 => ?_
  split at h1
  · rename_i ks vs
    cases r1 with
    | @dR _ _ dd od xs g1 g2 g3 =>
      have g1' : H1 dd = some (.frz od (dRaw X.prog X.w dd xs)) := by rw [← am.p, ← am.w]; exact g1
      refine ⟨dd, od, xs, rfl, g1', ?_⟩
      rw [← am.p, ← am.w]
      exact h1 z1 m1 H1 _ .refl s1 (walkItems s1 g1 g2 g3)
  · exact h1.elim
theorem je_take {f : EM D} (he : JE X W e f) : JE X W e (eTake f) := by
  refine pe_imp (pe_frz he) fun σ H Q ⟨z, m, S, ρ, hS, hE, h⟩ => ?_
  refine tG_intro hS hE h fun d S1 z1 m1 H1 v e1 x1 s1 E1 r1 h1 => ?_
  split at h1
  · rename_i n
    split at h1
    · rename_i ks vs c
      obtain ⟨a0, k1, rfl⟩ := r1
      cases s1.cell n a0 _ k1 c with
      | @dR _ _ xs g1 g2 g3 =>
        have dk : Dk a0 (dRaw TabsOf.P TabsOf.w a0 xs) := (DctAt.dk (K := X.K) (z := z1) (H := H1) (ks := ks) (vs := vs) ⟨xs, rfl, g2, g3⟩).1
        exact .inr ⟨a0, _, rfl, g1, trivial, fun od => h1 z1 m1 _ (.ref a0) (.write k1 g1 mu_raw) (s1.write k1 g1 mu_raw .gone) (.dR upd_same (dk.rks g1 g2) (RPs.at_ dk g1 _ _ g3))⟩
    · exact h1.elim
  · exact h1.elim
def dcLoop (T : Tg) (test : EM Bool) (kf vf : EM D) : List Da → Rho → List Cell → List Da × List Da → ER (List Da × List Da)
  | [], _, S, acc => .ok acc S
  | d :: r, ρ, S, acc => match tgSet T d ρ with
    | none => .bad
    | some ρ1 => match test ρ1 S with
      | .ok b S1 => if b = true then (match kf ρ1 S1 with
          | .ok (.v p) S2 => (match vf ρ1 S2 with
            | .ok (.v q) S3 => (match putD acc.1 acc.2 p q with
              | some acc' => dcLoop T test kf vf r ρ S3 acc'
              | none => .bad)
            | _ => .bad)
          | _ => .bad) else dcLoop T test kf vf r ρ S1 acc
      | _ => .bad
def eDc (it : EM (List Da)) (T : Tg) (test : EM Bool) (kf vf : EM D) (ws : List Nat) : EM D := fun ρ S => (it ρ S).bind fun l S1 => 
    (match dcLoop T test kf vf l (wipeR ρ ws) S1 ([], []) with
      | .ok r S2 => .ok (.v (.dct r.1 r.2)) S2
      | _ => .bad)
theorem dk_raw {p : Addr} {ys : RX} : Dk p (dRaw TabsOf.P TabsOf.w p ys) := ⟨fun _ e => (by unfold dRaw at e; cases e), fun _ e => (by unfold dRaw at e; cases e), fun _ _ e => (by unfold dRaw at e; cases e), fun _ e => (by unfold dRaw at e; cases e), fun _ => dRaw_ne_code, fun _ _ _ e => (by unfold dRaw at e; cases e)⟩
theorem tDc_of {K : PySem.W.Frag} {it : EM (List Da)} {T : Tg} {test : EM Bool} {kf vf : EM D} {ws : List Nat} {σ : L2.St} {H : Hp} {Q : VK} (hw : ∀ i, i ∈ T.slots → i ∈ ws) (h : tE K W (eDc it T test kf vf ws) σ H Q) :
    tFrz (tDcX TabsOf.P TabsOf.w K (tG K W (RW K) it) (gRead K T) (tT K W0 test) (tE K W0 kf) (tE K W0 vf) ws) σ H Q := by
  obtain ⟨z, m, S, ρ, hS, hE, h⟩ := h
  refine tG_intro hS hE h fun l S1 z1 m1 H1 J e1 x1 s1 E1 walk h1 => ?_
  intro D hD
  have nz : D ∉ z1 := s1.fresh hD
  refine ⟨fun i k H' => k = l.length - i ∧ i ≤ l.length ∧ ∃ z2 m2 S2 acc xs, Ext z1 m1 H1 z2 m2 H' ∧ D ∈ z2 ∧ D ∉ m2 ∧ RelS K z2 m2 S2 H' ∧ H' D = some (dRaw TabsOf.P TabsOf.w D xs) ∧ RKs K H' acc.1 xs ∧ RPs K z2 H' acc.2 (xs.map (·.2.2)) ∧
    PostE K W (fun z m H => RD K z m H) z1 m1 H1 σ (match dcLoop T test kf vf (l.drop i) (wipeR ρ ws) S2 acc with
      | .ok r S2 => .ok (.v (.dct r.1 r.2)) S2
      | _ => .bad) Q, ⟨l.length, by simp, Nat.zero_le _, z1 ++ [D], m1, S1, ([], []), [], .morez hD, by simp, fun q => nz (s1.sub D q), s1.morez hD, upd_same, ⟨rfl, fun _ h => nomatch h⟩, .nil, by rw [List.drop_zero]; exact h1⟩, ?_⟩
  rintro i k H' ⟨rfl, hi, z2, m2, S2, acc, xs, x2, dz, dm, s2, hd2, ra, va, post⟩
  have G : GW K z1 m1 H1 H' := ⟨z2, m2, S2, x2, s2⟩
  by_cases hlt : i < l.length
  · refine .inr ⟨walk.goes i H' hlt G, fun x H2 y => ?_⟩
    obtain ⟨sm, d, hd, hx⟩ := walk.yields i H' x H2 hlt G y
    have E2 : RelE K z2 m2 H2 (wipeR ρ ws) (L2.wipe σ ws) := ((E1.ext s1 x2).same sm).wipe ws
    have rx := hx z2 m2 S2 x2 s2
    have ed : l.drop i = d :: l.drop (i + 1) := by
      rw [List.drop_eq_getElem_cons hlt]
      rw [List.getElem?_eq_getElem hlt] at hd; cases hd
      rfl
    rw [ed] at post
    unfold dcLoop at post
    cases c1 : tgSet T d (wipeR ρ ws) with
    | none => simp only [c1] at post; exact post.elim
    | some ρ1 =>
      simp only [c1] at post
      refine gRead_ok rx E2 c1 fun σ2 E3 hwp => ⟨by rw [hwp ws hw, wipe_wipe], ?_⟩
      refine ⟨z2, m2, S2, ρ1, s2.same sm, E3, ?_⟩
      cases c2 : test ρ1 S2 with
      | bad => simp only [c2] at post; exact post.elim
      | err C fs S3 => simp only [c2] at post; exact post.elim
      | ok b S3 =>
        simp only [c2] at post
        intro z3 m3 H3 b' x3 s3 eb
        subst eb
        have stay : ∀ {z m z' m' : List Addr} {H H' : Hp} {S' : List Cell}, Ext z m H z' m' H' → D ∈ z → D ∉ m → H D = some (dRaw TabsOf.P TabsOf.w D xs) → D ∈ z' ∧ D ∉ m' ∧ H' D = some (dRaw TabsOf.P TabsOf.w D xs) := fun x h1 h2 h3 => by
          refine ⟨?_, fun q => ?_, x.keep D _ h3 (.inl ⟨h2, trivial⟩)⟩
          · obtain ⟨t, rfl, _⟩ := x.ze; exact List.mem_append_left _ h1
          · obtain ⟨t, rfl, ht⟩ := x.me
            rcases List.mem_append.mp q with q | q
            · exact h2 q
            · exact ht D q _ h3 (by first | trivial | (unfold dRaw; trivial))
        have x23 := x2.trans ((Same.ext (z := z2) (m := m2) sm).trans x3)
        obtain ⟨dz3, dm3, hd3⟩ := stay (S' := S3) x3 dz dm (sm _ _ hd2)
        have va3 : RPs K z3 H3 acc.2 (xs.map (·.2.2)) := (va.same sm).ext (s2.same sm) x3
        have ra3 : RKs K H3 acc.1 xs := (ra.keep (z := z2) (Same.keep sm)).keep x3.keep
        cases b with
        | false =>
          rw [if_neg Bool.false_ne_true] at post ⊢
          exact ⟨l.length - (i + 1), by omega, rfl, hlt, z3, m3, S3, acc, xs, x23, dz3, dm3, s3, hd3, ra3, va3, post⟩
        | true =>
          rw [if_pos rfl] at post ⊢
          refine ⟨z3, m3, S3, ρ1, s3, E3.ext (s2.same sm) x3, ?_⟩
          cases c3 : kf ρ1 S3 with
          | bad => simp only [c3] at post; exact post.elim
          | err C fs S4 => simp only [c3] at post; exact post.elim
          | ok e S4 =>
            cases e with
            | o n => simp only [c3] at post; exact post.elim
            | v p =>
              simp only [c3] at post
              intro z4 m4 H4 yk x4 s4 ryk
              obtain ⟨dz4, dm4, hd4⟩ := stay (S' := S4) x4 dz3 dm3 hd3
              refine ⟨z4, m4, S4, ρ1, s4, (E3.ext (s2.same sm) x3).ext s3 x4, ?_⟩
              cases c4 : vf ρ1 S4 with
              | bad => simp only [c4] at post; exact post.elim
              | err C fs S5 => simp only [c4] at post; exact post.elim
              | ok e S5 =>
                cases e with
                | o n => simp only [c4] at post; exact post.elim
                | v q =>
                  simp only [c4] at post
                  intro z5 m5 H5 yv x5 s5 ryv
                  obtain ⟨dz5, dm5, hd5⟩ := stay (S' := S5) x5 dz4 dm4 hd4
                  cases c5 : putD acc.1 acc.2 p q with
                  | none => simp only [c5] at post; exact post.elim
                  | some acc' =>
                    simp only [c5] at post
                    have kt : ∃ k, keyT p = some k := by
                      have c6 := c5
                      unfold putD at c6
                      split at c6
                      · exact ⟨_, by assumption⟩
                      · cases c6
                    obtain ⟨k, kt⟩ := kt
                    obtain ⟨bb, rfl, hb, hq⟩ := keyT_rel kt (show RP K z5 H5 p yk from RP.ext s4 x5 ryk)
                    have va5 : RPs K z5 H5 acc.2 (xs.map (·.2.2)) := (va3.ext s3 x4).ext s4 x5
                    have ra5 : RKs K H5 acc.1 xs := (ra3.keep x4.keep).keep x5.keep
                    obtain ⟨n1, n2, n3⟩ := putD_rel (ks' := acc'.1) (vs' := acc'.2) ra5 va5 kt hq hb ryv (by rw [c5])
                    refine ⟨xs, bb, k, rfl, hd5, ra5.kok, hb, n3, l.length - (i + 1), by omega, rfl, hlt, z5, m5, S5, acc', putX xs k bb yv, ((x23.trans x4).trans x5).frz (.of hD), dz5, dm5, s5.at_ dk_raw hd5 dm5, upd_same, dk_raw.rks hd5 n1, RPs.at_ dk_raw hd5 _ _ n2, post⟩
  · have e : i = l.length := by omega
    subst e
    refine .inl ⟨walk.stops H' G, ?_⟩
    rw [List.drop_length] at post
    have post' : PostE K W (fun z m H => RD K z m H) z1 m1 H1 σ (.ok (.v (.dct acc.1 acc.2)) S2) Q := post
    exact .inr ⟨D, _, rfl, hd2, trivial, fun od => post' z2 m2 _ _ (x2.frz (.of hD)) (s2.at_ dk_raw hd2 dm) (.dR upd_same (dk_raw.rks hd2 ra) (RPs.at_ dk_raw hd2 _ _ va))⟩
theorem je_dc {kx vx tg iter : Expr} {ifs : List Expr} {scope : Scope} {own : List (Str × Nat)} {T : Tg} {it : EM (List Da)} {test : EM Bool} {kf vf : EM D} (am : Amb X) (hu : X.A.units < cLine) (hN : X.N.Nodup) (hi : JI X W tg iter it) (hb : blkC X.N X.env.scope scope own = true)
    (hg : ∀ (s : Shared) (H : Hp) (C : Addr) (cl : List (Str × Addr)) (fp : List Addr), JG (X.blk s H scope (compEnvC scope cl C X.env) fp) tg T) (ht : ∀ (s : Shared) (H : Hp) (C : Addr) (cl : List (Str × Addr)) (fp : List Addr), JTs (X.blk s H scope (compEnvC scope cl C X.env) fp) ifs test)
    (hk : ∀ (s : Shared) (H : Hp) (C : Addr) (cl : List (Str × Addr)) (fp : List Addr), JE (X.blk s H scope (compEnvC scope cl C X.env) fp) W0 kx kf) (he : ∀ (s : Shared) (H : Hp) (C : Addr) (cl : List (Str × Addr)) (fp : List Addr), JE (X.blk s H scope (compEnvC scope cl C X.env) fp) W0 vx vf)
    (hw : ∀ i, i ∈ T.slots → i ∈ own.map (·.2) := by decide) (hc : X.calm = true := by rfl) (hs : ∀ x, foldedSetIterable iter X.env x = pure x := by intro _; rfl) :
    JE X W (.DictComp kx vx [⟨tg, iter, ifs, 0⟩] scope pos) (eDc it T test kf vf (own.map (·.2))) :=
  pe_imp (pe_frz (pe_dcx (g := gRead X.K T) (tt := tT X.K W0 test) (tk := tE X.K W0 kf) (tv := tE X.K W0 vf) hu hc hN hi (blkOk_by hb) hg ht hk he hs)) fun _ _ _ h => by
    have := tDc_of hw h
    rw [am.p, am.w] at this
    exact this
end
end FL
end
section
namespace FL
open PySem PySem.Spec PyProof.Rows L2
variable [TabsOf]
section
variable {X : Cx} {W : WX} {a b c e o i : Expr} {es : List Expr} {pos apos cpos pos' : Pos}
theorem last_of {m : List Addr} {S : List Cell} {p : Addr} (h : m.length = S.length) : (m ++ [p])[S.length]? = some p := by rw [← h]; exact last_get
theorem je_copyN {x : Str} {f : EM D} {p : Pos} (am : Amb X) (hu : X.A.units + 3 < cLine) (hm : X.mg x = none) (hv : bootBuiltins x = some (.type "dict")) (ha : JE X W e f) (hg : Gl X x := by rfl) (hn : x ≠ "__name__" := by decide) (hdb : (x == ("__debug__" : Str)) = false := by decide)
    (he : starEach [e] X.env = (false, eval e X.env) :: starEach [] X.env := by rfl) (hpl : (backTo pos (starEach [] X.env)).any (·.1) = false := by rfl) : JE X W (.Call (.Name x p) [e] [] pos) (eDcopyN f) := by
  refine pe_imp (pe_callTy (call_xcopy hu) hg hm hv (pa_cons ha pa_nil he) hn hdb he hpl) fun σ H Q ⟨z, m, S, ρ, hS, hE, h⟩ => ?_
  refine tG_intro hS hE h fun d S1 z1 m1 H1 v e1 x1 s1 E1 r1 h1 => ?_
  split at h1
  · rename_i ks vs c0
    split at h1
    · rename_i ap
      obtain ⟨a1, xs, rfl, q1, q2, q3⟩ := viewDct s1 r1 c0
      obtain ⟨kk, l, k1, k2, k3⟩ := ap
      have ek : kk = xs.map (·.1) := by have := q2.keys; rw [k1] at this; exact Option.some.inj this
      subst ek
      have q1' : Rd H1 a1 (dRaw X.prog X.w a1 xs) := by rw [← am.p, ← am.w]; exact q1
      refine ⟨a1, xs, rfl, q1', q2.kok, by rw [hashTs_eq k2]; exact k3, fun p hp => ?_⟩
      rw [← am.p, ← am.w]
      have xx : Ext z1 m1 H1 (z1 ++ [p]) (m1 ++ [p]) (upd H1 p (dRaw TabsOf.P TabsOf.w p xs)) := ⟨⟨[p], rfl, fun a h => by simp at h; rw [h]; exact .of hp⟩, ⟨[p], rfl, fun a h => by simp at h; rw [h]; exact .of hp⟩, Same.keep (same_upd hp), Same.back (same_upd hp)⟩
      exact h1 (z1 ++ [p]) (m1 ++ [p]) _ (.ref p) xx (s1.new hp (.dR upd_same (q2.keep (z := z1) (Same.keep (same_upd hp))) (q3.newz hp))) ⟨p, last_of s1.len, rfl⟩
    · exact h1.elim
  · exact h1.elim
def TupC (K : PySem.W.Frag) (mg : Str → Option Value) (x : Str) (l : List Int) : Prop := ∃ a o its n, mg x = some (.ref a) ∧ K.lookup a = some o ∧ o.cls = .type "tuple" ∧ o.data = .seq its n ∧ its.size ≤ sizeLine ∧ Vals (l.map V.int) its.toList
theorem je_gtup {x : Str} {l : List Int} (hm : TupC X.K X.mg x l) (hg : Gl X x := by rfl) (hd : (x == ("__debug__" : Str)) = false := by decide) : JE X W (.Name x pos) (eC (.tup (l.map Da.int))) := by
  obtain ⟨a, o, its, n, h1, h2, h3, h4, h5, h6⟩ := hm
  exact je_c (pe_glob (v := .ref a) hg h1 rfl hd) fun z H => .tup (.inr ⟨o, its, n, h2, h3, h4, h5, h6⟩) (RPs.of_ints l)
end
end FL
end
section
namespace FL
open PySem PySem.Spec PyProof.Rows L2
variable [TabsOf]
def lc1S (n : Nat) (T : Tg) (test : EM Bool) (elt : EM D) : List Da → Rho → List Cell → ER Unit
  | [], _, S => .ok () S
  | d :: r, ρ, S => match tgSet T d ρ with
    | none => .bad
    | some ρ1 => match test ρ1 S with
      | .ok b S1 => if b = true then (match elt ρ1 S1 with
          | .ok (.v p) S2 => (match S2[n]? with
            | some (.lst acc) => if acc.length < 1000000 then lc1S n T test elt r ρ (S2.set n (.lst (acc ++ [p]))) else .bad
            | _ => .bad)
          | _ => .bad) else lc1S n T test elt r ρ S1
      | _ => .bad
def lc2S (n : Nat) (T : Tg) (it1 : EM (List Da)) (T1 : Tg) (test : EM Bool) (elt : EM D) (ws1 : List Nat) : List Da → Rho → List Cell → ER Unit
  | [], _, S => .ok () S
  | d :: r, ρ, S => match tgSet T d ρ with
    | none => .bad
    | some ρ1 => match it1 ρ1 S with
      | .ok l1 S1 => (match lc1S n T1 test elt l1 (wipeR ρ1 ws1) S1 with
        | .ok _ S2 => lc2S n T it1 T1 test elt ws1 r ρ S2
        | _ => .bad)
      | _ => .bad
def endS (n : Nat) : ER Unit → ER D
  | .ok _ S => (match S[n]? with
    | some (.lst acc) => if S.length = n + 1 ∧ (S.take n).all (closedC n) = true then .ok (.v (.lst acc)) (S.take n) else .bad
    | _ => .bad)
  | _ => .bad
/-- [e for a in xs for b in ys if c] -/
def eLc2 (it : EM (List Da)) (T : Tg) (it1 : EM (List Da)) (T1 : Tg) (test : EM Bool) (elt : EM D) (ws ws1 : List Nat) : EM D := fun ρ S => (it ρ S).bind fun l S1 => endS S1.length (lc2S S1.length T it1 T1 test elt ws1 l (wipeR ρ ws) (S1 ++ [.lst []]))
theorem drop_at {l : List Da} {i : Nat} {d : Da} (h : l[i]? = some d) : l.drop i = d :: l.drop (i + 1) := by
  have hi := (List.getElem?_eq_some_iff.mp h).1
  rw [List.drop_eq_getElem_cons hi]
  rw [List.getElem?_eq_getElem hi] at h; cases h
  rfl
/-- the list in the making is let go from the store -/
theorem endS_ok {K : PySem.W.Frag} {W : WX} {z1 m1 z2 m2 : List Addr} {S1 S2 : List Cell} {H1 H' : Hp} {D : Addr} {σ : L2.St} {Q : VK} (R1 : RelS K z1 m1 S1 H1) (hD : H1 D = none) (x : Ext (z1 ++ [D]) (m1 ++ [D]) (upd H1 D (.lst [])) z2 m2 H') (s : RelS K z2 m2 S2 H')
    (post : PostE K W (fun z m H => RD K z m H) z1 m1 H1 σ (endS S1.length (.ok () S2)) Q) : Q (.ref D) H' := by
  have nz : D ∉ z1 := R1.fresh hD
  unfold endS at post
  simp only at post
  split at post
  · rename_i acc c
    split at post
    · rename_i cc
      obtain ⟨hl, hc⟩ := cc
      obtain ⟨t, et, ht⟩ := x.me
      obtain ⟨u, eu, hu⟩ := x.ze
      have l1 := R1.len
      have t0 : t = [] := by
        have := s.len
        rw [et, hl, List.length_append, List.length_append, l1] at this
        simp at this
        exact this
      subst t0
      rw [List.append_nil] at et
      subst et
      have atD : (m1 ++ [D])[S1.length]? = some D := by rw [← l1]; exact last_get
      obtain ⟨vs, h1, r1⟩ := s.listAt atD c
      have hs : ∀ a, a ∈ (z2.filter fun a => decide (a ≠ D)) → a ∈ z2 := fun a h => (List.mem_filter.mp h).1
      have m1z : ∀ a, a ∈ m1 → a ∈ (z2.filter fun a => decide (a ≠ D)) := fun a h => List.mem_filter.mpr ⟨s.sub a (List.mem_append_left _ h), decide_eq_true fun q => nz (by rw [← q]; exact R1.sub a h)⟩
      have s' := s.cut hs m1z (k := S1.length) l1.symm hc
      have eu' : (z2.filter fun a => decide (a ≠ D)) = z1 ++ (u.filter fun a => decide (a ≠ D)) := by
        rw [eu, List.filter_append, List.filter_append]
        have e1 : z1.filter (fun a => decide (a ≠ D)) = z1 := List.filter_eq_self.mpr fun a h => decide_eq_true fun q => nz (by rw [← q]; exact h)
        have e2 : [D].filter (fun a => decide (a ≠ D)) = [] := by simp
        rw [e1, e2, List.append_nil]
      have un : ∀ a, NewA (upd H1 D (.lst [])) a → NewA H1 a := fun a q => NewA.upd (o := .lst []) True.intro q
      have x' : Ext z1 m1 H1 (z2.filter fun a => decide (a ≠ D)) m1 H' := ⟨⟨_, eu', fun a h => un a (hu a (List.mem_filter.mp h).1)⟩, ⟨[], by simp, by simp⟩, fun a o e hh => by
        have ne : a ≠ D := ne_of_none e hD
        refine x.keep a o (by rw [upd_ne ne]; exact e) ?_
        rcases hh with hh | hh
        · exact .inl ⟨fun q => by
            rcases List.mem_append.mp q with q | q
            · exact hh.1 q
            · simp at q; exact ne q, hh.2⟩
        · exact .inr hh, fun a h => un a (x.live a h)⟩
      exact post _ m1 H' _ x' s' (RP.lst h1 (fun q => by simpa using (List.mem_filter.mp q).2) (r1.lessz hs))
    · exact post.elim
  · exact post.elim
theorem tLc2_of {K : PySem.W.Frag} {W : WX} {it it1 : EM (List Da)} {T T1 : Tg} {test : EM Bool} {elt : EM D} {ws ws1 : List Nat} {σ : L2.St} {H : Hp} {Q : VK} (hw : ∀ i, i ∈ T.slots → i ∈ ws) (hw1 : ∀ i, i ∈ T1.slots → i ∈ ws1) (h : tE K W (eLc2 it T it1 T1 test elt ws ws1) σ H Q) :
    tLc2 (tG K W (RW K) it) (gRead K T) (tT K W0 eYes) (tG K W0 (RW K) it1) (gRead K T1) (tT K W0 test) (tE K W0 elt) ws ws1 σ H Q := by
  obtain ⟨z, m, S, ρ, hS, hE, h⟩ := h
  refine tG_intro hS hE h fun l S1 z1 m1 H1 J e1 x1 s1 E1 walk h1 => ?_
  intro D hD
  have xD : Ext z1 m1 H1 (z1 ++ [D]) (m1 ++ [D]) (upd H1 D (.lst [])) := ⟨⟨[D], rfl, fun a h => by simp at h; rw [h]; exact .of hD⟩, ⟨[D], rfl, fun a h => by simp at h; rw [h]; exact .of hD⟩, Same.keep (same_upd hD), Same.back (same_upd hD)⟩
  have sD : RelS K (z1 ++ [D]) (m1 ++ [D]) (S1 ++ [.lst []]) (upd H1 D (.lst [])) := s1.new hD (.lst upd_same .nil)
  have mD : ∀ {z2 m2 H2}, Ext (z1 ++ [D]) (m1 ++ [D]) (upd H1 D (.lst [])) z2 m2 H2 → m2[S1.length]? = some D := fun {z2 m2 H2} x => by
    obtain ⟨t, rfl, _⟩ := x.me
    exact getP (by rw [← s1.len]; exact last_get)
  let Pst : ER Unit → Prop := fun r => PostE K W (fun z m H => RD K z m H) z1 m1 H1 σ (endS S1.length r) Q
  refine ⟨fun i k H' => k = l.length - i ∧ i ≤ l.length ∧ ∃ z2 m2 S2, Ext (z1 ++ [D]) (m1 ++ [D]) (upd H1 D (.lst [])) z2 m2 H' ∧ RelS K z2 m2 S2 H' ∧ Pst (lc2S S1.length T it1 T1 test elt ws1 (l.drop i) (wipeR ρ ws) S2),
    ⟨l.length, by simp, Nat.zero_le _, _, _, _, .refl, sD, by rw [List.drop_zero]; exact h1⟩, ?_⟩
  rintro i k H' ⟨rfl, hi, z2, m2, S2, x2, s2, post⟩
  have G : GW K z1 m1 H1 H' := ⟨z2, m2, S2, xD.trans x2, s2⟩
  by_cases hlt : i < l.length
  · refine .inr ⟨walk.goes i H' hlt G, fun H2 => ∃ z2 m2 S2, Ext (z1 ++ [D]) (m1 ++ [D]) (upd H1 D (.lst [])) z2 m2 H2 ∧ RelS K z2 m2 S2 H2 ∧ Pst (lc2S S1.length T it1 T1 test elt ws1 (l.drop (i + 1)) (wipeR ρ ws) S2), fun H2 q => ⟨l.length - (i + 1), by omega, rfl, hlt, q⟩, fun x H2 y => ?_⟩
    obtain ⟨sm, d, hd, hx⟩ := walk.yields i H' x H2 hlt G y
    have E2 : RelE K z2 m2 H2 (wipeR ρ ws) (L2.wipe σ ws) := ((E1.ext s1 (xD.trans x2)).same sm).wipe ws
    have rx := hx z2 m2 S2 (xD.trans x2) s2
    rw [drop_at hd] at post
    unfold lc2S at post
    cases c1 : tgSet T d (wipeR ρ ws) with
    | none => simp only [c1] at post; exact post.elim
    | some ρ1 =>
      simp only [c1] at post
      refine gRead_ok rx E2 c1 fun σ2 E3 hwp => ⟨by rw [hwp ws hw, wipe_wipe], ?_⟩
      refine ⟨z2, m2, S2, ρ1, s2.same sm, E3, ?_⟩
      intro z3 m3 H3 b' x3 s3 eb
      subst eb
      rw [if_pos rfl]
      have E3' := E3.ext (s2.same sm) x3
      refine ⟨z3, m3, S2, ρ1, s3, E3', ?_⟩
      have x23 := x2.trans ((Same.ext (z := z2) (m := m2) sm).trans x3)
      cases c2 : it1 ρ1 S2 with
      | bad => simp only [c2] at post; exact post.elim
      | err C fs S3 => simp only [c2] at post; exact post.elim
      | ok l1 S3 =>
        simp only [c2] at post
        intro z4 m4 H4 J1 x4 s4 walk1
        have x24 := x23.trans x4
        have E4 := E3'.ext s3 x4
        let fin : ER Unit → ER Unit := fun r => match r with
          | .ok _ S2 => lc2S S1.length T it1 T1 test elt ws1 (l.drop (i + 1)) (wipeR ρ ws) S2
          | _ => .bad
        have post' : Pst (fin (lc1S S1.length T1 test elt l1 (wipeR ρ1 ws1) S3)) := post
        refine ⟨fun j k H' => k = l1.length - j ∧ j ≤ l1.length ∧ ∃ z5 m5 S5, Ext z4 m4 H4 z5 m5 H' ∧ RelS K z5 m5 S5 H' ∧ Pst (fin (lc1S S1.length T1 test elt (l1.drop j) (wipeR ρ1 ws1) S5)), ⟨l1.length, by simp, Nat.zero_le _, z4, m4, S3, .refl, s4, by rw [List.drop_zero]; exact post'⟩, ?_⟩
        rintro j k H5 ⟨rfl, hj, z5, m5, S5, y5, s5, post5⟩
        have G1 : GW K z4 m4 H4 H5 := ⟨z5, m5, S5, y5, s5⟩
        have E5 : RelE K z5 m5 H5 ρ1 σ2 := E4.ext s4 y5
        by_cases hlt1 : j < l1.length
        · refine .inr ⟨walk1.goes j H5 hlt1 G1, fun H6 => ∃ z5 m5 S5, Ext z4 m4 H4 z5 m5 H6 ∧ RelS K z5 m5 S5 H6 ∧ Pst (fin (lc1S S1.length T1 test elt (l1.drop (j + 1)) (wipeR ρ1 ws1) S5)), fun H6 q => ⟨l1.length - (j + 1), by omega, rfl, hlt1, q⟩, fun x H6 y => ?_⟩
          obtain ⟨sm6, d6, hd6, hx6⟩ := walk1.yields j H5 x H6 hlt1 G1 y
          have E6 : RelE K z5 m5 H6 (wipeR ρ1 ws1) (L2.wipe σ2 ws1) := (E5.same sm6).wipe ws1
          have rx6 := hx6 z5 m5 S5 y5 s5
          rw [drop_at hd6] at post5
          unfold lc1S at post5
          cases c6 : tgSet T1 d6 (wipeR ρ1 ws1) with
          | none => simp only [c6] at post5; exact post5.elim
          | some ρ6 =>
            simp only [c6] at post5
            refine gRead_ok rx6 E6 c6 fun σ6 E6' hwp6 => ⟨by rw [hwp6 ws1 hw1, wipe_wipe], ?_⟩
            refine ⟨z5, m5, S5, ρ6, s5.same sm6, E6', ?_⟩
            cases c7 : test ρ6 S5 with
            | bad => simp only [c7] at post5; exact post5.elim
            | err C fs S3 => simp only [c7] at post5; exact post5.elim
            | ok b S7 =>
              simp only [c7] at post5
              intro z7 m7 H7 b7 x7 s7 eb
              subst eb
              have xx7 := (Same.ext (z := z5) (m := m5) sm6).trans x7
              cases b with
              | false =>
                rw [if_neg Bool.false_ne_true] at post5 ⊢
                exact ⟨z7, m7, S7, y5.trans xx7, s7, post5⟩
              | true =>
                rw [if_pos rfl] at post5 ⊢
                refine ⟨z7, m7, S7, ρ6, s7, E6'.ext (s5.same sm6) x7, ?_⟩
                cases c8 : elt ρ6 S7 with
                | bad => simp only [c8] at post5; exact post5.elim
                | err C fs S4 => simp only [c8] at post5; exact post5.elim
                | ok e S8 =>
                  cases e with
                  | o n => simp only [c8] at post5; exact post5.elim
                  | v p =>
                    simp only [c8] at post5
                    intro z8 m8 H8 y8 x8 s8 r8
                    split at post5
                    · rename_i acc c9
                      split at post5
                      · rename_i hl
                        have w8 := y5.trans (xx7.trans x8)
                        have mm := mD (x24.trans w8)
                        obtain ⟨vs, g1, g2⟩ := s8.listAt mm c9
                        refine ⟨vs, g1, by rw [← g2.len]; exact Nat.lt_of_lt_of_le hl line_big, z8, m8, _, w8.trans (.write mm g1 mu_lst), s8.write mm g1 mu_lst (.lst upd_same (RPs.write (s8.sub D (List.mem_of_getElem? mm)) g1 mu_lst (g2.append (.cons r8 .nil)))), post5⟩
                      · exact post5.elim
                    · exact post5.elim
        · have e : j = l1.length := by omega
          subst e
          refine .inl ⟨walk1.stops H5 G1, ?_⟩
          rw [List.drop_length] at post5
          exact ⟨z5, m5, S5, x24.trans y5, s5, post5⟩
  · have e : i = l.length := by omega
    subst e
    refine .inl ⟨walk.stops H' G, ?_⟩
    rw [List.drop_length] at post
    exact endS_ok s1 hD x2 s2 post
section
variable {X : Cx} {W : WX}
theorem je_lc2 {elt tg iter tg1 iter1 : Expr} {ifs1 : List Expr} {scope : Scope} {own : List (Str × Nat)} {pos : Pos} {T T1 : Tg} {it it1 : EM (List Da)} {test : EM Bool} {f : EM D} (hN : X.N.Nodup) (hi : JI X W tg iter it) (hb : blkC X.N X.env.scope scope own = true)
    (hg : ∀ (s : Shared) (H : Hp) (C : Addr) (cl : List (Str × Addr)) (fp : List Addr), JG (X.blk s H scope (compEnvC scope cl C X.env) fp) tg T)
    (hi1 : ∀ (s : Shared) (H : Hp) (C : Addr) (cl : List (Str × Addr)) (fp : List Addr), JI (X.blk s H scope (compEnvC scope cl C X.env) fp) W0 tg1 iter1 it1) (hg1 : ∀ (s : Shared) (H : Hp) (C : Addr) (cl : List (Str × Addr)) (fp : List Addr), JG (X.blk s H scope (compEnvC scope cl C X.env) fp) tg1 T1)
    (ht1 : ∀ (s : Shared) (H : Hp) (C : Addr) (cl : List (Str × Addr)) (fp : List Addr), JTs (X.blk s H scope (compEnvC scope cl C X.env) fp) ifs1 test) (he : ∀ (s : Shared) (H : Hp) (C : Addr) (cl : List (Str × Addr)) (fp : List Addr), JE (X.blk s H scope (compEnvC scope cl C X.env) fp) W0 elt f)
    (hv : ∀ i ∈ T1.slots, i ∈ own.map (·.2) := by decide) (hw : ∀ i, i ∈ T.slots → i ∈ own.map (·.2) := by decide) (hc : X.calm = true := by rfl) (hs : ∀ x, foldedSetIterable iter X.env x = pure x := by intro _; rfl) (hs1 : ∀ env x, foldedSetIterable iter1 env x = pure x := by intro _ _; rfl) :
    JE X W (.ListComp elt [⟨tg, iter, [], 0⟩, ⟨tg1, iter1, ifs1, 0⟩] scope pos) (eLc2 it T it1 T1 test f (own.map (·.2)) T1.slots) :=
  pe_imp (pe_lc2 (g := gRead X.K T) (tt := tT X.K W0 eYes) (wi1 := tG X.K W0 (RW X.K) it1) (g1 := gRead X.K T1) (tt1 := tT X.K W0 test) (te := tE X.K W0 f) hc hN hi (blkOk_by hb) hv hg (fun _ _ _ _ _ => jts_nil) hi1 hg1 ht1 he hs hs1) fun _ _ _ h => tLc2_of hw (fun _ h => h) h
end
end FL
end
section
namespace FL
open PySem PySem.Spec PyProof.Rows L2
variable [TabsOf]
section
variable {X : Cx} {W : WX} {a b c e tg : Expr} {es : List Expr} {pos : Pos}
end
end FL
end
section
namespace FL
open PySem PySem.Spec PyProof.Rows L2 LamX
variable [TabsOf]
variable {y : Bool}
structure ErrC (K : PySem.W.Frag) (mg : Str → Option Value) (bmB : List Value) (newId : String) (x : Str) : Prop where
  g : mg x = some (.ref (TabsOf.cls x))
  q : PySem.W.excIn K (TabsOf.cls x) bmB newId = true
  k : PySem.W.keepIn K (.ref (TabsOf.cls x)) = true
  b : PySem.W.subIn K (.ref (TabsOf.cls x)) (.type "BaseException") = some true
  t : PySem.W.typeIn K (.ref (TabsOf.cls x)) = some (.type "type")
def sRaise0 (x : Str) : SM := fun ρ S => .err ρ x [] S
section
variable {X : Cx} {W : WX} {a b c e : Expr} {es : List Expr} {pos : Pos}
theorem pmk_own0 {x : Str} {bmB : List Value} {B newId initId : String} {p pos : Pos} (F : ExcBaseFacts B newId initId bmB) (T : ErrC X.K X.mg bmB newId x) (hg : Gl X x) (hdb : (x == ("__debug__" : Str)) = false := by decide) : PMk X (.Call (.Name x p) [] [] pos) (fun _ H Q => Q (.ref (TabsOf.cls x)) none H) := by
  intro pins s σ H Q I h
  refine wpAny_Call_Name_kw (ld_glob I hg T.g ?_ hdb)
  refine PySem.W.callWith_K0 I.kIn T.k ?_
  obtain ⟨bm, N, nm, qn, bs, hdct, sn, sub, ab, col, dd, k0, k1, k2, k3, k5, mN, hC, hN, hni, OT⟩ := exc_obj I.kIn T.q
  obtain ⟨hp, g, dr, tk, os⟩ := s
  refine wpAny_call_exc_subT F OT hC hN hni (fun h' e hm => ?_) (by show 0 ≤ sizeLine; exact Nat.zero_le _)
  exact mk_of I hm (raises_own T.b T.t) h (I.hok.gone hm.new)
theorem js_raise0 {x : Str} {bmB : List Value} {B newId initId : String} {p pos' : Pos} (F : ExcBaseFacts B newId initId bmB) (T : ErrC X.K X.mg bmB newId x) (tk : Takes X W) (hg : Gl X x := by rfl) (hdb : (x == ("__debug__" : Str)) = false := by decide) (hc : X.calm = true := by rfl) :
    JS X W (.Raise (some (.Call (.Name x p) [] [] pos')) none pos) (sRaise0 x) := by
  refine ps_imp (ps_raise hc tk (pmk_own0 F T hg hdb)) fun D σ H ⟨z, m, S, ρ, hS, hE, h⟩ => ?_
  exact h z m H σ .refl hS hE
def eLam (h : ER D → ER D) (f : EM D) : EM D := fun ρ S => h (f ρ S)
/-- what x makes of what it is handed -/
def LamOk (K : PySem.W.Frag) (TT : (XK → Hp → VK → Prop) → Hp → VK → Prop) (h : ER D → ER D) : Prop :=
  ∀ (W : WX) (z m : List Addr) (S : List Cell) (ρ : Rho) (H : Hp) (σ : L2.St) (f : EM D) (Q : VK), RelS K z m S H → RelE K z m H ρ σ → PostE K W (fun z m H => RD K z m H) z m H σ (h (f ρ S)) Q → TT (fun E H' Q' => tE K (WD E) f σ H' Q') H Q
theorem tG_lam {K : PySem.W.Frag} {TT : (XK → Hp → VK → Prop) → Hp → VK → Prop} {h : ER D → ER D} {f : EM D} (ok : LamOk K TT h) {σ : L2.St} {H : Hp} {Q : VK} (q : tE K W (eLam h f) σ H Q) : tLam TabsOf.T TT (fun E => tE K (WD E) f) σ H Q := by
  obtain ⟨z, m, S, ρ, hS, hE, post⟩ := q
  refine ⟨hS.tabs, fun H1 eN T1 => ?_⟩
  have lv : ∀ a, NewA H1 a → NewA H a := fun a h o e k => h o (eN a o e fun ps q => by subst q; exact k) k
  have kp : ∀ zz, Keep zz H H1 := fun zz a o e hh => by
    refine eN a o e fun ps q => ?_
    subst q
    rcases hh with hh | hh
    · exact hh.2
    · exact hh
  have x : Ext z m H z m H1 := ⟨⟨[], by simp, by simp⟩, ⟨[], by simp, by simp⟩, kp m, lv⟩
  have s1 : RelS K z m S H1 := ⟨hS.len, hS.nd, hS.sub, fun a h n => hS.live a h (lv a n), fun i a c h1 h2 => ?_, T1⟩
  · exact ok W z m S ρ H1 σ f Q s1 (hE.ext hS x) (PostE.ext post x)
  · have nt : ∀ o, H a = some o → (∀ ps, o ≠ .tbl ps) → H1 a = some o := fun o e n => eN a o e n
    cases hS.cell i a c h1 h2 with
    | lst g1 g2 => exact .lst (nt _ g1 (fun _ q => nomatch q)) (RPs.mono (kp z) (fun _ q1 q2 => absurd q1 q2) _ _ g2)
    | dK g1 g2 g3 => exact .dK (nt _ g1 (fun _ q => nomatch q)) g2 (RPs.mono (kp z) (fun _ q1 q2 => absurd q1 q2) _ _ g3)
    | dR g1 g2 g3 => exact .dR (nt _ g1 (fun _ q => by unfold dRaw at q; cases q)) (g2.keep (kp z)) (RPs.mono (kp z) (fun _ q1 q2 => absurd q1 q2) _ _ g3)
    | ins g1 g2 => exact .ins (nt _ g1 (fun _ q => nomatch q)) (RFs.kz (kp z) (fun _ q1 q2 => absurd q1 q2) g2)
    | gone => exact .gone
/-- what the making of a lambda in the def x asks -/
structure LamT (K : PySem.W.Frag) (mg : Str → Option Value) (base : Heap) (cdv : Value) (q : Str) : Prop where
  ex : ∃ c P, cdv = .ref c ∧ TabB base mg c P ∧ (P, q) ∈ TabsOf.T ∧ ∀ p ∈ TabsOf.T, p.1 = P → p.2 = q
theorem je_lam {TT : (XK → Hp → VK → Prop) → Hp → VK → Prop} {h : ER D → ER D} {x a : Str} {sta : Stmt} {g : Addr} {gd : FuncData} {k : Nat} {Ng : List Str} {params : Arguments} {body : Expr} {scp : Scope} {f : EM D} {p lpos pos : Pos}
    (hm : X.mg x = some (.ref g)) (G : Fun X.K x x sta g gd) (Sg : FnScope Ng [a] (defScope sta)) (hNg : Ng[0]? = some a) (hva : Vis (defScope sta) a) (hb0 : ∀ (kV doc pm : Value) (an : Option Addr) (cdv ct : Value) (us : List Value), us.length = [a].length → bindArgs (PySem.W.fnOf x x (defArgs sta) (defBody sta) (defScope sta) .none kV doc pm an cdv ct) ⟨us, []⟩ = pure ([a].zip us))
    (hG : ∀ (g : Addr) (cdv : Value), GivesTo X Ng x (defScope sta) g cdv (defBody sta) a (X.env.qual ++ "<lambda>") TT) (ok : LamOk X.K TT h)
    (LT : LamT X.K X.mg X.base X.env.code (X.env.qual ++ "<lambda>")) (hr : RoomG false (k + 2) X.A)
    (hbody : ∀ (A : Around) (outer : List Env) (s : Shared) (H : Hp) (E : XK) (fl c' : Addr), RoomG false k (A.deeper (lamEnv X scp s.heap.objs.size fl c')) → Takes (lamCx X A outer s H E scp fl c') (WD E) → JE (lamCx X A outer s H E scp fl c') (WD E) body f)
    (L : lamSB X.env.scope scp = true := by rfl) (hg : Gl X x := by rfl) (hdf : defaultsOf params X.env = ([], []) := by rfl)
    (hbind : ∀ (q : Str) (cl : List (Str × Addr)) (pmm cv ctw : Value), bindArgs (PySem.W.kla_fn "<lambda>" q params body scp cl pmm cv ctw) ⟨[], []⟩ = pure [] := by intro _ _ _ _ _; rfl)
    (hdb : (x == ("__debug__" : Str)) = false := by decide) (hd : (a == ("__debug__" : Str)) = false := by decide) (hcd : (a == ("__classdict__" : Str)) = false := by decide) :
    JE X W (.Call (.Name x p) [.Lambda params body scp lpos] [] pos) (eLam h f) := by
  obtain ⟨c, P, hcode, TB, hmT, hu⟩ := LT.ex
  have bnd := G.binds hb0
  obtain ⟨oc, od, kV, doc, pm, an, cdv, ct, osl, rfl, lk, hcg⟩ := G.ex
  exact pe_imp (pe_lamcall (T := TabsOf.T) (t := fun E => tE X.K (WD E) f) hg hm G.kp lk hcg bnd Sg hNg hva (hG g cdv) TB hcode hmT hu hr.r (lamS_by L) hdf hbind (fun A outer s H E fl c' hr2 => hbody A outer s H E fl c' (.any hr2) (takes_of rfl rfl rfl rfl)) hdb hd hcd) fun _ _ _ q => tG_lam ok q
end
end FL
end
section
namespace FL
open PySem PySem.Spec PyProof.Rows L2
variable [TabsOf]
variable {y : Bool}
theorem hu0 {k : Nat} {A : Around} (hr : RoomG y k A) : A.units < cLine := by have := hu64 hr; omega
theorem hu1 {k : Nat} {A : Around} (hr : RoomG y k A) : A.units + 1 < cLine := by have := hu64 hr; omega
theorem hu3 {k : Nat} {A : Around} (hr : RoomG y k A) : A.units + 3 < cLine := by have := hu64 hr; omega
end FL
end
section
namespace FL
open PySem PySem.Spec PyProof.Rows L2
variable [TabsOf]
section
variable {X : Cx} {W : WX} {a b c e : Expr} {es : List Expr} {pos : Pos}
end
end FL
end
section
namespace FL
open PySem PySem.Spec PyProof.Rows L2
variable [TabsOf]
section
variable {X : Cx} {W : WX} {e : Expr} {es : List Expr} {pos : Pos}
end
end FL
end
section
namespace FL
open PySem PySem.Spec PyProof.Rows L2
variable [TabsOf]
variable {y : Bool}
/-- what an __init__(self, g) keeps that does self.f = g -/
def spKeep (K : PySem.W.Frag) (f : Str) : Sp := fun us H Q _ => ∃ (a C : Addr) (v : V), us = [.ref a, v] ∧ OexC K C ∧ PySem.W.findIn K (.ref C) f = some none ∧ H a = some (exo a C none) ∧
  ∀ d, H d = none → d ≠ a → Q .non (upd (upd H d (exd d [(f, v)])) a (exo a C (some d)))
theorem keep_fn {P : Program} {w : World} {K : PySem.W.Frag} {mg : Str → Option Value} {base : Heap} {x : Str} {st : Stmt} {fI : Addr} {fd : FuncData} {f g : Str} {p1 p2 p3 p4 : Pos} (F : Fun K "__init__" x st fI fd) (Sc : FnScope ["self", g] ["self", g] (defScope st))
    (body : defBody st = [.Assign [.Attribute (.Name "self" p1) f p2] (.Name g p3) p4]) (hg : (g == ("__debug__" : Str)) = false) (hc : (g == ("__classdict__" : Str)) = false) (hv : Vis (defScope st) "self") (hw : Vis (defScope st) g)
    (hs : ∀ env : Env, swapsWith (.Name g p3) (some (.Attribute (.Name "self" p1) f p2)) p4.line env = pure false := by intro _; rfl) : FnOk P w K mg base C8.CX0 1 fI fd ["self", g] (spKeep K f) := by
  obtain ⟨oc, od, kV, doc, pm, an, cdv, ct, osl, rfl, here, code⟩ := F.ex
  refine fn_of (k := 0) here code Sc (fun us H Q E q => ?_) fun A outer s H us Q E _ q => ?_
  · obtain ⟨_, _, _, rfl, _⟩ := q
    rfl
  · obtain ⟨a, C, v, rfl, cls, no, at_, post⟩ := q
    rw [body]
    refine ⟨_, pss_one (ps_ost (f := f) (pe_var (i := 0) rfl hv) (pe_var (i := 1) rfl hw hg hc) (hs _)), v, rfl, .ref a, rfl, a, C, rfl, cls, no, .inl ⟨at_, fun d free apart => post d free apart⟩⟩
/-- an error class of the top whose __init__ keeps what it is given -/
structure ErrI (K : PySem.W.Frag) (mg : Str → Option Value) (x f : Str) (fI : Addr) : Prop where
  g : mg x = some (.ref (TabsOf.cls x))
  o : OexC K (TabsOf.cls x)
  i : PySem.W.findIn K (.ref (TabsOf.cls x)) "__init__" = some (some (.ref fI))
  t : PySem.W.typeIn K (.ref fI) = some (.type "function")
  no : PySem.W.findIn K (.ref (TabsOf.cls x)) f = some none
  xf : XfC K (TabsOf.cls x)
/-- raise x(e) -/
def sRaise1 (x f : Str) (e : EM D) : SM := sThen e fun d ρ S => .err ρ x [(f, d)] S
theorem js_raise1 {X : Cx} {W : WX} {e : Expr} {te : EM D} {x f g : Str} {fI : Addr} {fd : FuncData} {p pos' pos : Pos} {k : Nat} (T : ErrI X.K X.mg x f fI) (F : FnOk X.prog X.w X.K X.mg X.base C8.CX0 k fI fd ["self", g] (spKeep X.K f)) (hb : Binds X.K fd ["self", g] []) (hr : RoomG y (k + 1) X.A)
    (he : JE X W e te) (tk : Takes X W) (hg : Gl X x := by rfl) (hdb : (x == ("__debug__" : Str)) = false := by decide) (hc : X.calm = true := by rfl) (h1 : starEach [e] X.env = (false, eval e X.env) :: starEach [] X.env := by rfl) :
    JS X W (.Raise (some (.Call (.Name x p) [e] [] pos')) none pos) (sRaise1 x f te) := by
  refine ps_imp (ps_raise hc tk (pmk_oex T.o T.i T.t F hr.r hb .nil (fun _ _ _ _ _ _ _ q => q.elim) hg T.g (pa_cons he pa_nil h1) hdb h1)) fun Dn σ H ⟨z, m, S, ρ, hS, hE, h⟩ => ?_
  refine tS_intro hS hE h fun d S1 z1 m1 H1 v e1 x1 s1 E1 r1 h1 => ?_
  show [v].length ≤ 1000 ∧ _
  refine ⟨by show 1 ≤ 1000; decide, fun a free => ⟨a, TabsOf.cls x, v, rfl, T.o, T.no, upd_same, fun q free2 apart => ⟨rfl, q, [(f, v)], upd_same, by rw [upd_ne apart, upd_same], ?_, ?_⟩⟩⟩
  · rw [upd_ne apart] at free2
    exact free2
  · rw [upd_ne apart] at free2
    have same : upd (L2.del (upd (upd (upd H1 a (exo a (TabsOf.cls x) none)) q (exd q [(f, v)])) a (exo a (TabsOf.cls x) (some q))) a) q (.xd [(f, v)]) = upd H1 q (.xd [(f, v)]) := by
      funext b
      by_cases c : b = q
      · rw [c, upd_same, upd_same]
      · rw [upd_ne c, upd_ne c]
        by_cases c2 : b = a
        · rw [c2, L2.del_same, free]
        · rw [L2.del_ne c2, upd_ne c2, upd_ne c, upd_ne c2]
    rw [same]
    have sm : Same H1 (upd H1 q (.xd [(f, v)])) := same_upd free2
    have xx : Ext z1 m1 H1 z1 m1 (upd H1 q (.xd [(f, v)])) := ⟨⟨[], by simp, by simp⟩, ⟨[], by simp, by simp⟩, Same.keep sm, Same.back sm⟩
    exact h1 z1 m1 _ σ xx (s1.same sm) (E1.ext s1 xx) q [(f, v)] upd_same (.cons (r1.ext s1 xx) .nil)
end FL
end
section
namespace FL
open PySem PySem.Spec PyProof.Rows L2
/-- an exception has come down to the frame of X -/
structure Down (X : Cx) (pins : List (Addr × Obj)) (σ : L2.St) (H : Hp) (a : Addr) (cls : Value) (d : Option Addr) (B : Heap) (s0 s : Shared) : Prop where
  was : Inv X pins σ H s0
  base : ∀ b o, s0.heap.get? b = some o → b ∉ frs X.stack → B.get? b = some o
  slots : s0.heap.UpToSlots s.heap
  out : s.os = s0.os
  bare : AllBare s.gens
  fly : HandSPX.FlyingZ B X.stack a (Zc cls d) s.heap
  free : H a = none
section
variable {X : Cx} {pins : List (Addr × Obj)} {σ : L2.St} {H : Hp} {a : Addr} {cls c : Value} {d : Option Addr} {B : Heap} {s0 s : Shared} {W : WX} {D : Ends} {x n : Str} {np pos pos' : Pos} {b₀ : Stmt} {suite body : List Stmt} {rest : List ExceptHandler}
theorem Down.now (w : Down X pins σ H a cls d B s0 s) : Inv X pins σ H s := w.was.landed w.base w.fly.1 w.slots w.out w.bare
theorem Down.up (w : Down X pins σ H a cls d B s0 s) {h : Heap} (fl : HandSPX.FlyingZ B X.stack a (Zc cls d) h) (u : s.heap.UpToSlots h) : Down X pins σ H a cls d B s0 { s with heap := h } :=
  ⟨w.was, w.base, w.slots.trans u, w.out, w.bare, fl, w.free⟩
/-- its object, and the state in which a clause's suite starts -/
theorem Down.inSuite (w : Down X pins σ H a cls d B s0 s) (hs : X.stack = X.env :: X.outer) (hf : X.env.frame = some X.env.locals) : ∃ oe, s.heap.get? a = some oe ∧ Zc cls d oe ∧ (∃ vs, oe.data = .fields vs) ∧ Inv (X.suite a ((a, oe) :: (X.pn ++ pins))) [] σ H s := by
  obtain ⟨oe, vs, here, kind, fields⟩ := w.fly.there
  have apart : a ∉ frs X.stack := fun mem => by
    obtain ⟨_, o, e, no⟩ := w.fly.2.2.1.mem mem
    cases here.symm.trans e
    exact no _ fields
  have own : X.env.locals ∈ frs X.stack := List.mem_filterMap.mpr ⟨X.env, by rw [hs]; exact List.mem_cons_self, hf⟩
  refine ⟨oe, here, kind, ⟨vs, fields⟩, w.now.suite here fields w.free (fun z => apart (z ▸ own)) fun mem => apart ?_⟩
  obtain ⟨e, he, q⟩ := List.mem_filterMap.mp mem
  exact List.mem_filterMap.mpr ⟨e, by rw [hs]; exact List.mem_cons_of_mem _ he, q⟩
/-- the clauses take an exception that W tells of -/
def Deals (X : Cx) (D : Ends) (W : WX) (hds : List ExceptHandler) : Prop := ∀ (pins : List (Addr × Obj)) (σ : L2.St) (H : Hp) (a : Addr) (cls : Value) (d : Option Addr) (B : Heap) (s0 s : Shared), Down X pins σ H a cls d B s0 s → W cls d σ H →
  wpAny (model X.prog X.w) X.A (handleBy (.ref a) X.env hds) (SP X pins D) X.xe s
/-- none is left: it goes on -/
theorem deals_nil (hf : X.env.frame = some X.env.locals) (tk : Takes X W) : Deals X D W [] := fun pins σ H a cls d B s0 s w q => by
  have gone : wpAny (model X.prog X.w) X.A (setFlight (.ref a) X.env.frame) (fun _ t => wpAny (model X.prog X.w) X.A (throw (.ref a) : Sem Flow) (SP X pins D) X.xe t) X.xe s := by
    rw [hf]
    exact HandSPX.setFlight_upZ w.fly fun h held u => wpAny_throw (tk _ _ ⟨a, B, s0, pins, σ, H, cls, d, rfl, w.was, w.base, w.slots.trans u, .inr (.inr held), w.free, w.out, w.bare, q⟩)
  obtain ⟨_, _, _, oe, vs, T, _, _, here, _, fields, tb, _⟩ := id w.fly
  refine wpAny_handleBy_nil ?_
  unfold PySem.passOn
  refine wpAny_bind (wpAny_field here fields tb ?_)
  rw [if_neg (by simp)]
  first
    | exact wpAny_bind (wpAny_pure (wpAny_bind gone))
    | exact wpAny_bind gone
/-- the test of one clause -/
theorem Down.test {nm : Option Str} {b : Bool} {Q : Flow → Shared → Prop} (w : Down X pins σ H a cls d B s0 s) (hs : X.stack = X.env :: X.outer) (hf : X.env.frame = some X.env.locals) (hc : Names X x c) (q : PySem.W.exmOne X.K cls c = some b)
    (yes : b = true → codeAny (model X.prog X.w) (X.A.mark (some (.ref a))) (.handlers (.ref a) [.ExceptHandler none nm (b₀ :: suite) pos'] X.env) (fun r t => match r with
      | .ok f => (match nm with
        | none => Q f t
        | some n => wpAny (model X.prog X.w) X.A (do bindName X.env n .none; unbindBehindTheSuite X.env n pos') (fun _ t2 => Q f t2) X.xe t)
      | .error e => cameBackBy (model X.prog X.w) X.A X.env X.xe e t) s)
    (no : b = false → wpAny (model X.prog X.w) X.A (handleBy (.ref a) X.env rest) Q X.xe s) :
    wpAny (model X.prog X.w) X.A (handleBy (.ref a) X.env (.ExceptHandler (some (.Name x np)) nm (b₀ :: suite) pos' :: rest)) Q X.xe s := by
  obtain ⟨oe, here, kind, _, J⟩ := w.inSuite hs hf
  refine wpAny_handleBy_cons (codeAny_handlers_test ?_) (fun z => nomatch z)
  have ty : PySem.W.Looks (model X.prog X.w) s.heap (typeOf (.ref a)) cls := fun A P E t k p => wpAny_typeOf_ref (k _ _ here) (by rw [kind.1]; exact p)
  have hit := PySem.W.exm_one (M := model X.prog X.w) w.now.kIn ty q
  have named : ∀ {P E : Value → Shared → Prop}, P c s → wpAny (model X.prog X.w) (X.A.mark (some (.ref a))) (eval (.Name x np) X.env) P E s := fun {P E} p => by
    obtain ⟨gl, dbg, top | ⟨notTop, built, un⟩⟩ := hc
    · exact ld_glob (X := X.suite a ((a, oe) :: (X.pn ++ pins))) J gl top p dbg
    · exact ld_blt (X := X.suite a ((a, oe) :: (X.pn ++ pins))) J gl notTop built p un dbg
  refine named (hit.here ?_)
  cases b
  · exact no rfl
  · exact yes rfl
theorem deals_only {ts : Addr → Value → Option Addr → TS} {W' : WX} (hs : X.stack = X.env :: X.outer) (hf : X.env.frame = some X.env.locals) (hc : Names X x c)
    (hsu : ∀ (a : Addr) (oe : Obj) (cls : Value) (d : Option Addr) (pn : List (Addr × Obj)), Zc cls d oe → (∃ vs, oe.data = .fields vs) → PSs (X.suite a ((a, oe) :: pn)) (b₀ :: suite) (ts a cls d)) (r : Deals X D W' rest) :
    Deals X D (wOnly X.K c ts W' D) (.ExceptHandler (some (.Name x np)) none (b₀ :: suite) pos' :: rest) := fun pins σ H a cls d B s0 s w ⟨b, e, yes, no⟩ => by
  refine w.test hs hf hc e (fun z => codeAny_handlers_suite (HandSPX.lands_againZ w.fly fun h fl u => ?_)) fun z => r pins σ H a cls d B s0 s w (no z)
  obtain ⟨oe, _, kind, fields, J⟩ := (w.up fl u).inSuite hs hf
  refine wpAny_mono ((hsu a oe cls d (X.pn ++ pins) kind fields).run [] _ σ H _ J (yes z a w.free)) (fun f t q => ?_) fun _ _ q => q.elim
  match f, q with
  | .next, ⟨σ1, H1, J1, q⟩ => exact ⟨_, _, J1.unsuite w.was.ok, q⟩
  | .brk, ⟨σ1, H1, J1, q⟩ => exact ⟨_, _, J1.unsuite w.was.ok, q⟩
  | .cont, ⟨σ1, H1, J1, q⟩ => exact ⟨_, _, J1.unsuite w.was.ok, q⟩
  | .ret u, ⟨v, σ1, H1, J1, rv, q⟩ => exact ⟨_, _, _, J1.unsuite w.was.ok, rv, q⟩
theorem deals_as {i : Nat} {ts : Addr → Value → Option Addr → TS} {W' : WX} (hs : X.stack = X.env :: X.outer) (hf : X.env.frame = some X.env.locals) (hN : X.N.Nodup) (hi : X.N[i]? = some n) (hln : X.env.kindOf n = some .local) (hc : Names X x c)
    (hsu : ∀ (a : Addr) (oe : Obj) (cls : Value) (d : Option Addr) (pn : List (Addr × Obj)), Zc cls d oe → (∃ vs, oe.data = .fields vs) → PSs (X.suite a ((a, oe) :: pn)) (b₀ :: suite) (ts a cls d)) (r : Deals X D W' rest) :
    Deals X D (wAs X.K c i ts W' D) (.ExceptHandler (some (.Name x np)) (some n) (b₀ :: suite) pos' :: rest) := fun pins σ H a cls d B s0 s w ⟨b, e, yes, no⟩ => by
  refine w.test hs hf hc e (fun z => codeAny_handlers_suite_as (HandSPX.lands_againZ w.fly fun h fl u => ?_)) fun z => r pins σ H a cls d B s0 s w (no z)
  obtain ⟨oe, _, kind, fields, J⟩ := (w.up fl u).inSuite hs hf
  refine store_ok (X := X.suite a ((a, oe) :: (X.pn ++ pins))) (v := .ref a) J hN hi (.inl hln) rfl (fun t J1 => ?_) (.inr hln)
  refine wpAny_mono ((hsu a oe cls d (X.pn ++ pins) kind fields).run [] t _ H _ J1 (yes z a w.free)) (fun f t q => ?_) fun _ _ q => q.elim
  match f, q with
  | .next, ⟨σ1, H1, J2, q⟩ => exact gone_ok (J2.unsuite w.was.ok) hN hi hln fun _ J3 => ⟨_, _, J3, q⟩
  | .brk, ⟨σ1, H1, J2, q⟩ => exact gone_ok (J2.unsuite w.was.ok) hN hi hln fun _ J3 => ⟨_, _, J3, q⟩
  | .cont, ⟨σ1, H1, J2, q⟩ => exact gone_ok (J2.unsuite w.was.ok) hN hi hln fun _ J3 => ⟨_, _, J3, q⟩
  | .ret u, ⟨v, σ1, H1, J2, rv, q⟩ => exact gone_ok (J2.unsuite w.was.ok) hN hi hln fun _ J3 => ⟨_, _, _, J3, rv, q⟩
/-- the try itself -/
theorem ps_try_deals {h₀ : ExceptHandler} {hds : List ExceptHandler} {tb : WX → TS} {W : Ends → WX} (hs : X.stack = X.env :: X.outer) (hf : X.env.frame = some X.env.locals)
    (hb : ∀ (V : WX) (pn : List (Addr × Obj)) (xe : Value → Shared → Prop), Takes (X.tr pn xe) V → PassesOwn (model X.prog X.w) X.A X.env xe → PSs (X.tr pn xe) body (tb V))
    (hd : ∀ D, Deals X D (W D) (h₀ :: hds)) : PS X (.Try body (h₀ :: hds) [] [] pos) (fun D σ H => tb (W D) D σ H) := by
  constructor
  intro pins s σ H D I h
  have frames : X.A.frames = some (X.env :: X.outer) := I.ok.frames.trans (congrArg some hs)
  have caught : Takes (X.tr (X.pn ++ pins) fun e t => wpAny (model X.prog X.w) X.A (noteFrame e X.env) (fun _ t2 => wpAny (model X.prog X.w) X.A (setFlight e none) (fun _ t3 =>
      wpAny (model X.prog X.w) X.A (handleBy e X.env (h₀ :: hds)) (SP X pins D) X.xe t3) X.xe t2) X.xe t) (W D) := by
    rintro _ t ⟨a, B, s0, pins', σ1, H1, cls, d, rfl, J, base, slots, sky, free, out, bare, q⟩
    have J0 : Inv X pins σ1 H1 s0 := J.ofTry I.ok
    refine Sky.land Zc.steady frames hf (show Sky B (X.env :: X.outer) a (Zc cls d) X.env.locals t.heap by rw [← hs]; exact sky) fun h fl u => ?_
    exact hd D pins σ1 H1 a cls d B s0 _ ⟨J0, base, slots.trans u, out, bare, by rw [hs]; exact fl, free⟩ q
  refine wpAny_Try_except (wpAny_mono ((hb (W D) _ _ caught PassesOwn.looking).run [] s σ H D (I.toTry _) h) (fun f t q => ?_) fun _ _ q => q)
  match f, q with
  | .next, ⟨σ1, H1, J1, q⟩ => exact wpAny_execs_nil ⟨σ1, H1, J1.ofTry I.ok, q⟩
  | .brk, ⟨σ1, H1, J1, q⟩ => exact ⟨σ1, H1, J1.ofTry I.ok, q⟩
  | .cont, ⟨σ1, H1, J1, q⟩ => exact ⟨σ1, H1, J1.ofTry I.ok, q⟩
  | .ret u, ⟨v, σ1, H1, J1, rv, q⟩ => exact ⟨v, σ1, H1, J1.ofTry I.ok, rv, q⟩
end
end FL
end
section
namespace FL
open PySem PySem.Spec PyProof.Rows L2 LamX
variable [TabsOf]
variable {y : Bool}
def reprIP : List Da → Option Da
  | [.int i] => if i.natAbs.log2 < 1920 then some (.str (toString i)) else none
  | _ => none
def hTold (CI CN f : Str) : ER D → ER D
  | .ok (.v p) S => .ok (.v (.lst [.str "told", p])) S
  | .err C [(g, .v (.int i))] S => if C = CI ∧ g = f ∧ i.natAbs.log2 < 1920 then .ok (.v (.lst [.str "index", .str (toString i)])) S else .bad
  | .err C [] S => if C = CN then .ok (.v (.lst [.str "none", .str ""])) S else .bad
  | _ => .bad
/-- what becomes of an error of what was handed -/
def ETold (K : PySem.W.Frag) (CI CN : Addr) (f : Str) (Q : VK) : XK := fun cls d H => ∃ b, PySem.W.exmOne K cls (.ref CI) = some b ∧
  (b = true → cls = .ref CI ∧ ∃ (dd : Addr) (fs : List (Str × V)) (i : Int), d = some dd ∧ H dd = some (.xd fs) ∧ fs.lookup f = some (.int i) ∧ i.natAbs.log2 < 1920 ∧ ∀ p, H p = none → Q (.ref p) (upd H p (.lst [.str "index", .str (toString i)]))) ∧
  (b = false → ∃ b2, PySem.W.exmOne K cls (.ref CN) = some b2 ∧ (b2 = true → ∀ p, H p = none → Q (.ref p) (upd H p (.lst [.str "none", .str ""]))) ∧ (b2 = false → False))
def TTold (K : PySem.W.Frag) (CI CN : Addr) (f : Str) : (XK → Hp → VK → Prop) → Hp → VK → Prop := fun tl H Q => tl (ETold K CI CN f Q) H fun v H' => [V.str "told", v].length ≤ sizeLine ∧ ∀ p, H' p = none → Q (.ref p) (upd H' p (.lst [.str "told", v]))
theorem lamOk_told {K : PySem.W.Frag} {CI CN f : Str} (x1 : PySem.W.exmOne K (.ref (TabsOf.cls CI)) (.ref (TabsOf.cls CI)) = some true) (x2 : PySem.W.exmOne K (.ref (TabsOf.cls CN)) (.ref (TabsOf.cls CI)) = some false)
    (x3 : PySem.W.exmOne K (.ref (TabsOf.cls CN)) (.ref (TabsOf.cls CN)) = some true) : LamOk K (TTold K (TabsOf.cls CI) (TabsOf.cls CN) f) (hTold CI CN f) := by
  intro W z m S ρ H σ g Q hS hE post
  refine ⟨z, m, S, ρ, hS, hE, ?_⟩
  cases c : g ρ S with
  | bad => rw [c] at post; exact post.elim
  | ok d S1 =>
    rw [c] at post
    cases d with
    | o n => exact post.elim
    | v p =>
      intro z1 m1 H1 v x s r
      refine ⟨by show 2 ≤ sizeLine; rw [sizeLine_eq]; decide, fun q free => ?_⟩
      have told : PostE K W (fun z m H => RD K z m H) z m H σ (.ok (.v (.lst [.str "told", p])) S1) Q := post
      have post1 := PostE.ext told x
      exact post1.pure s (same_upd free) (.lst upd_same (fun w => s.live q w (.of free)) (.cons (.str _) (.cons (RP.same (same_upd free) r) .nil)))
  | err C fs S1 =>
    rw [c] at post
    intro z1 m1 H1 x s
    cases fs with
    | nil =>
      have told : PostE K W (fun z m H => RD K z m H) z m H σ (if C = CN then .ok (.v (.lst [.str "none", .str ""])) S1 else .bad) Q := post
      by_cases e : C = CN
      · rw [if_pos e] at told
        subst e
        have post1 := PostE.ext told x
        exact ⟨false, x2, (fun w => nomatch w), fun _ => ⟨true, x3, (fun _ q free => post1.pure s (same_upd free) (.lst upd_same (fun w => s.live q w (.of free)) (.cons (.str _) (.cons (.str _) .nil)))), (fun w => nomatch w)⟩⟩
      · rw [if_neg e] at told
        exact told.elim
    | cons a r =>
      obtain ⟨g1, d1⟩ := a
      cases r with
      | cons _ _ => exact False.elim (by cases d1 with | o n => exact post | v p => cases p <;> exact post)
      | nil =>
        cases d1 with
        | o n => exact False.elim post
        | v p =>
          cases p with
          | int i =>
            have told : PostE K W (fun z m H => RD K z m H) z m H σ (if C = CI ∧ g1 = f ∧ i.natAbs.log2 < 1920 then .ok (.v (.lst [.str "index", .str (toString i)])) S1 else .bad) Q := post
            by_cases e : C = CI ∧ g1 = f ∧ i.natAbs.log2 < 1920
            · rw [if_pos e] at told
              obtain ⟨e1, e2, few⟩ := e
              subst e1 e2
              have post1 := PostE.ext told x
              intro d vfs at_ rf
              refine ⟨true, x1, (fun _ => ⟨rfl, d, vfs, i, rfl, at_, ?_, few, fun q free => post1.pure s (same_upd free) (.lst upd_same (fun w => s.live q w (.of free)) (.cons (.str _) (.cons (.str _) .nil)))⟩), (fun w => nomatch w)⟩
              cases rf with | cons a b =>
              cases b
              cases a
              simp [List.lookup]
            · rw [if_neg e] at told
              exact told.elim
          | _ => exact False.elim post
theorem gives_told {X : Cx} {Ng : List Str} {x a q CI CN f : Str} {sg : Scope} {g : Addr} {cdg : Value} {j1 j2 j3 j4 : Nat} {p1 p2 p3 p4 p5 p6 p7 p8 p9 p10 p11 p12 p13 p14 p15 p16 p17 p18 p19 p20 p21 : Pos} (nd : Ng.Nodup) (hi : Ng[1]? = some ("e" : Str)) (ln : Ng.length = 2) (hln : sg.names.lookup ("e" : Str) = some .local)
    (g1 : sg.names.lookup CI = some .globalImplicit) (m1 : X.mg CI = some (.ref (TabsOf.cls CI))) (d1 : (CI == ("__debug__" : Str)) = false) (g2 : sg.names.lookup CN = some .globalImplicit) (m2 : X.mg CN = some (.ref (TabsOf.cls CN))) (d2 : (CN == ("__debug__" : Str)) = false)
    (g3 : sg.names.lookup ("repr" : Str) = some .globalImplicit) (m3 : X.mg "repr" = none) (xf : XfC X.K (TabsOf.cls CI)) (no : PySem.W.findIn X.K (.ref (TabsOf.cls CI)) f = some none) (h0 : ∀ r : Addr, (L2.start Ng [V.ref r])[0]? = some (some (V.ref r))) :
    GivesTo X Ng x sg g cdg [.Try [.Return (some (.List [.Constant (.str "told") j1 p1, .Call (.Name a p2) [] [] p3] p4)) p5]
      [.ExceptHandler (some (.Name CI p6)) (some "e") [.Return (some (.List [.Constant (.str "index") j2 p7, .Call (.Name "repr" p8) [.Attribute (.Name "e" p9) f p10] [] p11] p12)) p13] p14,
       .ExceptHandler (some (.Name CN p15)) none [.Return (some (.List [.Constant (.str "none") j3 p16, .Constant (.str "") j4 p17] p18)) p19] p20] [] [] p21] a q (TTold X.K (TabsOf.cls CI) (TabsOf.cls CN) f) := by
  intro fn c' s H Q tl act hc h
  let Y : Cx := (cxOf C8.CX0 X.prog X.w X.K X.mg X.base Ng x sg g cdg X.A X.stack s H C8.E0).nox
  have k1 : Gl Y CI := g1
  have k2 : Gl Y CN := g2
  have k3 : ∀ (a : Addr) (pn : List (Addr × Obj)), Gl (Y.suite a pn) "repr" := fun _ _ => g3
  let tI : Addr → Value → Option Addr → TS := fun a cls d => tRet (tLst (tCons (tC (.str "index")) (tCons (tCB (fun xs H Q => ∃ i, xs = [.int i] ∧ i.natAbs.log2 < 1920 ∧ Q (.str (toString i)) H) (tCons (tXf a cls d (TabsOf.cls CI) f (tVar 1)) tNil)) tNil)))
  let tN : Addr → Value → Option Addr → TS := fun _ _ _ => tRet (tLst (tCons (tC (.str "none")) (tCons (tC (.str "")) tNil)))
  let inner : WX → TS := fun W D σ H => (σ[0]? = some (some (.ref fn)) ∧ H c' = some (CodeO c' q)) ∧ ∃ E : XK, tl E H (fun v H1 => [V.str "told", v].length ≤ sizeLine ∧ ∀ p, H1 p = none → D.rt (.ref p) (upd H1 p (.lst [.str "told", v]))) ∧ ∀ cls d σ' H', E cls d H' → W cls d σ' H'
  let wish : Ends → WX := fun D cls d σ H => σ.length = Y.N.length → wAs Y.K (.ref (TabsOf.cls CI)) 1 tI (wOnly Y.K (.ref (TabsOf.cls CN)) tN (fun _ _ _ _ => False) D) D cls d σ H
  refine ⟨_, pss_one (ps_try_deals (X := Y) (tb := inner) (W := wish) rfl rfl (fun V pn xe tk _ => ?body) fun D => ?clauses), ⟨h0 fn, hc⟩, ETold X.K (TabsOf.cls CI) (TabsOf.cls CN) f Q, h, ?err⟩
  case body =>
    constructor
    rintro pins t σ H' D I ⟨⟨e1, e2⟩, E, e3, hW⟩
    exact (pss_one (ps_ret (pe_lst (pa_cons pe_str (pa_cons (act V pn xe E p2 p3 tk hW) pa_nil))))).run pins t σ H' D I ⟨e1, e2, e3⟩
  case clauses =>
    intro pins σ H1 b cls d B s0 t w want
    refine deals_as (X := Y) (ts := tI) rfl rfl nd hi hln ⟨k1, d1, .inl m1⟩ (fun b oe cls d pn z fl => ?_) (deals_only (X := Y) (ts := tN) rfl rfl ⟨k2, d2, .inl m2⟩ (fun b oe cls d pn _ _ => ?_) (deals_nil rfl L2.takes0)) pins σ H1 b cls d B s0 t w (want w.was.len)
    · exact pss_one (ps_ret (pe_lst (pa_cons pe_str (pa_cons (pe_callB SkE.call_repr_int (k3 _ _) m3 PyProof.Rows.Boot.«repr» (pa_cons (pe_xf xf no z fl (pe_var hi (.inl hln))) pa_nil)) pa_nil))))
    · exact pss_one (ps_ret (pe_lst (pa_cons pe_str (pa_cons pe_str pa_nil))))
  case err =>
    rintro cls d σ' H' ⟨b, e1, yes, no_⟩ len
    refine ⟨b, e1, fun hb r free => ?_, fun hb => ?_⟩
    · obtain ⟨ec, dd, fs, i, ed, at_, look, few, q⟩ := yes hb
      have in_ : 1 < σ'.length := by rw [len]; show 1 < Ng.length; omega
      exact ⟨.ref r, List.getElem?_set_self in_, rfl, ec, dd, fs, .int i, ed, at_, look, i, rfl, few, by show 2 ≤ sizeLine; rw [sizeLine_eq]; decide, q⟩
    · obtain ⟨b2, e2, y2, n2⟩ := no_ hb
      exact ⟨b2, e2, fun hb2 r _ => ⟨by show 2 ≤ sizeLine; rw [sizeLine_eq]; decide, y2 hb2⟩, fun hb2 => n2 hb2⟩
end FL
end
section
namespace FL
open PySem PySem.Spec PyProof.Rows L2
variable [TabsOf]
variable {y : Bool}
/-- the j-th statement of a class -/
def inCls : Stmt → Nat → Stmt
  | .ClassDef _ _ _ body _ _ _ _ _ _ _, j => body.getD j (.Pass ⟨0, 0, 0, 0⟩)
  | s, _ => s
theorem js_raiseI {X : Cx} {W : WX} {e : Expr} {te : EM D} {x f g q : Str} {st : Stmt} {p pos' pos p1 p2 p3 p4 : Pos} (E : ∃ (fI : Addr) (fd : FuncData), ErrI X.K X.mg x f fI ∧ Fun X.K "__init__" q st fI fd) (Sc : FnScope ["self", g] ["self", g] (defScope st))
    (body : defBody st = [.Assign [.Attribute (.Name "self" p1) f p2] (.Name g p3) p4])
    (hb : ∀ (kV doc pm : Value) (an : Option Addr) (cdv ct : Value) (us : List Value), us.length = (["self", g] : List Str).length → bindArgs (PySem.W.fnOf "__init__" q (defArgs st) (defBody st) (defScope st) .none kV doc pm an cdv ct) ⟨us, []⟩ = pure ((["self", g] : List Str).zip us))
    (he : JE X W e te) (hr : RoomG false 2 X.A) (tk : Takes X W) (hn1 : (g == ("__debug__" : Str)) = false := by decide) (hn2 : (g == ("__classdict__" : Str)) = false := by decide) (hv : Vis (defScope st) "self" := by exact Or.inl rfl) (hw : Vis (defScope st) g := by exact Or.inl rfl)
    (hg : Gl X x := by rfl) (hdb : (x == ("__debug__" : Str)) = false := by decide) (hc : X.calm = true := by rfl) (h1 : starEach [e] X.env = (false, eval e X.env) :: starEach [] X.env := by rfl)
    (hs : ∀ env : Env, swapsWith (.Name g p3) (some (.Attribute (.Name "self" p1) f p2)) p4.line env = pure false := by intro _; rfl) : JS X W (.Raise (some (.Call (.Name x p) [e] [] pos')) none pos) (sRaise1 x f te) := by
  obtain ⟨fI, fd, T, F⟩ := E
  obtain ⟨oc, od, kV, doc, pm, an, cdv, ct, osl, rfl, here, code⟩ := id F.ex
  exact js_raise1 (k := 1) T (keep_fn F Sc body hn1 hn2 hv hw hs) (Binds.all fun us hl => hb _ _ _ _ _ _ us hl) hr he tk hg hdb hc h1
theorem prim_reprI {K : PySem.W.Frag} : PrimC K reprIP (fun xs H Q => ∃ i, xs = [.int i] ∧ i.natAbs.log2 < 1920 ∧ Q (.str (toString i)) H) := by
  intro ps r' z H xs Q e a l k
  unfold reprIP at e
  split at e
  · split at e
    · rename_i few
      cases e
      obtain ⟨x, rfl, h⟩ := a.one
      cases h.int
      exact ⟨_, rfl, few, k H _ (.refl H) (.str _)⟩
    · cases e
  · cases e
end FL
end
section
namespace FL
open PySem PySem.Spec PyProof.Rows L2
abbrev noTab : Obj := { cls := .none, data := .fields #[] }
abbrev scrO (us : List Value) : Obj := { cls := .type "list", data := .seq us.toArray }
/-- what is known when the law is called: cs, code objects and their tables; a, the script -/
structure AtCall (K : PySem.W.Frag) (mg mb : Str → Option Value) (cs : List (Addr × Addr)) (a : Addr) (us : List Value) (js : List Int) (t : Shared) : Prop where
  kin : K.In t.heap
  glo : t.heap.Ns mainGlobals mg
  bui : t.heap.Ns builtinsNs mb
  boot : ∀ x : Str, x ≠ "__name__" → mb x = bootBuiltins x
  lim : t.heap.NoLimit
  gen : t.gens = #[]
  empty : ∀ p ∈ cs, t.heap.get? p.2 = some noTab
  free : ∀ p ∈ cs, K.lookup p.2 = none
  head : ∀ p ∈ cs, PySem.W.codeHdIn K p.1 p.2 = true
  bm : ∃ (b : Addr) (ob : Obj), mg "__builtins__" = some (.ref b) ∧ b ≠ builtinsNs ∧ t.heap.get? b = some ob ∧ ob.cls = .type "module" ∧ ob.dict = some builtinsNs ∧ ob.data = .plain
  scr : t.heap.get? a = some (scrO us)
  areI : IntsAre us js
  few : js.length ≤ sizeLine
open Classical in
/-- what is followed from the call on: the tables, and the script if it is no object of the top's -/
noncomputable def H0 (K : PySem.W.Frag) (cs : List (Addr × Addr)) (a : Addr) (us : List Value) (js : List Int) : Hp := fun b =>
  if ∃ p ∈ cs, p.2 = b then some (.tbl #[]) else if b = a ∧ K.lookup a = none then some (.frz (scrO us) (.lst (js.map V.int))) else none
section
variable {P : Program} {w : World} {K : PySem.W.Frag} {mg mb : Str → Option Value} {cs : List (Addr × Addr)} {a : Addr} {us : List Value} {js : List Int} {t : Shared}
theorem H0_tab {p : Addr × Addr} (h : p ∈ cs) : H0 K cs a us js p.2 = some (.tbl #[]) := if_pos ⟨p, h, rfl⟩
theorem AtCall.apart (A : AtCall K mg mb cs a us js t) : ¬ ∃ p ∈ cs, p.2 = a := fun ⟨p, hp, e⟩ => by
  have := A.empty p hp
  rw [e, A.scr] at this
  cases this
theorem H0_cases {b : Addr} {u : HO} (e : H0 K cs a us js b = some u) : ((∃ p ∈ cs, p.2 = b) ∧ u = .tbl #[]) ∨ (b = a ∧ K.lookup a = none ∧ u = .frz (scrO us) (.lst (js.map V.int))) := by
  unfold H0 at e
  split at e
  · rename_i h; cases e; exact .inl ⟨h, rfl⟩
  · split at e
    · rename_i h; cases e; exact .inr ⟨h.1, h.2, rfl⟩
    · cases e
theorem AtCall.unseen (A : AtCall K mg mb cs a us js t) {b : Addr} {o : Obj} (e : t.heap.get? b = some o) (n1 : o ≠ noTab) (n2 : o ≠ scrO us) : H0 K cs a us js b = none := by
  cases c : H0 K cs a us js b with
  | none => rfl
  | some u =>
    rcases H0_cases c with ⟨⟨p, hp, rfl⟩, _⟩ | ⟨rfl, _, _⟩
    · rw [A.empty p hp] at e; cases e; exact absurd rfl n1
    · rw [A.scr] at e; cases e; exact absurd rfl n2
theorem AtCall.seq (A : AtCall K mg mb cs a us js t) : FzL K (H0 K cs a us js) a (js.map V.int) := by
  have ln : us.length = js.length := A.areI.length.symm ▸ rfl
  cases c : K.lookup a with
  | none =>
    refine .inl ⟨scrO us, ?_⟩
    unfold H0
    rw [if_neg A.apart, if_pos ⟨rfl, c⟩]
  | some o =>
    have e := A.kin a o c
    rw [A.scr] at e
    cases e
    exact .inr ⟨_, us.toArray, _, c, rfl, rfl, rfl, by rw [List.size_toArray, ln]; exact A.few, by simpa using vals_ints A.areI⟩
theorem AtCall.hok (A : AtCall K mg mb cs a us js t) : HOk P w (H0 K cs a us js) t.heap := fun b u e => by
  rcases H0_cases e with ⟨⟨p, hp, rfl⟩, rfl⟩ | ⟨rfl, _, rfl⟩
  · exact A.empty p hp
  · exact ⟨A.scr, by rw [List.length_map]; exact A.few, us, _, vals_ints A.areI, A.scr⟩
theorem AtCall.base (A : AtCall K mg mb cs a us js t) : K.In (hidT t.heap (H0 K cs a us js)) := fun b o e => hidT_get (A.kin b o e) (by
  cases c : H0 K cs a us js b with
  | none => rfl
  | some u =>
    rcases H0_cases c with ⟨⟨p, hp, rfl⟩, _⟩ | ⟨rfl, no, _⟩
    · rw [A.free p hp] at e; cases e
    · rw [no] at e; cases e)
theorem AtCall.names (A : AtCall K mg mb cs a us js t) {b : Addr} {m : Str → Option Value} (n : t.heap.Ns b m) : (hidT t.heap (H0 K cs a us js)).Ns b m := by
  obtain ⟨o, es, ep, e, d, r⟩ := n
  refine ⟨o, es, ep, hidT_get e (A.unseen e (fun z => ?_) fun z => ?_), d, r⟩ <;> (rw [z] at d; cases d)
theorem AtCall.mod (A : AtCall K mg mb cs a us js t) : Mod K mg (hidT t.heap (H0 K cs a us js)) :=
  ⟨A.base, A.names A.glo, ⟨mb, A.names A.bui, A.boot⟩, A.lim.elim fun mc h => ⟨mc, A.names h.1, h.2⟩⟩
theorem AtCall.tabB (A : AtCall K mg mb cs a us js t) : ∀ p ∈ cs, LamX.TabB (hidT t.heap (H0 K cs a us js)) mg p.1 p.2 := fun p hp => by
  have glo : ∀ b ob, t.heap.get? b = some ob → ob.data = .plain → b ≠ mainGlobals := fun b ob e d q => by
    obtain ⟨o, es, ep, e', d', _⟩ := A.glo
    rw [← q, e] at e'; cases e'
    rw [d] at d'; cases d'
  refine ⟨PySem.W.codeHd_of_K A.base (A.head p hp), ?_, fun q => ?_⟩
  · obtain ⟨b, ob, h1, h2, h3, h4, h5, h6⟩ := A.bm
    refine ⟨b, ob, h1, h2, glo b ob h3 h6, fun q => ?_, hidT_get h3 (A.unseen h3 (fun z => ?_) fun z => ?_), h4, h5, h6⟩
    · rw [q, A.empty p hp] at h3; cases h3; cases h6
    · rw [z] at h6; cases h6
    · rw [z] at h6; cases h6
  · obtain ⟨o, es, ep, e, d, _⟩ := A.glo
    rw [q, A.empty p hp] at e; cases e; cases d
/-- the end state is as a law's end must be -/
theorem AtCall.old (A : AtCall K mg mb cs a us js t) {t' : Shared} {H' : Hp} (ok' : HOk P w H' t'.heap) (keep : ∀ b o, t.heap.get? b = some o → H0 K cs a us js b = none → t'.heap.get? b = some o)
    (frz : ∀ b o u, H0 K cs a us js b = some (.frz o u) → H' b = some (.frz o u)) (tbl : ∀ b, H0 K cs a us js b = some (.tbl #[]) → ∃ more : Array Value, H' b = some (.tbl (#[] ++ more))) : OldK t.heap t'.heap := by
  have script : t'.heap.get? a = some (scrO us) := by
    cases c : H0 K cs a us js a with
    | none => exact keep a _ A.scr c
    | some u =>
      rcases H0_cases c with ⟨h, _⟩ | ⟨_, _, rfl⟩
      · exact absurd h A.apart
      · exact (ok' a _ (frz _ _ _ c)).1
  have grown : ∀ p ∈ cs, ∃ more : Array Value, t'.heap.get? p.2 = some { cls := .none, data := .fields more } := fun p hp => by
    obtain ⟨more, e⟩ := tbl p.2 (H0_tab hp)
    exact ⟨_, ok' _ _ e⟩
  have else_ : ∀ b o, (¬ ∃ p ∈ cs, p.2 = b) → t.heap.get? b = some o → t'.heap.get? b = some o := fun b o nt e => by
    cases c : H0 K cs a us js b with
    | none => exact keep b o e c
    | some u =>
      rcases H0_cases c with ⟨h, _⟩ | ⟨rfl, _, _⟩
      · exact absurd h nt
      · rw [A.scr] at e; cases e; exact script
  constructor
  · intro b o e
    by_cases h : ∃ p ∈ cs, p.2 = b
    · obtain ⟨p, hp, rfl⟩ := h
      obtain ⟨more, g⟩ := grown p hp
      rw [A.empty p hp] at e
      cases e
      exact .inr (.inl ⟨((PySem.W.codeHd_of_K A.kin (A.head p hp)).tab (A.empty p hp)).isCodeTable, rfl, #[], more, rfl, by rw [Array.empty_append]; exact g⟩)
    · exact .inl (else_ b o h e)
  · intro b o e
    by_cases h : ∃ p ∈ cs, p.2 = b
    · obtain ⟨p, hp, rfl⟩ := h
      obtain ⟨more, g⟩ := grown p hp
      exact ⟨_, g⟩
    · exact ⟨o, else_ b o h e⟩
end
/-- the goal that the head leaves, with tables -/
theorem walkT {l : PySem.W.OpenLaw} {n k : Nat} {q : Program} {loose : List Str} {XP : (Str → Option Value) → Heap → Prop} {YP : World → Heap → Prop} {d : DefRec} {K : Params → PySem.W.Frag} {x : Str} {Fl : Fn} (cs : List (Addr × Addr)) (T : List (Addr × Str)) (cls : Str → Addr)
    (hn : l.most = some n) (hn2 : n ≤ sizeLine) (hdf : d.params.defaults = []) (room : Room k callerA) (hT : ∀ p ∈ T, ∃ c ∈ cs, c.2 = p.1) (hY : ∀ (w : World) (h : Heap), YP w h → (K w.params).In h ∧ ∀ p ∈ cs, h.get? p.2 = some noTab)
    (hcs : ∀ (w : World) (p : Addr × Addr), p ∈ cs → (K w.params).lookup p.2 = none ∧ PySem.W.codeHdIn (K w.params) p.1 p.2 = true)
    (F : ∀ (w : World) (mg : Str → Option Value) (h : Heap), (K w.params).In h → h.Ns mainGlobals mg → XP mg h → ∀ base : Heap, (K w.params).In base → base.Ns mainGlobals mg → (∀ p ∈ cs, LamX.TabB base mg p.1 p.2) → @DefOk ⟨T, l.prog, w, cls⟩ true l.prog w (K w.params) mg base d.name k [x] Fl)
    (told : ∀ (_ : World) (js : List Int), ∃ S, Fl [.v (.flst (js.map Da.int))] [] = .ok (.v (.bl true)) S) : PySem.W.WalkO q loose XP YP l.row.toRowW d [] (fun f vs => PySem.call f vs) := by
  refine Att.attach_call hn hdf fun w _ t mg mb fa _ _ _ _ a us js G Y _ _ _ hmg hobj hints hlen hg => ?_
  obtain ⟨inK, none_⟩ := hY w _ Y
  have A : AtCall (K w.params) mg mb cs a us js t := ⟨inK, G.T.g, G.T.b, G.T.builtins, G.T.nolimit, hg, none_, fun p hp => (hcs w p hp).1, fun p hp => (hcs w p hp).2, G.T.bmain, hobj, hints, Nat.le_trans hlen hn2⟩
  letI : TabsOf := ⟨T, l.prog, w, cls⟩
  obtain ⟨f, fd, e1, _, binds, Fg, _⟩ := (F w mg _ inK G.T.g G.X _ A.base (A.names A.glo) A.tabB).ex
  rw [hmg] at e1
  cases e1
  have bound : BindsTo t fd ⟨[.ref a], []⟩ [(x, .ref a)] := by
    have := binds t [.ref a] inK rfl
    rwa [List.append_nil] at this
  have env : Env0 l.prog w (K w.params) mg (hidT t.heap (H0 (K w.params) cs a us js)) callerA [] t (H0 (K w.params) cs a us js) :=
    ⟨rfl, A.mod, fun _ _ e => of_hidT e, Nat.le_of_eq (hidT_size _ _), trivial, fun _ hb => (List.not_mem_nil hb).elim, A.hok, .of_eq hg⟩
  have promise : spF (K w.params) 1 Fl [.ref a] (H0 (K w.params) cs a us js) (fun v _ => v = .bl true) fun _ _ _ => False := by
    obtain ⟨S, e⟩ := told w js
    refine ⟨[], [], [], [.v (.flst (js.map Da.int))], ⟨rfl, List.nodup_nil, fun _ h => (List.not_mem_nil h).elim, fun _ h => (List.not_mem_nil h).elim, fun _ _ _ h _ => by simp at h, fun p hp => ?_⟩, .cons (RP.flst A.seq (RPs.of_ints js)) .nil, rfl, ?_⟩
    · obtain ⟨c, hc, e⟩ := hT p hp
      exact LamX.TabS.nil (by rw [← e]; exact H0_tab hc)
    · unfold PostF
      rw [e]
      intro H' v _ _ r
      cases r
      rfl
  refine codeAny_mono (Fg.go callerA [] t _ ⟨[.ref a], []⟩ [.ref a] [.ref a] (fun v _ => v = .bl true) (fun _ _ _ => False) ⟨room, fun _ => rfl⟩ env bound (.cons rfl .nil) promise) fun r t' h => ?_
  match r, h with
  | .error _, h =>
    obtain ⟨_, _, _, _, _, _, _, _, _, _, _, _, z⟩ := h
    exact z.elim
  | .ok .next, h => exact h.elim
  | .ok .brk, h => exact h.elim
  | .ok .cont, h => exact h.elim
  | .ok (.ret u), h =>
    obtain ⟨v, H', os, bare, un, ok', rv, q⟩ := h
    have q' : v = .bl true := q
    subst q'
    obtain rfl : u = Value.bool true := rv
    exact ⟨rfl, A.old ok' (fun b o e c => un.keep b o e c (fun z => (List.not_mem_nil z).elim) (by simp)) (fun b o u e => un.frzs b o u e) (fun b e => un.tbls b #[] e), os, bare⟩
/-- the making of lambdas in a def of the top -/
theorem lamT_of [TabsOf] {K : PySem.W.Frag} {h base : Heap} {mg : Str → Option Value} {x q : Str} {st : Stmt} {f c P : Addr} {od an : Option Addr} {sl : Array (Option Value)} {oc kV dc pm ct : Value} (X : K.In h) (G : h.Ns mainGlobals mg) (a : PySem.W.nsIn K mainGlobals x = some (some (.ref f)))
    (l : K.lookup f = some ⟨oc, od, .func (PySem.W.fnOf x x (defArgs st) (defBody st) (defScope st) .none kV dc pm an (.ref c) ct), sl⟩) (TB : LamX.TabB base mg c P) (hT : (P, q) ∈ TabsOf.T) (one : ∀ p ∈ TabsOf.T, p.1 = P → p.2 = q) :
    ∀ g cdv, mg x = some (.ref g) → CodeAt K x x st g cdv → LamT K mg base cdv q := fun g cdv hm ⟨_, _, _, _, _, _, _, _, lk⟩ => by
  have e := PySem.W.mg_of X G a
  rw [hm] at e
  cases e
  rw [l] at lk
  have e2 : (Value.ref c) = cdv := by
    have := Option.some.inj lk
    injection this with _ _ e3 _
    injection e3 with e4
    exact congrArg FuncData.code e4
  exact ⟨c, P, e2.symm, TB, hT, one⟩
/-- a tuple of two ints of the top -/
theorem tup2_at {K : PySem.W.Frag} {h : Heap} {mg : Str → Option Value} {x : Str} {a : Addr} {o : Obj} {i j : Int} {t1 t2 : Tok} {od : Option Addr} {n : Nat} {sl : Array (Option Value)} (X : K.In h) (G : h.Ns mainGlobals mg) (ha : PySem.W.nsIn K mainGlobals x = some (some (.ref a)))
    (l : K.lookup a = some o) (e : o = ⟨.type "tuple", od, .seq #[.int i t1, .int j t2] n, sl⟩) : TupC K mg x [i, j] := by
  subst e
  exact ⟨a, _, _, n, PySem.W.mg_of X G ha, l, rfl, rfl, by show 2 ≤ sizeLine; rw [sizeLine_eq]; decide, .cons ⟨_, rfl⟩ (.cons ⟨_, rfl⟩ .nil)⟩
/-- an error class of the top -/
theorem errC_of [TabsOf] {K : PySem.W.Frag} {h : Heap} {mg : Str → Option Value} {x : Str} {a : Addr} {bm : List Value} {id : String} (X : K.In h) (G : h.Ns mainGlobals mg) (e : TabsOf.cls x = a) (ha : PySem.W.nsIn K mainGlobals x = some (some (.ref a))) (q : PySem.W.excIn K a bm id = true) (k : PySem.W.keepIn K (.ref a) = true)
    (b : PySem.W.subIn K (.ref a) (.type "BaseException") = some true) (t : PySem.W.typeIn K (.ref a) = some (.type "type")) : ErrC K mg bm id x := by
  subst e
  exact ⟨PySem.W.mg_of X G ha, q, k, b, t⟩
end FL
end
section
namespace FL
open PySem PySem.Spec PyProof.Rows L2
/-- a def of the top -/
theorem mkf {K : PySem.W.Frag} {h : Heap} {mg : Str → Option Value} {x : Str} {st : Stmt} {f : Addr} {od an : Option Addr} {sl : Array (Option Value)} {oc kV dc pm cd ct : Value} (X : K.In h) (G : h.Ns mainGlobals mg) (a : PySem.W.nsIn K mainGlobals x = some (some (.ref f)))
    (l : K.lookup f = some ⟨oc, od, .func (PySem.W.fnOf x x (defArgs st) (defBody st) (defScope st) .none kV dc pm an cd ct), sl⟩) (c : PySem.W.codeIn K cd x = true) (k : PySem.W.keepIn K (.ref f) = true) : ∃ (f : Addr) (fd : FuncData), mg x = some (.ref f) ∧ Fun K x x st f fd :=
  ⟨f, _, PySem.W.mg_of X G a, fun_mk l c k⟩
theorem loose_int {p : Program} {lv : List (Str × PySem.W.WData)} {mg : Str → Option Value} {h : Heap} {x : Str} {i : Int} (X : PySem.W.XL p lv mg h) (m : (x, PySem.W.WData.int i) ∈ lv) : ∃ t, mg x = some (.int i t) := by
  obtain ⟨v, e, r⟩ := X.2.val _ m
  cases r
  exact ⟨_, e⟩
theorem gk {K : PySem.W.Frag} {h : Heap} {mg : Str → Option Value} {x : Str} {i : Int} {t : Tok} (X : K.In h) (G : h.Ns mainGlobals mg) (a : PySem.W.nsIn K mainGlobals x = some (some (.int i t))) : ∃ t, mg x = some (.int i t) := ⟨t, PySem.W.mg_of X G a⟩
/-- the test of an except clause that names a class of the program -/
theorem exm_of {K : PySem.W.Frag} {h : Heap} {a b : Addr} {r : Bool} (_ : K.In h) (q : PySem.W.subIn K (.ref b) (.type "BaseException") = some true) (c : PySem.W.isClsIn K b = true) (t : PySem.W.typeIn K (.ref b) = some (.type "type")) (s : PySem.W.subIn K (.ref a) (.ref b) = some r) :
    PySem.W.exmOne K (.ref a) (.ref b) = some r := by
  have c' : (PySem.W.clsIn K b).isSome = true := c
  unfold PySem.W.exmOne PySem.W.kitCls
  have both : ((PySem.W.clsIn K b).isSome && PySem.W.typeIn K (.ref b) == some (.type "type")) = true := by rw [c', t]; decide
  rw [q, if_pos (by decide)]
  exact (if_pos both).trans s
end FL
end
section
namespace FL
open PySem PySem.Spec PyProof.Rows L2
theorem errI_of [TabsOf] {K : PySem.W.Frag} {h : Heap} {mg : Str → Option Value} {x f q : Str} {a fI N : Addr} {st : Stmt} {o : Obj} {nm qn : Str} {bs bm : List Value} {sn : List Str} {sub : List Value} {ab : Bool} {col : Option Bool} {dd od an : Option Addr} {k0 k1 k2 k3 k5 : Option Value} {sl : Array (Option Value)} {oc kV dc pm cd ct : Value}
    (X : K.In h) (G : h.Ns mainGlobals mg) (e : TabsOf.cls x = a) (ha : PySem.W.nsIn K mainGlobals x = some (some (.ref a))) (l : K.lookup a = some o) (eo : o = excClassObj nm qn a N bs bm true sn sub ab col dd k0 k1 k2 k3 k5 "ValueError.__new__") (rv : PySem.HandSPX.refsVE bm = true)
    (sa : PySem.W.findIn K (.ref a) "__setattr__" = some (some (.builtin "object.__setattr__"))) (exC : PySem.W.subIn K (.ref a) (.type "BaseException") = some true) (tyC : PySem.W.typeIn K (.ref a) = some (.type "type")) (kC : PySem.W.keepIn K (.ref a) = true)
    (fi : PySem.W.findIn K (.ref a) "__init__" = some (some (.ref fI))) (tf : PySem.W.typeIn K (.ref fI) = some (.type "function")) (no : PySem.W.findIn K (.ref a) f = some none)
    (ga : PySem.W.findIn K (.ref a) "__getattribute__" = some (some (.builtin "BaseException.__getattribute__"))) (gg : PySem.W.findIn K (.ref a) "__getattr__" = some none) (hd : PySem.W.hasDictIn K a = true)
    (lf : K.lookup fI = some ⟨oc, od, .func (PySem.W.fnOf "__init__" q (defArgs st) (defBody st) (defScope st) .none kV dc pm an cd ct), sl⟩) (cq : PySem.W.codeIn K cd q = true) (kI : PySem.W.keepIn K (.ref fI) = true) :
    ∃ (g : Addr) (fd : FuncData), ErrI K mg x f g ∧ Fun K "__init__" q st g fd := by
  subst e eo
  have oex : OexC K (TabsOf.cls x) := ⟨⟨nm, qn, N, bs, bm, sn, sub, ab, col, dd, k0, k1, k2, k3, k5, l, rv⟩, sa, exC, tyC, kC⟩
  have fn : Fun K "__init__" q st fI (PySem.W.fnOf "__init__" q (defArgs st) (defBody st) (defScope st) .none kV dc pm an cd ct) := ⟨⟨oc, od, kV, dc, pm, an, cd, ct, sl, rfl, lf, cq⟩, kI⟩
  exact ⟨fI, _, ⟨PySem.W.mg_of X G ha, oex, fi, tf, no, ⟨ga, gg, exC, hd⟩⟩, fn⟩
/-- addresses by name -/
def clsOf (l : List (Str × Addr)) (x : Str) : Addr := (l.lookup x).getD 0
theorem exm_at [TabsOf] {K : PySem.W.Frag} {h : Heap} {x y : Str} {a b : Addr} (r : Bool) (X : K.In h) (ea : TabsOf.cls x = a) (eb : TabsOf.cls y = b) (q : PySem.W.subIn K (.ref b) (.type "BaseException") = some true) (c : PySem.W.isClsIn K b = true) (t : PySem.W.typeIn K (.ref b) = some (.type "type")) (s : PySem.W.subIn K (.ref a) (.ref b) = some r) :
    PySem.W.exmOne K (.ref (TabsOf.cls x)) (.ref (TabsOf.cls y)) = some r := by
  rw [ea, eb]
  exact exm_of X q c t s
end FL
end
section
namespace M76
open PySem PySem.Spec PyProof.Rows L2 FL
variable [TabsOf]
def top (i : Nat) : Stmt := PySem.Challenge.pw_restlands_k76_whole_numbers_left.main.body.getD i (.Pass ⟨0, 0, 0, 0⟩)
abbrev st_is_integer : Stmt := top 14
abbrev st_is_between : Stmt := top 15
abbrev st_check_between : Stmt := top 16
abbrev st_check_number : Stmt := top 17
abbrev st_check_span : Stmt := top 18
abbrev st_check_index : Stmt := top 19
abbrev st_is_fact : Stmt := top 20
abbrev st_facts_fault : Stmt := top 21
abbrev st_check_facts : Stmt := top 22
abbrev st_check_lamps : Stmt := top 23
abbrev st_common_of : Stmt := top 24
abbrev st_combined_of : Stmt := top 25
abbrev st_back_of : Stmt := top 26
abbrev st_raised : Stmt := top 27
abbrev st_do_quarrel : Stmt := top 30
abbrev st_all_quarrels : Stmt := top 31
abbrev st_least_pair : Stmt := top 32
abbrev st_put_together : Stmt := top 33
abbrev st_joined_of : Stmt := top 34
abbrev st_check_joined : Stmt := top 35
abbrev st_does_fit : Stmt := top 36
abbrev st_count_of : Stmt := top 37
abbrev st_first_from : Stmt := top 38
abbrev st_quarrels : Stmt := top 39
abbrev st_count : Stmt := top 40
abbrev st_nth : Stmt := top 41
abbrev st_with_fact : Stmt := top 43
abbrev st_without_fact : Stmt := top 44
abbrev st_count_weighed : Stmt := top 45
abbrev st_is_ask : Stmt := top 48
abbrev st_asks_fault : Stmt := top 49
abbrev st_check_asks : Stmt := top 50
abbrev st_check_looked : Stmt := top 51
abbrev st_weighed : Stmt := top 52
abbrev st_place_weighed : Stmt := top 53
abbrev st_check_left : Stmt := top 54
abbrev st_count_left : Stmt := top 55
abbrev st_least_left : Stmt := top 56
abbrev st_nth_left : Stmt := top 57
abbrev st_is_lit : Stmt := top 59
abbrev st_terms_of : Stmt := top 60
abbrev st_sign_of : Stmt := top 61
abbrev st_dark_between : Stmt := top 62
abbrev st_first_dark : Stmt := top 63
abbrev st_count_dark : Stmt := top 64
abbrev st_dark_from : Stmt := top 65
abbrev st__law_pail : Stmt := top 67
abbrev st__law_dip : Stmt := top 68
abbrev st__law_of : Stmt := top 69
abbrev st__law_asks : Stmt := top 70
abbrev st__law_is_left : Stmt := top 71
abbrev st__law_lefts : Stmt := top 72
abbrev st__law_near_right : Stmt := top 74
abbrev st__law_far_right : Stmt := top 75
abbrev st__law_parted_right : Stmt := top 76
abbrev st__law_kin_right : Stmt := top 77
abbrev st__law_right : Stmt := top 78
abbrev st_law : Stmt := top 79
abbrev st__law_heard : Stmt := top 73
abbrev st_InvalidIndex : Stmt := inCls (top 3) 0
structure Txt (K : PySem.W.Frag) (mg : Str → Option Value) (base : Heap) : Prop where
  b_abs : mg "abs" = none
  b_all : mg "all" = none
  b_any : mg "any" = none
  b_bool : mg "bool" = none
  b_dict : mg "dict" = none
  b_divmod : mg "divmod" = none
  b_enumerate : mg "enumerate" = none
  b_int : mg "int" = none
  b_isinstance : mg "isinstance" = none
  b_len : mg "len" = none
  b_max : mg "max" = none
  b_min : mg "min" = none
  b_range : mg "range" = none
  b_repr : mg "repr" = none
  b_sum : mg "sum" = none
  b_tuple : mg "tuple" = none
  g_ALL : TupC K mg "ALL" [0, 1]
  g_MOST_FACT : ∃ t, mg "MOST_FACT" = some (.int 1000000000000000000000000000000 t)
  g_MOST_FACTS : ∃ t, mg "MOST_FACTS" = some (.int 40 t)
  g_MOST_FALSE : ∃ t, mg "MOST_FALSE" = some (.int 12 t)
  g_MOST_LAMPS : ∃ t, mg "MOST_LAMPS" = some (.int 12 t)
  g_MOST_NUMBER : ∃ t, mg "MOST_NUMBER" = some (.int 10000000000000000000000000000000000000000 t)
  e_NoNumber : ErrC K mg [.type "ArithmeticError", .type "Exception", .type "BaseException", .type "object"] "ArithmeticError.__new__" "NoNumber"
  i_InvalidIndex : ∃ (f : Addr) (fd : FuncData), ErrI K mg "InvalidIndex" "given" f ∧ Fun K "__init__" "InvalidIndex.__init__" st_InvalidIndex f fd
  h__law_heard : ∃ (f : Addr) (fd : FuncData), mg "_law_heard" = some (.ref f) ∧ Fun K "_law_heard" "_law_heard" st__law_heard f fd
  x_InvalidIndex_InvalidIndex : PySem.W.exmOne K (.ref (TabsOf.cls "InvalidIndex")) (.ref (TabsOf.cls "InvalidIndex")) = some true
  x_NoNumber_InvalidIndex : PySem.W.exmOne K (.ref (TabsOf.cls "NoNumber")) (.ref (TabsOf.cls "InvalidIndex")) = some false
  x_NoNumber_NoNumber : PySem.W.exmOne K (.ref (TabsOf.cls "NoNumber")) (.ref (TabsOf.cls "NoNumber")) = some true
  l__law_near_right : ∀ g cdv, mg "_law_near_right" = some (.ref g) → CodeAt K "_law_near_right" "_law_near_right" st__law_near_right g cdv → LamT K mg base cdv ("_law_near_right" ++ ".<locals>." ++ "<lambda>")
  l__law_far_right : ∀ g cdv, mg "_law_far_right" = some (.ref g) → CodeAt K "_law_far_right" "_law_far_right" st__law_far_right g cdv → LamT K mg base cdv ("_law_far_right" ++ ".<locals>." ++ "<lambda>")
  l__law_kin_right : ∀ g cdv, mg "_law_kin_right" = some (.ref g) → CodeAt K "_law_kin_right" "_law_kin_right" st__law_kin_right g cdv → LamT K mg base cdv ("_law_kin_right" ++ ".<locals>." ++ "<lambda>")
  f_is_integer : ∃ (f : Addr) (fd : FuncData), mg "is_integer" = some (.ref f) ∧ Fun K "is_integer" "is_integer" st_is_integer f fd
  f_is_between : ∃ (f : Addr) (fd : FuncData), mg "is_between" = some (.ref f) ∧ Fun K "is_between" "is_between" st_is_between f fd
  f_check_between : ∃ (f : Addr) (fd : FuncData), mg "check_between" = some (.ref f) ∧ Fun K "check_between" "check_between" st_check_between f fd
  f_check_number : ∃ (f : Addr) (fd : FuncData), mg "check_number" = some (.ref f) ∧ Fun K "check_number" "check_number" st_check_number f fd
  f_check_span : ∃ (f : Addr) (fd : FuncData), mg "check_span" = some (.ref f) ∧ Fun K "check_span" "check_span" st_check_span f fd
  f_check_index : ∃ (f : Addr) (fd : FuncData), mg "check_index" = some (.ref f) ∧ Fun K "check_index" "check_index" st_check_index f fd
  f_is_fact : ∃ (f : Addr) (fd : FuncData), mg "is_fact" = some (.ref f) ∧ Fun K "is_fact" "is_fact" st_is_fact f fd
  f_facts_fault : ∃ (f : Addr) (fd : FuncData), mg "facts_fault" = some (.ref f) ∧ Fun K "facts_fault" "facts_fault" st_facts_fault f fd
  f_check_facts : ∃ (f : Addr) (fd : FuncData), mg "check_facts" = some (.ref f) ∧ Fun K "check_facts" "check_facts" st_check_facts f fd
  f_check_lamps : ∃ (f : Addr) (fd : FuncData), mg "check_lamps" = some (.ref f) ∧ Fun K "check_lamps" "check_lamps" st_check_lamps f fd
  f_common_of : ∃ (f : Addr) (fd : FuncData), mg "common_of" = some (.ref f) ∧ Fun K "common_of" "common_of" st_common_of f fd
  f_combined_of : ∃ (f : Addr) (fd : FuncData), mg "combined_of" = some (.ref f) ∧ Fun K "combined_of" "combined_of" st_combined_of f fd
  f_back_of : ∃ (f : Addr) (fd : FuncData), mg "back_of" = some (.ref f) ∧ Fun K "back_of" "back_of" st_back_of f fd
  f_raised : ∃ (f : Addr) (fd : FuncData), mg "raised" = some (.ref f) ∧ Fun K "raised" "raised" st_raised f fd
  f_do_quarrel : ∃ (f : Addr) (fd : FuncData), mg "do_quarrel" = some (.ref f) ∧ Fun K "do_quarrel" "do_quarrel" st_do_quarrel f fd
  f_all_quarrels : ∃ (f : Addr) (fd : FuncData), mg "all_quarrels" = some (.ref f) ∧ Fun K "all_quarrels" "all_quarrels" st_all_quarrels f fd
  f_least_pair : ∃ (f : Addr) (fd : FuncData), mg "least_pair" = some (.ref f) ∧ Fun K "least_pair" "least_pair" st_least_pair f fd
  f_put_together : ∃ (f : Addr) (fd : FuncData), mg "put_together" = some (.ref f) ∧ Fun K "put_together" "put_together" st_put_together f fd
  f_joined_of : ∃ (f : Addr) (fd : FuncData), mg "joined_of" = some (.ref f) ∧ Fun K "joined_of" "joined_of" st_joined_of f fd
  f_check_joined : ∃ (f : Addr) (fd : FuncData), mg "check_joined" = some (.ref f) ∧ Fun K "check_joined" "check_joined" st_check_joined f fd
  f_does_fit : ∃ (f : Addr) (fd : FuncData), mg "does_fit" = some (.ref f) ∧ Fun K "does_fit" "does_fit" st_does_fit f fd
  f_count_of : ∃ (f : Addr) (fd : FuncData), mg "count_of" = some (.ref f) ∧ Fun K "count_of" "count_of" st_count_of f fd
  f_first_from : ∃ (f : Addr) (fd : FuncData), mg "first_from" = some (.ref f) ∧ Fun K "first_from" "first_from" st_first_from f fd
  f_quarrels : ∃ (f : Addr) (fd : FuncData), mg "quarrels" = some (.ref f) ∧ Fun K "quarrels" "quarrels" st_quarrels f fd
  f_count : ∃ (f : Addr) (fd : FuncData), mg "count" = some (.ref f) ∧ Fun K "count" "count" st_count f fd
  f_nth : ∃ (f : Addr) (fd : FuncData), mg "nth" = some (.ref f) ∧ Fun K "nth" "nth" st_nth f fd
  f_with_fact : ∃ (f : Addr) (fd : FuncData), mg "with_fact" = some (.ref f) ∧ Fun K "with_fact" "with_fact" st_with_fact f fd
  f_without_fact : ∃ (f : Addr) (fd : FuncData), mg "without_fact" = some (.ref f) ∧ Fun K "without_fact" "without_fact" st_without_fact f fd
  f_count_weighed : ∃ (f : Addr) (fd : FuncData), mg "count_weighed" = some (.ref f) ∧ Fun K "count_weighed" "count_weighed" st_count_weighed f fd
  f_is_ask : ∃ (f : Addr) (fd : FuncData), mg "is_ask" = some (.ref f) ∧ Fun K "is_ask" "is_ask" st_is_ask f fd
  f_asks_fault : ∃ (f : Addr) (fd : FuncData), mg "asks_fault" = some (.ref f) ∧ Fun K "asks_fault" "asks_fault" st_asks_fault f fd
  f_check_asks : ∃ (f : Addr) (fd : FuncData), mg "check_asks" = some (.ref f) ∧ Fun K "check_asks" "check_asks" st_check_asks f fd
  f_check_looked : ∃ (f : Addr) (fd : FuncData), mg "check_looked" = some (.ref f) ∧ Fun K "check_looked" "check_looked" st_check_looked f fd
  f_weighed : ∃ (f : Addr) (fd : FuncData), mg "weighed" = some (.ref f) ∧ Fun K "weighed" "weighed" st_weighed f fd
  f_place_weighed : ∃ (f : Addr) (fd : FuncData), mg "place_weighed" = some (.ref f) ∧ Fun K "place_weighed" "place_weighed" st_place_weighed f fd
  f_check_left : ∃ (f : Addr) (fd : FuncData), mg "check_left" = some (.ref f) ∧ Fun K "check_left" "check_left" st_check_left f fd
  f_count_left : ∃ (f : Addr) (fd : FuncData), mg "count_left" = some (.ref f) ∧ Fun K "count_left" "count_left" st_count_left f fd
  f_least_left : ∃ (f : Addr) (fd : FuncData), mg "least_left" = some (.ref f) ∧ Fun K "least_left" "least_left" st_least_left f fd
  f_nth_left : ∃ (f : Addr) (fd : FuncData), mg "nth_left" = some (.ref f) ∧ Fun K "nth_left" "nth_left" st_nth_left f fd
  f_is_lit : ∃ (f : Addr) (fd : FuncData), mg "is_lit" = some (.ref f) ∧ Fun K "is_lit" "is_lit" st_is_lit f fd
  f_terms_of : ∃ (f : Addr) (fd : FuncData), mg "terms_of" = some (.ref f) ∧ Fun K "terms_of" "terms_of" st_terms_of f fd
  f_sign_of : ∃ (f : Addr) (fd : FuncData), mg "sign_of" = some (.ref f) ∧ Fun K "sign_of" "sign_of" st_sign_of f fd
  f_dark_between : ∃ (f : Addr) (fd : FuncData), mg "dark_between" = some (.ref f) ∧ Fun K "dark_between" "dark_between" st_dark_between f fd
  f_first_dark : ∃ (f : Addr) (fd : FuncData), mg "first_dark" = some (.ref f) ∧ Fun K "first_dark" "first_dark" st_first_dark f fd
  f_count_dark : ∃ (f : Addr) (fd : FuncData), mg "count_dark" = some (.ref f) ∧ Fun K "count_dark" "count_dark" st_count_dark f fd
  f_dark_from : ∃ (f : Addr) (fd : FuncData), mg "dark_from" = some (.ref f) ∧ Fun K "dark_from" "dark_from" st_dark_from f fd
  f__law_pail : ∃ (f : Addr) (fd : FuncData), mg "_law_pail" = some (.ref f) ∧ Fun K "_law_pail" "_law_pail" st__law_pail f fd
  f__law_dip : ∃ (f : Addr) (fd : FuncData), mg "_law_dip" = some (.ref f) ∧ Fun K "_law_dip" "_law_dip" st__law_dip f fd
  f__law_of : ∃ (f : Addr) (fd : FuncData), mg "_law_of" = some (.ref f) ∧ Fun K "_law_of" "_law_of" st__law_of f fd
  f__law_asks : ∃ (f : Addr) (fd : FuncData), mg "_law_asks" = some (.ref f) ∧ Fun K "_law_asks" "_law_asks" st__law_asks f fd
  f__law_is_left : ∃ (f : Addr) (fd : FuncData), mg "_law_is_left" = some (.ref f) ∧ Fun K "_law_is_left" "_law_is_left" st__law_is_left f fd
  f__law_lefts : ∃ (f : Addr) (fd : FuncData), mg "_law_lefts" = some (.ref f) ∧ Fun K "_law_lefts" "_law_lefts" st__law_lefts f fd
  f__law_near_right : ∃ (f : Addr) (fd : FuncData), mg "_law_near_right" = some (.ref f) ∧ Fun K "_law_near_right" "_law_near_right" st__law_near_right f fd
  f__law_far_right : ∃ (f : Addr) (fd : FuncData), mg "_law_far_right" = some (.ref f) ∧ Fun K "_law_far_right" "_law_far_right" st__law_far_right f fd
  f__law_parted_right : ∃ (f : Addr) (fd : FuncData), mg "_law_parted_right" = some (.ref f) ∧ Fun K "_law_parted_right" "_law_parted_right" st__law_parted_right f fd
  f__law_kin_right : ∃ (f : Addr) (fd : FuncData), mg "_law_kin_right" = some (.ref f) ∧ Fun K "_law_kin_right" "_law_kin_right" st__law_kin_right f fd
  f__law_right : ∃ (f : Addr) (fd : FuncData), mg "_law_right" = some (.ref f) ∧ Fun K "_law_right" "_law_right" st__law_right f fd
  f_law : ∃ (f : Addr) (fd : FuncData), mg "law" = some (.ref f) ∧ Fun K "law" "law" st_law f fd
section
variable {K : PySem.W.Frag} {mg : Str → Option Value} {base : Heap}
theorem sc_InvalidIndex : FnScope ["self", "given"] ["self", "given"] (defScope st_InvalidIndex) := ⟨rfl, rfl, rfl, by decide +kernel, rfl, by decide +kernel, by decide +kernel⟩
theorem sc__law_heard : FnScope ["act", "e"] ["act"] (defScope st__law_heard) := ⟨rfl, rfl, rfl, by decide +kernel, rfl, by decide +kernel, by decide +kernel⟩
noncomputable def g__law_heard (T : Txt K mg base) : Addr := T.h__law_heard.choose
theorem m__law_heard (T : Txt K mg base) : mg "_law_heard" = some (.ref (g__law_heard T)) := T.h__law_heard.choose_spec.choose_spec.1
theorem n__law_heard (T : Txt K mg base) : Fun K "_law_heard" "_law_heard" st__law_heard (g__law_heard T) T.h__law_heard.choose_spec.choose := T.h__law_heard.choose_spec.choose_spec.2
theorem b__law_heard : ∀ (kV doc pm : Value) (an : Option Addr) (cdv ct : Value) (us : List Value), us.length = ["act"].length → bindArgs (PySem.W.fnOf "_law_heard" "_law_heard" (defArgs st__law_heard) (defBody st__law_heard) (defScope st__law_heard) .none kV doc pm an cdv ct) ⟨us, []⟩ = pure ((["act"] : List Str).zip us) := fun _ _ _ _ _ _ us hl => match us, hl with | [_], _ => rfl
def h__law_heard : ER D → ER D := hTold "InvalidIndex" "NoNumber" "given"
theorem lo__law_heard (T : Txt K mg base) : LamOk K (TTold K (TabsOf.cls "InvalidIndex") (TabsOf.cls "NoNumber") "given") h__law_heard := lamOk_told T.x_InvalidIndex_InvalidIndex T.x_NoNumber_InvalidIndex T.x_NoNumber_NoNumber
theorem gv__law_heard {X : Cx} {q : Str} {g : Addr} {cdv : Value} (T : Txt X.K X.mg base) : LamX.GivesTo X ["act", "e"] "_law_heard" (defScope st__law_heard) g cdv (defBody st__law_heard) "act" q (TTold X.K (TabsOf.cls "InvalidIndex") (TabsOf.cls "NoNumber") "given") := gives_told (by decide) rfl rfl rfl (by rfl) T.i_InvalidIndex.choose_spec.choose_spec.1.g (by decide) (by rfl) T.e_NoNumber.g (by decide) (by rfl) T.b_repr T.i_InvalidIndex.choose_spec.choose_spec.1.xf T.i_InvalidIndex.choose_spec.choose_spec.1.no (fun _ => rfl)
theorem sc_is_integer : FnScope ["value"] ["value"] (defScope st_is_integer) := ⟨rfl, rfl, rfl, by decide +kernel, rfl, by decide +kernel, by decide +kernel⟩
noncomputable def sem_is_integer : SM := (sRet (eAndV (eCB isiP (aCons (eVar 0) (aCons (eC (.ty "int")) aNil))) (eNotV (eCB isiP (aCons (eVar 0) (aCons (eC (.ty "bool")) aNil))))))
noncomputable def F_is_integer : Fn := runDef 1 1 sem_is_integer
theorem ok_is_integer (T : Txt K mg base) : DefOk false TabsOf.P TabsOf.w K mg base "is_integer" 1 ["value"] F_is_integer :=
  defok_mk (k := 0) T.f_is_integer sc_is_integer (fun _ _ _ _ _ _ us hl => match us, hl with | [_], _ => rfl) fun f cdv lc A outer s H E hr tk hp => have am : Amb (cxOf (L2.CX TabsOf.P TabsOf.w) TabsOf.P TabsOf.w K mg base ["value"] "is_integer" (defScope st_is_integer) f cdv A outer s H E) := ⟨rfl, rfl⟩
    (jss_one (js_ret (je_and (je_cb call_isi prim_isi T.b_isinstance bt_isinstance (ja_cons (je_v 0) (ja_cons (je_ty T.b_int bt_int) ja_nil))) (je_one (je_not (je_cb call_isi prim_isi T.b_isinstance bt_isinstance (ja_cons (je_v 0) (ja_cons (je_ty T.b_bool bt_bool) ja_nil))))))))
theorem sc_is_between : FnScope ["value", "least", "most"] ["value", "least", "most"] (defScope st_is_between) := ⟨rfl, rfl, rfl, by decide +kernel, rfl, by decide +kernel, by decide +kernel⟩
noncomputable def sem_is_between : SM := (sRet (eAndV (eCall 1 F_is_integer (aCons (eVar 0) aNil)) (eBl (eChain leP leP (eVar 1) (eVar 0) (eVar 2)))))
noncomputable def F_is_between : Fn := runDef 3 3 sem_is_between
theorem ok_is_between (T : Txt K mg base) : DefOk false TabsOf.P TabsOf.w K mg base "is_between" 2 ["value", "least", "most"] F_is_between :=
  defok_mk (k := 1) T.f_is_between sc_is_between (fun _ _ _ _ _ _ us hl => match us, hl with | [_, _, _], _ => rfl) fun f cdv lc A outer s H E hr tk hp => have am : Amb (cxOf (L2.CX TabsOf.P TabsOf.w) TabsOf.P TabsOf.w K mg base ["value", "least", "most"] "is_between" (defScope st_is_between) f cdv A outer s H E) := ⟨rfl, rfl⟩
    (jss_one (js_ret (je_and (je_call (ps := ["value"]) (ok_is_integer T) (hr.mono (by decide)) tk (ja_cons (je_v 0) ja_nil)) (je_one (je_chain op_le op_le (prim_iCmp _) (prim_iCmp _) (je_v 1) (je_v 0) (je_v 2))))))
theorem sc_check_between : FnScope ["value", "least", "most"] ["value", "least", "most"] (defScope st_check_between) := ⟨rfl, rfl, rfl, by decide +kernel, rfl, by decide +kernel, by decide +kernel⟩
noncomputable def sem_check_between : SM := (sIf (eNotT (eTru (eCall 3 F_is_between (aCons (eVar 0) (aCons (eVar 1) (aCons (eVar 2) aNil)))))) sBad sNext)
noncomputable def F_check_between : Fn := runDef 3 3 sem_check_between
theorem ok_check_between (T : Txt K mg base) : DefOk false TabsOf.P TabsOf.w K mg base "check_between" 3 ["value", "least", "most"] F_check_between :=
  defok_mk (k := 2) T.f_check_between sc_check_between (fun _ _ _ _ _ _ us hl => match us, hl with | [_, _, _], _ => rfl) fun f cdv lc A outer s H E hr tk hp => have am : Amb (cxOf (L2.CX TabsOf.P TabsOf.w) TabsOf.P TabsOf.w K mg base ["value", "least", "most"] "check_between" (defScope st_check_between) f cdv A outer s H E) := ⟨rfl, rfl⟩
    (jss_one (js_if (jt_not (jt_tru (je_call (ps := ["value", "least", "most"]) (ok_is_between T) (hr.mono (by decide)) tk (ja_cons (je_v 0) (ja_cons (je_v 1) (ja_cons (je_v 2) ja_nil)))))) (jss_one js_never) jss_nil))
theorem sc_check_number : FnScope ["value"] ["value"] (defScope st_check_number) := ⟨rfl, rfl, rfl, by decide +kernel, rfl, by decide +kernel, by decide +kernel⟩
noncomputable def sem_check_number : SM := (sDrop (eCall 3 F_check_between (aCons (eVar 0) (aCons (eNeg (eC (.int 10000000000000000000000000000000000000000))) (aCons (eC (.int 10000000000000000000000000000000000000000)) aNil)))))
noncomputable def F_check_number : Fn := runDef 1 1 sem_check_number
theorem ok_check_number (T : Txt K mg base) : DefOk false TabsOf.P TabsOf.w K mg base "check_number" 4 ["value"] F_check_number :=
  defok_mk (k := 3) T.f_check_number sc_check_number (fun _ _ _ _ _ _ us hl => match us, hl with | [_], _ => rfl) fun f cdv lc A outer s H E hr tk hp => have am : Amb (cxOf (L2.CX TabsOf.P TabsOf.w) TabsOf.P TabsOf.w K mg base ["value"] "check_number" (defScope st_check_number) f cdv A outer s H E) := ⟨rfl, rfl⟩
    (jss_one (js_expr (je_call (ps := ["value", "least", "most"]) (ok_check_between T) (hr.mono (by decide)) tk (ja_cons (je_v 0) (ja_cons (je_neg (je_gi T.g_MOST_NUMBER)) (ja_cons (je_gi T.g_MOST_NUMBER) ja_nil))))))
theorem sc_check_span : FnScope ["low", "high"] ["low", "high"] (defScope st_check_span) := ⟨rfl, rfl, rfl, by decide +kernel, rfl, by decide +kernel, by decide +kernel⟩
noncomputable def sem_check_span : SM := (sSeq (sDrop (eCall 1 F_check_number (aCons (eVar 0) aNil)))
  (sDrop (eCall 3 F_check_between (aCons (eVar 1) (aCons (eVar 0) (aCons (eC (.int 10000000000000000000000000000000000000000)) aNil))))))
noncomputable def F_check_span : Fn := runDef 2 2 sem_check_span
theorem ok_check_span (T : Txt K mg base) : DefOk false TabsOf.P TabsOf.w K mg base "check_span" 5 ["low", "high"] F_check_span :=
  defok_mk (k := 4) T.f_check_span sc_check_span (fun _ _ _ _ _ _ us hl => match us, hl with | [_, _], _ => rfl) fun f cdv lc A outer s H E hr tk hp => have am : Amb (cxOf (L2.CX TabsOf.P TabsOf.w) TabsOf.P TabsOf.w K mg base ["low", "high"] "check_span" (defScope st_check_span) f cdv A outer s H E) := ⟨rfl, rfl⟩
    (jss_cons (js_expr (je_call (ps := ["value"]) (ok_check_number T) (hr.mono (by decide)) tk (ja_cons (je_v 0) ja_nil)))
      (jss_one (js_expr (je_call (ps := ["value", "least", "most"]) (ok_check_between T) (hr.mono (by decide)) tk (ja_cons (je_v 1) (ja_cons (je_v 0) (ja_cons (je_gi T.g_MOST_NUMBER) ja_nil)))))))
theorem sc_check_index : FnScope ["value"] ["value"] (defScope st_check_index) := ⟨rfl, rfl, rfl, by decide +kernel, rfl, by decide +kernel, by decide +kernel⟩
noncomputable def sem_check_index : SM := (sIf (eNotT (eTru (eCall 3 F_is_between (aCons (eVar 0) (aCons (eC (.int 0)) (aCons (eC (.int 10000000000000000000000000000000000000000)) aNil)))))) (sRaise1 "InvalidIndex" "given" (eVar 0)) sNext)
noncomputable def F_check_index : Fn := runDef 1 1 sem_check_index
theorem ok_check_index (T : Txt K mg base) : DefOk false TabsOf.P TabsOf.w K mg base "check_index" 3 ["value"] F_check_index :=
  defok_mk (k := 2) T.f_check_index sc_check_index (fun _ _ _ _ _ _ us hl => match us, hl with | [_], _ => rfl) fun f cdv lc A outer s H E hr tk hp => have am : Amb (cxOf (L2.CX TabsOf.P TabsOf.w) TabsOf.P TabsOf.w K mg base ["value"] "check_index" (defScope st_check_index) f cdv A outer s H E) := ⟨rfl, rfl⟩
    (jss_one (js_if (jt_not (jt_tru (je_call (ps := ["value", "least", "most"]) (ok_is_between T) (hr.mono (by decide)) tk (ja_cons (je_v 0) (ja_cons je_int (ja_cons (je_gi T.g_MOST_NUMBER) ja_nil)))))) (jss_one (js_raiseI T.i_InvalidIndex sc_InvalidIndex rfl (fun _ _ _ _ _ _ us hl => match us, hl with | [_, _], _ => rfl) (je_v 0) (hr.mono (by decide)) tk)) jss_nil))
theorem sc_is_fact : FnScope ["value"] ["value"] (defScope st_is_fact) := ⟨rfl, rfl, rfl, by decide +kernel, rfl, by decide +kernel, by decide +kernel⟩
noncomputable def sem_is_fact : SM := (sSeq (sIf (eOrT (eNotT (eTru (eCB isiP (aCons (eVar 0) (aCons (eC (.ty "tuple")) aNil))))) (eOrT (eOpB neP (eCB lenP (aCons (eVar 0) aNil)) (eC (.int 2))) (eNotT (eTru (eCall 3 F_is_between (aCons (eOp2 ixP (eVar 0) (eC (.int 1))) (aCons (eC (.int 1)) (aCons (eC (.int 1000000000000000000000000000000)) aNil)))))))) (sRet (eC (.bl false))) sNext)
  (sRet (eCall 3 F_is_between (aCons (eOp2 ixP (eVar 0) (eC (.int 0))) (aCons (eC (.int 0)) (aCons (eOp2 subP (eOp2 ixP (eVar 0) (eC (.int 1))) (eC (.int 1))) aNil))))))
noncomputable def F_is_fact : Fn := runDef 1 1 sem_is_fact
theorem ok_is_fact (T : Txt K mg base) : DefOk false TabsOf.P TabsOf.w K mg base "is_fact" 3 ["value"] F_is_fact :=
  defok_mk (k := 2) T.f_is_fact sc_is_fact (fun _ _ _ _ _ _ us hl => match us, hl with | [_], _ => rfl) fun f cdv lc A outer s H E hr tk hp => have am : Amb (cxOf (L2.CX TabsOf.P TabsOf.w) TabsOf.P TabsOf.w K mg base ["value"] "is_fact" (defScope st_is_fact) f cdv A outer s H E) := ⟨rfl, rfl⟩
    (jss_cons (js_if (jt_w (jw_or (jt_not (jt_tru (je_cb call_isi prim_isi T.b_isinstance bt_isinstance (ja_cons (je_v 0) (ja_cons (je_ty T.b_tuple bt_tuple) ja_nil))))) (jw_or (jt_cmp (op_neD (hu64 hr)) prim_ne (je_cb call_len prim_len T.b_len bt_len (ja_cons (je_v 0) ja_nil)) je_int (nomark _)) (jw_or1 (jt_not (jt_tru (je_call (ps := ["value", "least", "most"]) (ok_is_between T) (hr.mono (by decide)) tk (ja_cons (je_ix (je_v 0) je_int) (ja_cons je_int (ja_cons (je_gi T.g_MOST_FACT) ja_nil)))))))))) (jss_one (js_ret je_bl)) jss_nil)
      (jss_one (js_ret (je_call (ps := ["value", "least", "most"]) (ok_is_between T) (hr.mono (by decide)) tk (ja_cons (je_ix (je_v 0) je_int) (ja_cons je_int (ja_cons (je_op op_sub (prim_iOp _) (je_ix (je_v 0) je_int) je_int) ja_nil)))))))
theorem sc_facts_fault : FnScope ["value", "most", "index", "fact"] ["value", "most"] (defScope st_facts_fault) := ⟨rfl, rfl, rfl, by decide +kernel, rfl, by decide +kernel, by decide +kernel⟩
noncomputable def sem_facts_fault : SM := (sSeq (sIf (eNotT (eTru (eCB isiP (aCons (eVar 0) (aCons (eC (.ty "tuple")) aNil))))) (sRet (eC .non)) sNext)
  (sSeq (sFor (iEnum (aCons (eVar 0) aNil)) (.tup [2, 3]) (sIf (eOrT (eOpB eqP (eVar 2) (eVar 1)) (eNotT (eTru (eCall 1 F_is_fact (aCons (eVar 3) aNil))))) (sRet (eVar 2)) sNext))
  (sRet (eNeg (eC (.int 1))))))
noncomputable def F_facts_fault : Fn := runDef 2 4 sem_facts_fault
theorem ok_facts_fault (T : Txt K mg base) : DefOk false TabsOf.P TabsOf.w K mg base "facts_fault" 4 ["value", "most"] F_facts_fault :=
  defok_mk (k := 3) T.f_facts_fault sc_facts_fault (fun _ _ _ _ _ _ us hl => match us, hl with | [_, _], _ => rfl) fun f cdv lc A outer s H E hr tk hp => have am : Amb (cxOf (L2.CX TabsOf.P TabsOf.w) TabsOf.P TabsOf.w K mg base ["value", "most", "index", "fact"] "facts_fault" (defScope st_facts_fault) f cdv A outer s H E) := ⟨rfl, rfl⟩
    (jss_cons (js_if (jt_not (jt_tru (je_cb call_isi prim_isi T.b_isinstance bt_isinstance (ja_cons (je_v 0) (ja_cons (je_ty T.b_tuple bt_tuple) ja_nil))))) (jss_one (js_ret je_non)) jss_nil)
      (jss_cons (js_for (T := (.tup [2, 3])) hp (ji_enum T.b_enumerate (ja_cons (je_v 0) ja_nil)) (jg_tup rfl (jgs_cons sc_facts_fault.nd (jgs_cons sc_facts_fault.nd jgs_nil))) (jss_one (js_if (jt_w (jw_or (jt_cmp (op_eqD (hu64 hr)) prim_eq (je_v 2) (je_v 1) (nomark _)) (jw_or1 (jt_not (jt_tru (je_call (ps := ["value"]) (ok_is_fact T) (hr.mono (by decide)) tk (ja_cons (je_v 3) ja_nil))))))) (jss_one (js_ret (je_v 2))) jss_nil)))
      (jss_one (js_ret (je_neg je_int)))))
theorem sc_check_facts : FnScope ["value", "fault"] ["value"] (defScope st_check_facts) := ⟨rfl, rfl, rfl, by decide +kernel, rfl, by decide +kernel, by decide +kernel⟩
noncomputable def sem_check_facts : SM := (sSeq (sSet 1 (eCall 2 F_facts_fault (aCons (eVar 0) (aCons (eC (.int 40)) aNil))))
  (sIf (eOpB neP (eVar 1) (eNeg (eC (.int 1)))) sBad sNext))
noncomputable def F_check_facts : Fn := runDef 1 2 sem_check_facts
theorem ok_check_facts (T : Txt K mg base) : DefOk false TabsOf.P TabsOf.w K mg base "check_facts" 5 ["value"] F_check_facts :=
  defok_mk (k := 4) T.f_check_facts sc_check_facts (fun _ _ _ _ _ _ us hl => match us, hl with | [_], _ => rfl) fun f cdv lc A outer s H E hr tk hp => have am : Amb (cxOf (L2.CX TabsOf.P TabsOf.w) TabsOf.P TabsOf.w K mg base ["value", "fault"] "check_facts" (defScope st_check_facts) f cdv A outer s H E) := ⟨rfl, rfl⟩
    (jss_cons (js_set (i := 1) sc_check_facts.nd (je_call (ps := ["value", "most"]) (ok_facts_fault T) (hr.mono (by decide)) tk (ja_cons (je_v 0) (ja_cons (je_gi T.g_MOST_FACTS) ja_nil))))
      (jss_one (js_if (jt_cmp (op_neD (hu64 hr)) prim_ne (je_v 1) (je_neg je_int) (nomark _)) (jss_one js_never) jss_nil)))
theorem sc_check_lamps : FnScope ["value", "fault"] ["value"] (defScope st_check_lamps) := ⟨rfl, rfl, rfl, by decide +kernel, rfl, by decide +kernel, by decide +kernel⟩
noncomputable def sem_check_lamps : SM := (sSeq (sSet 1 (eCall 2 F_facts_fault (aCons (eVar 0) (aCons (eC (.int 12)) aNil))))
  (sIf (eOpB neP (eVar 1) (eNeg (eC (.int 1)))) sBad sNext))
noncomputable def F_check_lamps : Fn := runDef 1 2 sem_check_lamps
theorem ok_check_lamps (T : Txt K mg base) : DefOk false TabsOf.P TabsOf.w K mg base "check_lamps" 5 ["value"] F_check_lamps :=
  defok_mk (k := 4) T.f_check_lamps sc_check_lamps (fun _ _ _ _ _ _ us hl => match us, hl with | [_], _ => rfl) fun f cdv lc A outer s H E hr tk hp => have am : Amb (cxOf (L2.CX TabsOf.P TabsOf.w) TabsOf.P TabsOf.w K mg base ["value", "fault"] "check_lamps" (defScope st_check_lamps) f cdv A outer s H E) := ⟨rfl, rfl⟩
    (jss_cons (js_set (i := 1) sc_check_lamps.nd (je_call (ps := ["value", "most"]) (ok_facts_fault T) (hr.mono (by decide)) tk (ja_cons (je_v 0) (ja_cons (je_gi T.g_MOST_LAMPS) ja_nil))))
      (jss_one (js_if (jt_cmp (op_neD (hu64 hr)) prim_ne (je_v 1) (je_neg je_int) (nomark _)) (jss_one js_never) jss_nil)))
theorem sc_common_of : FnScope ["one", "other"] ["one", "other"] (defScope st_common_of) := ⟨rfl, rfl, rfl, by decide +kernel, rfl, by decide +kernel, by decide +kernel⟩
noncomputable def sem_common_of : SM := (sSeq (sPar 0 1 (aCons (eCB absP (aCons (eVar 0) aNil)) (aCons (eCB absP (aCons (eVar 1) aNil)) aNil)))
  (sSeq (sWhile (eOpB gtP (eVar 1) (eC (.int 0))) (sPar 0 1 (aCons (eVar 1) (aCons (eOp2 modP (eVar 0) (eVar 1)) aNil))))
  (sRet (eVar 0))))
noncomputable def F_common_of : Fn := runDef 2 2 sem_common_of
theorem ok_common_of (T : Txt K mg base) : DefOk false TabsOf.P TabsOf.w K mg base "common_of" 1 ["one", "other"] F_common_of :=
  defok_mk (k := 0) T.f_common_of sc_common_of (fun _ _ _ _ _ _ us hl => match us, hl with | [_, _], _ => rfl) fun f cdv lc A outer s H E hr tk hp => have am : Amb (cxOf (L2.CX TabsOf.P TabsOf.w) TabsOf.P TabsOf.w K mg base ["one", "other"] "common_of" (defScope st_common_of) f cdv A outer s H E) := ⟨rfl, rfl⟩
    (jss_cons (js_par (i := 0) (j := 1) sc_common_of.nd (by decide) (ja_cons (je_cb call_abs prim_abs T.b_abs bt_abs (ja_cons (je_v 0) ja_nil)) (ja_cons (je_cb call_abs prim_abs T.b_abs bt_abs (ja_cons (je_v 1) ja_nil)) ja_nil)) (by rfl))
      (jss_cons (js_while hp (jt_cmp op_gt (prim_iCmp _) (je_v 1) je_int (nomark _)) (jss_one (js_par (i := 0) (j := 1) sc_common_of.nd (by decide) (ja_cons (je_v 1) (ja_cons (je_op op_mod (prim_iOpC modOk_to _) (je_v 0) (je_v 1)) ja_nil)) (by rfl))))
      (jss_one (js_ret (je_v 0)))))
theorem sc_combined_of : FnScope ["one", "other", "left", "right", "first", "second", "times"] ["one", "other"] (defScope st_combined_of) := ⟨rfl, rfl, rfl, by decide +kernel, rfl, by decide +kernel, by decide +kernel⟩
noncomputable def sem_combined_of : SM := (sSeq (sUnp (.tup [2, 3, 4, 5]) (eTup (aCons (eVar 0) (aCons (eVar 1) (aCons (eTup (aCons (eC (.int 1)) (aCons (eC (.int 0)) aNil))) (aCons (eTup (aCons (eC (.int 0)) (aCons (eC (.int 1)) aNil))) aNil))))))
  (sSeq (sWhile (eOpB neP (eVar 3) (eC (.int 0))) (sSeq (sSet 6 (eOp2 divP (eVar 2) (eVar 3)))
  (sSeq (sPar 2 3 (aCons (eVar 3) (aCons (eOp2 subP (eVar 2) (eOp2 mulP (eVar 6) (eVar 3))) aNil)))
  (sPar 4 5 (aCons (eVar 5) (aCons (eTup (aCons (eOp2 subP (eOp2 ixP (eVar 4) (eC (.int 0))) (eOp2 mulP (eVar 6) (eOp2 ixP (eVar 5) (eC (.int 0))))) (aCons (eOp2 subP (eOp2 ixP (eVar 4) (eC (.int 1))) (eOp2 mulP (eVar 6) (eOp2 ixP (eVar 5) (eC (.int 1))))) aNil))) aNil))))))
  (sRet (eIf (eOpB geP (eVar 2) (eC (.int 0))) (eVar 4) (eTup (aCons (eNeg (eOp2 ixP (eVar 4) (eC (.int 0)))) (aCons (eNeg (eOp2 ixP (eVar 4) (eC (.int 1)))) aNil)))))))
noncomputable def F_combined_of : Fn := runDef 2 7 sem_combined_of
theorem ok_combined_of (T : Txt K mg base) : DefOk false TabsOf.P TabsOf.w K mg base "combined_of" 1 ["one", "other"] F_combined_of :=
  defok_mk (k := 0) T.f_combined_of sc_combined_of (fun _ _ _ _ _ _ us hl => match us, hl with | [_, _], _ => rfl) fun f cdv lc A outer s H E hr tk hp => have am : Amb (cxOf (L2.CX TabsOf.P TabsOf.w) TabsOf.P TabsOf.w K mg base ["one", "other", "left", "right", "first", "second", "times"] "combined_of" (defScope st_combined_of) f cdv A outer s H E) := ⟨rfl, rfl⟩
    (jss_cons (js_unp (T := (.tup [2, 3, 4, 5])) (je_tup (ja_cons (je_v 0) (ja_cons (je_v 1) (ja_cons (je_tup (ja_cons je_int (ja_cons je_int ja_nil))) (ja_cons (je_tup (ja_cons je_int (ja_cons je_int ja_nil))) ja_nil))))) (jg_tup rfl (jgs_cons sc_combined_of.nd (jgs_cons sc_combined_of.nd (jgs_cons sc_combined_of.nd (jgs_cons sc_combined_of.nd jgs_nil))))))
      (jss_cons (js_while hp (jt_cmp (op_neD (hu64 hr)) prim_ne (je_v 3) je_int (nomark _)) (jss_cons (js_set (i := 6) sc_combined_of.nd (je_op op_fdivW (prim_iOpC divOk_to _) (je_v 2) (je_v 3)))
      (jss_cons (js_par (i := 2) (j := 3) sc_combined_of.nd (by decide) (ja_cons (je_v 3) (ja_cons (je_op op_sub (prim_iOp _) (je_v 2) (je_op op_mulX (prim_iOpC mulOk_to _) (je_v 6) (je_v 3))) ja_nil)) (by rfl))
      (jss_one (js_par (i := 4) (j := 5) sc_combined_of.nd (by decide) (ja_cons (je_v 5) (ja_cons (je_tup (ja_cons (je_op op_sub (prim_iOp _) (je_ix (je_v 4) je_int) (je_op op_mulX (prim_iOpC mulOk_to _) (je_v 6) (je_ix (je_v 5) je_int))) (ja_cons (je_op op_sub (prim_iOp _) (je_ix (je_v 4) je_int) (je_op op_mulX (prim_iOpC mulOk_to _) (je_v 6) (je_ix (je_v 5) je_int))) ja_nil))) ja_nil)) (by rfl))))))
      (jss_one (js_ret (je_if (jt_cmp op_ge (prim_iCmp _) (je_v 2) je_int (nomark _)) (je_v 4) (je_tup (ja_cons (je_neg (je_ix (je_v 4) je_int)) (ja_cons (je_neg (je_ix (je_v 4) je_int)) ja_nil))))))))
theorem sc_back_of : FnScope ["number", "base"] ["number", "base"] (defScope st_back_of) := ⟨rfl, rfl, rfl, by decide +kernel, rfl, by decide +kernel, by decide +kernel⟩
noncomputable def sem_back_of : SM := (sRet (eOp2 modP (eOp2 ixP (eCall 2 F_combined_of (aCons (eOp2 modP (eVar 0) (eVar 1)) (aCons (eVar 1) aNil))) (eC (.int 0))) (eVar 1)))
noncomputable def F_back_of : Fn := runDef 2 2 sem_back_of
theorem ok_back_of (T : Txt K mg base) : DefOk false TabsOf.P TabsOf.w K mg base "back_of" 2 ["number", "base"] F_back_of :=
  defok_mk (k := 1) T.f_back_of sc_back_of (fun _ _ _ _ _ _ us hl => match us, hl with | [_, _], _ => rfl) fun f cdv lc A outer s H E hr tk hp => have am : Amb (cxOf (L2.CX TabsOf.P TabsOf.w) TabsOf.P TabsOf.w K mg base ["number", "base"] "back_of" (defScope st_back_of) f cdv A outer s H E) := ⟨rfl, rfl⟩
    (jss_one (js_ret (je_op op_mod (prim_iOpC modOk_to _) (je_ix (je_call (ps := ["one", "other"]) (ok_combined_of T) (hr.mono (by decide)) tk (ja_cons (je_op op_mod (prim_iOpC modOk_to _) (je_v 0) (je_v 1)) (ja_cons (je_v 1) ja_nil))) je_int) (je_v 1))))
theorem sc_raised : FnScope ["number", "power", "found", "here"] ["number", "power"] (defScope st_raised) := ⟨rfl, rfl, rfl, by decide +kernel, rfl, by decide +kernel, by decide +kernel⟩
noncomputable def sem_raised : SM := (sSeq (sPar 2 3 (aCons (eC (.int 1)) (aCons (eVar 0) aNil)))
  (sSeq (sWhile (eOpB gtP (eVar 1) (eC (.int 0))) (sSeq (sIf (eOpB eqP (eOp2 modP (eVar 1) (eC (.int 2))) (eC (.int 1))) (sSet 2 (eOp2 mulP (eVar 2) (eVar 3))) sNext)
  (sSeq (sSet 1 (eOp2 divP (eVar 1) (eC (.int 2))))
  (sSet 3 (eIf (eOpB gtP (eVar 1) (eC (.int 0))) (eOp2 mulP (eVar 3) (eVar 3)) (eVar 3))))))
  (sRet (eVar 2))))
noncomputable def F_raised : Fn := runDef 2 4 sem_raised
theorem ok_raised (T : Txt K mg base) : DefOk false TabsOf.P TabsOf.w K mg base "raised" 1 ["number", "power"] F_raised :=
  defok_mk (k := 0) T.f_raised sc_raised (fun _ _ _ _ _ _ us hl => match us, hl with | [_, _], _ => rfl) fun f cdv lc A outer s H E hr tk hp => have am : Amb (cxOf (L2.CX TabsOf.P TabsOf.w) TabsOf.P TabsOf.w K mg base ["number", "power", "found", "here"] "raised" (defScope st_raised) f cdv A outer s H E) := ⟨rfl, rfl⟩
    (jss_cons (js_par (i := 2) (j := 3) sc_raised.nd (by decide) (ja_cons je_int (ja_cons (je_v 0) ja_nil)) (by rfl))
      (jss_cons (js_while hp (jt_cmp op_gt (prim_iCmp _) (je_v 1) je_int (nomark _)) (jss_cons (js_if (jt_cmp (op_eqD (hu64 hr)) prim_eq (je_op op_mod (prim_iOpC modOk_to _) (je_v 1) je_int) je_int (nomark _)) (jss_one (js_set (i := 2) sc_raised.nd (je_op op_mulX (prim_iOpC mulOk_to _) (je_v 2) (je_v 3)))) jss_nil)
      (jss_cons (js_set (i := 1) sc_raised.nd (je_op op_fdivW (prim_iOpC divOk_to _) (je_v 1) je_int))
      (jss_one (js_set (i := 3) sc_raised.nd (je_if (jt_cmp op_gt (prim_iCmp _) (je_v 1) je_int (nomark _)) (je_op op_mulX (prim_iOpC mulOk_to _) (je_v 3) (je_v 3)) (je_v 3)))))))
      (jss_one (js_ret (je_v 2)))))
theorem sc_do_quarrel : FnScope ["one", "other"] ["one", "other"] (defScope st_do_quarrel) := ⟨rfl, rfl, rfl, by decide +kernel, rfl, by decide +kernel, by decide +kernel⟩
noncomputable def sem_do_quarrel : SM := (sRet (eOp2 (bD neP) (eOp2 modP (eOp2 subP (eOp2 ixP (eVar 0) (eC (.int 0))) (eOp2 ixP (eVar 1) (eC (.int 0)))) (eCall 2 F_common_of (aCons (eOp2 ixP (eVar 0) (eC (.int 1))) (aCons (eOp2 ixP (eVar 1) (eC (.int 1))) aNil)))) (eC (.int 0))))
noncomputable def F_do_quarrel : Fn := runDef 2 2 sem_do_quarrel
theorem ok_do_quarrel (T : Txt K mg base) : DefOk false TabsOf.P TabsOf.w K mg base "do_quarrel" 2 ["one", "other"] F_do_quarrel :=
  defok_mk (k := 1) T.f_do_quarrel sc_do_quarrel (fun _ _ _ _ _ _ us hl => match us, hl with | [_, _], _ => rfl) fun f cdv lc A outer s H E hr tk hp => have am : Amb (cxOf (L2.CX TabsOf.P TabsOf.w) TabsOf.P TabsOf.w K mg base ["one", "other"] "do_quarrel" (defScope st_do_quarrel) f cdv A outer s H E) := ⟨rfl, rfl⟩
    (jss_one (js_ret (je_cmp (op_neD (hu64 hr)) prim_ne (je_op op_mod (prim_iOpC modOk_to _) (je_op op_sub (prim_iOp _) (je_ix (je_v 0) je_int) (je_ix (je_v 1) je_int)) (je_call (ps := ["one", "other"]) (ok_common_of T) (hr.mono (by decide)) tk (ja_cons (je_ix (je_v 0) je_int) (ja_cons (je_ix (je_v 1) je_int) ja_nil)))) je_int (nomark _))))
theorem sc_all_quarrels : FnScope ["facts", "many", "i", "j"] ["facts"] (defScope st_all_quarrels) := ⟨rfl, rfl, rfl, by decide +kernel, rfl, by decide +kernel, by decide +kernel⟩
noncomputable def sem_all_quarrels : SM := (sSeq (sSet 1 (eCB lenP (aCons (eVar 0) aNil)))
  (sRet (eLc2 (iRange1 (aCons (eVar 1) aNil)) (.nm 2) (iRange2 (aCons (eOp2 addP (eVar 2) (eC (.int 1))) (aCons (eVar 1) aNil))) (.nm 3) (eTru (eCall 2 F_do_quarrel (aCons (eOp2 ixP (eVar 0) (eVar 2)) (aCons (eOp2 ixP (eVar 0) (eVar 3)) aNil)))) (eTup (aCons (eVar 2) (aCons (eVar 3) aNil))) [2, 3] (Tg.slots (.nm 3)))))
noncomputable def F_all_quarrels : Fn := runDef 1 4 sem_all_quarrels
theorem ok_all_quarrels (T : Txt K mg base) : DefOk false TabsOf.P TabsOf.w K mg base "all_quarrels" 3 ["facts"] F_all_quarrels :=
  defok_mk (k := 2) T.f_all_quarrels sc_all_quarrels (fun _ _ _ _ _ _ us hl => match us, hl with | [_], _ => rfl) fun f cdv lc A outer s H E hr tk hp => have am : Amb (cxOf (L2.CX TabsOf.P TabsOf.w) TabsOf.P TabsOf.w K mg base ["facts", "many", "i", "j"] "all_quarrels" (defScope st_all_quarrels) f cdv A outer s H E) := ⟨rfl, rfl⟩
    (jss_cons (js_set (i := 1) sc_all_quarrels.nd (je_cb call_len prim_len T.b_len bt_len (ja_cons (je_v 0) ja_nil)))
      (jss_one (js_ret (je_lc2 (own := [("i", 2), ("j", 3)]) (T := (.nm 2)) (T1 := (.nm 3)) sc_all_quarrels.nd (ji_range1 T.b_range (ja_cons (je_v 1) ja_nil)) (by rfl) (fun _ _ _ _ _ => (jg_name sc_all_quarrels.nd)) (fun _ _ _ _ _ => (ji_range2 T.b_range (ja_cons (je_op opr_add prim_add (je_v 2) je_int) (ja_cons (je_v 1) ja_nil)))) (fun _ _ _ _ _ => (jg_name sc_all_quarrels.nd)) (fun _ _ _ _ _ => (jts_one (jt_tru (je_call (ps := ["one", "other"]) (ok_do_quarrel T) (hr.mono (by decide)) takes0 (ja_cons (je_ix (je_v 0) (je_v 2)) (ja_cons (je_ix (je_v 0) (je_v 3)) ja_nil)))))) (fun _ _ _ _ _ => (je_tup (ja_cons (je_v 2) (ja_cons (je_v 3) ja_nil))))))))
theorem sc_least_pair : FnScope ["facts"] ["facts"] (defScope st_least_pair) := ⟨rfl, rfl, rfl, by decide +kernel, rfl, by decide +kernel, by decide +kernel⟩
noncomputable def sem_least_pair : SM := (sRet (eOp2 ixP (eCall 1 F_all_quarrels (aCons (eVar 0) aNil)) (eC (.int 0))))
noncomputable def F_least_pair : Fn := runDef 1 1 sem_least_pair
theorem ok_least_pair (T : Txt K mg base) : DefOk false TabsOf.P TabsOf.w K mg base "least_pair" 4 ["facts"] F_least_pair :=
  defok_mk (k := 3) T.f_least_pair sc_least_pair (fun _ _ _ _ _ _ us hl => match us, hl with | [_], _ => rfl) fun f cdv lc A outer s H E hr tk hp => have am : Amb (cxOf (L2.CX TabsOf.P TabsOf.w) TabsOf.P TabsOf.w K mg base ["facts"] "least_pair" (defScope st_least_pair) f cdv A outer s H E) := ⟨rfl, rfl⟩
    (jss_one (js_ret (je_ix (je_call (ps := ["facts"]) (ok_all_quarrels T) (hr.mono (by decide)) tk (ja_cons (je_v 0) ja_nil)) je_int)))
theorem sc_put_together : FnScope ["one", "other", "same", "steps", "whole"] ["one", "other"] (defScope st_put_together) := ⟨rfl, rfl, rfl, by decide +kernel, rfl, by decide +kernel, by decide +kernel⟩
noncomputable def sem_put_together : SM := (sSeq (sSet 2 (eCall 2 F_common_of (aCons (eOp2 ixP (eVar 0) (eC (.int 1))) (aCons (eOp2 ixP (eVar 1) (eC (.int 1))) aNil))))
  (sSeq (sSet 3 (eOp2 modP (eOp2 mulP (eOp2 divP (eOp2 subP (eOp2 ixP (eVar 1) (eC (.int 0))) (eOp2 ixP (eVar 0) (eC (.int 0)))) (eVar 2)) (eCall 2 F_back_of (aCons (eOp2 divP (eOp2 ixP (eVar 0) (eC (.int 1))) (eVar 2)) (aCons (eOp2 divP (eOp2 ixP (eVar 1) (eC (.int 1))) (eVar 2)) aNil)))) (eOp2 divP (eOp2 ixP (eVar 1) (eC (.int 1))) (eVar 2))))
  (sSeq (sSet 4 (eOp2 mulP (eOp2 divP (eOp2 ixP (eVar 0) (eC (.int 1))) (eVar 2)) (eOp2 ixP (eVar 1) (eC (.int 1)))))
  (sRet (eTup (aCons (eOp2 modP (eOp2 addP (eOp2 ixP (eVar 0) (eC (.int 0))) (eOp2 mulP (eOp2 ixP (eVar 0) (eC (.int 1))) (eVar 3))) (eVar 4)) (aCons (eVar 4) aNil)))))))
noncomputable def F_put_together : Fn := runDef 2 5 sem_put_together
theorem ok_put_together (T : Txt K mg base) : DefOk false TabsOf.P TabsOf.w K mg base "put_together" 3 ["one", "other"] F_put_together :=
  defok_mk (k := 2) T.f_put_together sc_put_together (fun _ _ _ _ _ _ us hl => match us, hl with | [_, _], _ => rfl) fun f cdv lc A outer s H E hr tk hp => have am : Amb (cxOf (L2.CX TabsOf.P TabsOf.w) TabsOf.P TabsOf.w K mg base ["one", "other", "same", "steps", "whole"] "put_together" (defScope st_put_together) f cdv A outer s H E) := ⟨rfl, rfl⟩
    (jss_cons (js_set (i := 2) sc_put_together.nd (je_call (ps := ["one", "other"]) (ok_common_of T) (hr.mono (by decide)) tk (ja_cons (je_ix (je_v 0) je_int) (ja_cons (je_ix (je_v 1) je_int) ja_nil))))
      (jss_cons (js_set (i := 3) sc_put_together.nd (je_op op_mod (prim_iOpC modOk_to _) (je_op op_mulX (prim_iOpC mulOk_to _) (je_op op_fdivW (prim_iOpC divOk_to _) (je_op op_sub (prim_iOp _) (je_ix (je_v 1) je_int) (je_ix (je_v 0) je_int)) (je_v 2)) (je_call (ps := ["number", "base"]) (ok_back_of T) (hr.mono (by decide)) tk (ja_cons (je_op op_fdivW (prim_iOpC divOk_to _) (je_ix (je_v 0) je_int) (je_v 2)) (ja_cons (je_op op_fdivW (prim_iOpC divOk_to _) (je_ix (je_v 1) je_int) (je_v 2)) ja_nil)))) (je_op op_fdivW (prim_iOpC divOk_to _) (je_ix (je_v 1) je_int) (je_v 2))))
      (jss_cons (js_set (i := 4) sc_put_together.nd (je_op op_mulX (prim_iOpC mulOk_to _) (je_op op_fdivW (prim_iOpC divOk_to _) (je_ix (je_v 0) je_int) (je_v 2)) (je_ix (je_v 1) je_int)))
      (jss_one (js_ret (je_tup (ja_cons (je_op op_mod (prim_iOpC modOk_to _) (je_op opr_add prim_add (je_ix (je_v 0) je_int) (je_op op_mulX (prim_iOpC mulOk_to _) (je_ix (je_v 0) je_int) (je_v 3))) (je_v 4)) (ja_cons (je_v 4) ja_nil))))))))
theorem sc_joined_of : FnScope ["facts", "found", "fact"] ["facts"] (defScope st_joined_of) := ⟨rfl, rfl, rfl, by decide +kernel, rfl, by decide +kernel, by decide +kernel⟩
noncomputable def sem_joined_of : SM := (sSeq (sSet 1 (eC (.tup ([0, 1].map Da.int))))
  (sSeq (sFor (iSeq (eVar 0)) (.nm 2) (sSeq (sIf (eTru (eCall 2 F_do_quarrel (aCons (eVar 1) (aCons (eVar 2) aNil)))) (sRet (eC .non)) sNext)
  (sSet 1 (eCall 2 F_put_together (aCons (eVar 1) (aCons (eVar 2) aNil))))))
  (sRet (eVar 1))))
noncomputable def F_joined_of : Fn := runDef 1 3 sem_joined_of
theorem ok_joined_of (T : Txt K mg base) : DefOk false TabsOf.P TabsOf.w K mg base "joined_of" 4 ["facts"] F_joined_of :=
  defok_mk (k := 3) T.f_joined_of sc_joined_of (fun _ _ _ _ _ _ us hl => match us, hl with | [_], _ => rfl) fun f cdv lc A outer s H E hr tk hp => have am : Amb (cxOf (L2.CX TabsOf.P TabsOf.w) TabsOf.P TabsOf.w K mg base ["facts", "found", "fact"] "joined_of" (defScope st_joined_of) f cdv A outer s H E) := ⟨rfl, rfl⟩
    (jss_cons (js_set (i := 1) sc_joined_of.nd (je_gtup T.g_ALL))
      (jss_cons (js_for (T := (.nm 2)) hp (ji_seq (je_v 0)) (jg_name sc_joined_of.nd) (jss_cons (js_if (jt_tru (je_call (ps := ["one", "other"]) (ok_do_quarrel T) (hr.mono (by decide)) tk (ja_cons (je_v 1) (ja_cons (je_v 2) ja_nil)))) (jss_one (js_ret je_non)) jss_nil)
      (jss_one (js_set (i := 1) sc_joined_of.nd (je_call (ps := ["one", "other"]) (ok_put_together T) (hr.mono (by decide)) tk (ja_cons (je_v 1) (ja_cons (je_v 2) ja_nil)))))))
      (jss_one (js_ret (je_v 1)))))
theorem sc_check_joined : FnScope ["facts", "found", "pair"] ["facts"] (defScope st_check_joined) := ⟨rfl, rfl, rfl, by decide +kernel, rfl, by decide +kernel, by decide +kernel⟩
noncomputable def sem_check_joined : SM := (sSeq (sSet 1 (eCall 1 F_joined_of (aCons (eVar 0) aNil)))
  (sSeq (sIf (eOpB isNoneP (eVar 1) (eC .non)) (sSeq (sSet 2 (eCall 1 F_least_pair (aCons (eVar 0) aNil)))
  sBad) sNext)
  (sRet (eVar 1))))
noncomputable def F_check_joined : Fn := runDef 1 3 sem_check_joined
theorem ok_check_joined (T : Txt K mg base) : DefOk false TabsOf.P TabsOf.w K mg base "check_joined" 5 ["facts"] F_check_joined :=
  defok_mk (k := 4) T.f_check_joined sc_check_joined (fun _ _ _ _ _ _ us hl => match us, hl with | [_], _ => rfl) fun f cdv lc A outer s H E hr tk hp => have am : Amb (cxOf (L2.CX TabsOf.P TabsOf.w) TabsOf.P TabsOf.w K mg base ["facts", "found", "pair"] "check_joined" (defScope st_check_joined) f cdv A outer s H E) := ⟨rfl, rfl⟩
    (jss_cons (js_set (i := 1) sc_check_joined.nd (je_call (ps := ["facts"]) (ok_joined_of T) (hr.mono (by decide)) tk (ja_cons (je_v 0) ja_nil)))
      (jss_cons (js_if (jt_cmp op_isN prim_isN (je_v 1) je_non (nomark _)) (jss_cons (js_set (i := 2) sc_check_joined.nd (je_call (ps := ["facts"]) (ok_least_pair T) (hr.mono (by decide)) tk (ja_cons (je_v 0) ja_nil)))
      (jss_one js_never)) jss_nil)
      (jss_one (js_ret (je_v 1)))))
theorem sc_does_fit : FnScope ["fact", "number"] ["fact", "number"] (defScope st_does_fit) := ⟨rfl, rfl, rfl, by decide +kernel, rfl, by decide +kernel, by decide +kernel⟩
noncomputable def sem_does_fit : SM := (sRet (eOp2 (bD eqP) (eOp2 modP (eOp2 subP (eVar 1) (eOp2 ixP (eVar 0) (eC (.int 0)))) (eOp2 ixP (eVar 0) (eC (.int 1)))) (eC (.int 0))))
noncomputable def F_does_fit : Fn := runDef 2 2 sem_does_fit
theorem ok_does_fit (T : Txt K mg base) : DefOk false TabsOf.P TabsOf.w K mg base "does_fit" 1 ["fact", "number"] F_does_fit :=
  defok_mk (k := 0) T.f_does_fit sc_does_fit (fun _ _ _ _ _ _ us hl => match us, hl with | [_, _], _ => rfl) fun f cdv lc A outer s H E hr tk hp => have am : Amb (cxOf (L2.CX TabsOf.P TabsOf.w) TabsOf.P TabsOf.w K mg base ["fact", "number"] "does_fit" (defScope st_does_fit) f cdv A outer s H E) := ⟨rfl, rfl⟩
    (jss_one (js_ret (je_cmp (op_eqD (hu64 hr)) prim_eq (je_op op_mod (prim_iOpC modOk_to _) (je_op op_sub (prim_iOp _) (je_v 1) (je_ix (je_v 0) je_int)) (je_ix (je_v 0) je_int)) je_int (nomark _))))
theorem sc_count_of : FnScope ["fact", "low", "high"] ["fact", "low", "high"] (defScope st_count_of) := ⟨rfl, rfl, rfl, by decide +kernel, rfl, by decide +kernel, by decide +kernel⟩
noncomputable def sem_count_of : SM := (sRet (eOp2 subP (eOp2 divP (eOp2 subP (eVar 2) (eOp2 ixP (eVar 0) (eC (.int 0)))) (eOp2 ixP (eVar 0) (eC (.int 1)))) (eOp2 divP (eOp2 subP (eOp2 subP (eVar 1) (eC (.int 1))) (eOp2 ixP (eVar 0) (eC (.int 0)))) (eOp2 ixP (eVar 0) (eC (.int 1))))))
noncomputable def F_count_of : Fn := runDef 3 3 sem_count_of
theorem ok_count_of (T : Txt K mg base) : DefOk false TabsOf.P TabsOf.w K mg base "count_of" 1 ["fact", "low", "high"] F_count_of :=
  defok_mk (k := 0) T.f_count_of sc_count_of (fun _ _ _ _ _ _ us hl => match us, hl with | [_, _, _], _ => rfl) fun f cdv lc A outer s H E hr tk hp => have am : Amb (cxOf (L2.CX TabsOf.P TabsOf.w) TabsOf.P TabsOf.w K mg base ["fact", "low", "high"] "count_of" (defScope st_count_of) f cdv A outer s H E) := ⟨rfl, rfl⟩
    (jss_one (js_ret (je_op op_sub (prim_iOp _) (je_op op_fdivW (prim_iOpC divOk_to _) (je_op op_sub (prim_iOp _) (je_v 2) (je_ix (je_v 0) je_int)) (je_ix (je_v 0) je_int)) (je_op op_fdivW (prim_iOpC divOk_to _) (je_op op_sub (prim_iOp _) (je_op op_sub (prim_iOp _) (je_v 1) je_int) (je_ix (je_v 0) je_int)) (je_ix (je_v 0) je_int)))))
theorem sc_first_from : FnScope ["fact", "number"] ["fact", "number"] (defScope st_first_from) := ⟨rfl, rfl, rfl, by decide +kernel, rfl, by decide +kernel, by decide +kernel⟩
noncomputable def sem_first_from : SM := (sRet (eOp2 addP (eVar 1) (eOp2 modP (eOp2 subP (eOp2 ixP (eVar 0) (eC (.int 0))) (eVar 1)) (eOp2 ixP (eVar 0) (eC (.int 1))))))
noncomputable def F_first_from : Fn := runDef 2 2 sem_first_from
theorem ok_first_from (T : Txt K mg base) : DefOk false TabsOf.P TabsOf.w K mg base "first_from" 1 ["fact", "number"] F_first_from :=
  defok_mk (k := 0) T.f_first_from sc_first_from (fun _ _ _ _ _ _ us hl => match us, hl with | [_, _], _ => rfl) fun f cdv lc A outer s H E hr tk hp => have am : Amb (cxOf (L2.CX TabsOf.P TabsOf.w) TabsOf.P TabsOf.w K mg base ["fact", "number"] "first_from" (defScope st_first_from) f cdv A outer s H E) := ⟨rfl, rfl⟩
    (jss_one (js_ret (je_op opr_add prim_add (je_v 1) (je_op op_mod (prim_iOpC modOk_to _) (je_op op_sub (prim_iOp _) (je_ix (je_v 0) je_int) (je_v 1)) (je_ix (je_v 0) je_int)))))
theorem sc_quarrels : FnScope ["facts"] ["facts"] (defScope st_quarrels) := ⟨rfl, rfl, rfl, by decide +kernel, rfl, by decide +kernel, by decide +kernel⟩
noncomputable def sem_quarrels : SM := (sSeq (sDrop (eCall 1 F_check_facts (aCons (eVar 0) aNil)))
  (sRet (eCB tupleP (aCons (eCall 1 F_all_quarrels (aCons (eVar 0) aNil)) aNil))))
noncomputable def F_quarrels : Fn := runDef 1 1 sem_quarrels
theorem ok_quarrels (T : Txt K mg base) : DefOk false TabsOf.P TabsOf.w K mg base "quarrels" 6 ["facts"] F_quarrels :=
  defok_mk (k := 5) T.f_quarrels sc_quarrels (fun _ _ _ _ _ _ us hl => match us, hl with | [_], _ => rfl) fun f cdv lc A outer s H E hr tk hp => have am : Amb (cxOf (L2.CX TabsOf.P TabsOf.w) TabsOf.P TabsOf.w K mg base ["facts"] "quarrels" (defScope st_quarrels) f cdv A outer s H E) := ⟨rfl, rfl⟩
    (jss_cons (js_expr (je_call (ps := ["value"]) (ok_check_facts T) (hr.mono (by decide)) tk (ja_cons (je_v 0) ja_nil)))
      (jss_one (js_ret (je_ct call_tuple_of prim_tuple T.b_tuple bt_tuple (ja_cons (je_call (ps := ["facts"]) (ok_all_quarrels T) (hr.mono (by decide)) tk (ja_cons (je_v 0) ja_nil)) ja_nil)))))
theorem sc_count : FnScope ["facts", "low", "high"] ["facts", "low", "high"] (defScope st_count) := ⟨rfl, rfl, rfl, by decide +kernel, rfl, by decide +kernel, by decide +kernel⟩
noncomputable def sem_count : SM := (sSeq (sDrop (eCall 1 F_check_facts (aCons (eVar 0) aNil)))
  (sSeq (sDrop (eCall 2 F_check_span (aCons (eVar 1) (aCons (eVar 2) aNil))))
  (sRet (eCall 3 F_count_of (aCons (eCall 1 F_check_joined (aCons (eVar 0) aNil)) (aCons (eVar 1) (aCons (eVar 2) aNil)))))))
noncomputable def F_count : Fn := runDef 3 3 sem_count
theorem ok_count (T : Txt K mg base) : DefOk false TabsOf.P TabsOf.w K mg base "count" 6 ["facts", "low", "high"] F_count :=
  defok_mk (k := 5) T.f_count sc_count (fun _ _ _ _ _ _ us hl => match us, hl with | [_, _, _], _ => rfl) fun f cdv lc A outer s H E hr tk hp => have am : Amb (cxOf (L2.CX TabsOf.P TabsOf.w) TabsOf.P TabsOf.w K mg base ["facts", "low", "high"] "count" (defScope st_count) f cdv A outer s H E) := ⟨rfl, rfl⟩
    (jss_cons (js_expr (je_call (ps := ["value"]) (ok_check_facts T) (hr.mono (by decide)) tk (ja_cons (je_v 0) ja_nil)))
      (jss_cons (js_expr (je_call (ps := ["low", "high"]) (ok_check_span T) (hr.mono (by decide)) tk (ja_cons (je_v 1) (ja_cons (je_v 2) ja_nil))))
      (jss_one (js_ret (je_call (ps := ["fact", "low", "high"]) (ok_count_of T) (hr.mono (by decide)) tk (ja_cons (je_call (ps := ["facts"]) (ok_check_joined T) (hr.mono (by decide)) tk (ja_cons (je_v 0) ja_nil)) (ja_cons (je_v 1) (ja_cons (je_v 2) ja_nil))))))))
theorem sc_nth : FnScope ["facts", "low", "index", "whole"] ["facts", "low", "index"] (defScope st_nth) := ⟨rfl, rfl, rfl, by decide +kernel, rfl, by decide +kernel, by decide +kernel⟩
noncomputable def sem_nth : SM := (sSeq (sDrop (eCall 1 F_check_facts (aCons (eVar 0) aNil)))
  (sSeq (sDrop (eCall 1 F_check_number (aCons (eVar 1) aNil)))
  (sSeq (sDrop (eCall 1 F_check_index (aCons (eVar 2) aNil)))
  (sSeq (sSet 3 (eCall 1 F_check_joined (aCons (eVar 0) aNil)))
  (sRet (eOp2 addP (eCall 2 F_first_from (aCons (eVar 3) (aCons (eVar 1) aNil))) (eOp2 mulP (eVar 2) (eOp2 ixP (eVar 3) (eC (.int 1))))))))))
noncomputable def F_nth : Fn := runDef 3 4 sem_nth
theorem ok_nth (T : Txt K mg base) : DefOk false TabsOf.P TabsOf.w K mg base "nth" 6 ["facts", "low", "index"] F_nth :=
  defok_mk (k := 5) T.f_nth sc_nth (fun _ _ _ _ _ _ us hl => match us, hl with | [_, _, _], _ => rfl) fun f cdv lc A outer s H E hr tk hp => have am : Amb (cxOf (L2.CX TabsOf.P TabsOf.w) TabsOf.P TabsOf.w K mg base ["facts", "low", "index", "whole"] "nth" (defScope st_nth) f cdv A outer s H E) := ⟨rfl, rfl⟩
    (jss_cons (js_expr (je_call (ps := ["value"]) (ok_check_facts T) (hr.mono (by decide)) tk (ja_cons (je_v 0) ja_nil)))
      (jss_cons (js_expr (je_call (ps := ["value"]) (ok_check_number T) (hr.mono (by decide)) tk (ja_cons (je_v 1) ja_nil)))
      (jss_cons (js_expr (je_call (ps := ["value"]) (ok_check_index T) (hr.mono (by decide)) tk (ja_cons (je_v 2) ja_nil)))
      (jss_cons (js_set (i := 3) sc_nth.nd (je_call (ps := ["facts"]) (ok_check_joined T) (hr.mono (by decide)) tk (ja_cons (je_v 0) ja_nil)))
      (jss_one (js_ret (je_op opr_add prim_add (je_call (ps := ["fact", "number"]) (ok_first_from T) (hr.mono (by decide)) tk (ja_cons (je_v 3) (ja_cons (je_v 1) ja_nil))) (je_op op_mulX (prim_iOpC mulOk_to _) (je_v 2) (je_ix (je_v 3) je_int)))))))))
theorem sc_with_fact : FnScope ["weights", "fact", "found", "known", "weight", "whole"] ["weights", "fact"] (defScope st_with_fact) := ⟨rfl, rfl, rfl, by decide +kernel, rfl, by decide +kernel, by decide +kernel⟩
noncomputable def sem_with_fact : SM := (sSeq (sSet 2 eDctN)
  (sSeq (sFor (iItems (eVar 0)) (.tup [3, 4]) (sIf (eNotT (eTru (eCall 2 F_do_quarrel (aCons (eVar 3) (aCons (eVar 1) aNil))))) (sSeq (sSet 5 (eCall 2 F_put_together (aCons (eVar 3) (aCons (eVar 1) aNil))))
  (sDput (eOp2 addP (eGet2 (eVar 2) (eVar 5) (eC (.int 0))) (eVar 4)) (eVar 2) (eVar 5))) sNext))
  (sRet (eVar 2))))
noncomputable def F_with_fact : Fn := runDef 2 6 sem_with_fact
theorem ok_with_fact (T : Txt K mg base) : DefOk false TabsOf.P TabsOf.w K mg base "with_fact" 4 ["weights", "fact"] F_with_fact :=
  defok_mk (k := 3) T.f_with_fact sc_with_fact (fun _ _ _ _ _ _ us hl => match us, hl with | [_, _], _ => rfl) fun f cdv lc A outer s H E hr tk hp => have am : Amb (cxOf (L2.CX TabsOf.P TabsOf.w) TabsOf.P TabsOf.w K mg base ["weights", "fact", "found", "known", "weight", "whole"] "with_fact" (defScope st_with_fact) f cdv A outer s H E) := ⟨rfl, rfl⟩
    (jss_cons (js_set (i := 2) sc_with_fact.nd (je_dctN am))
      (jss_cons (js_for (T := (.tup [3, 4])) hp (ji_items am (je_v 0)) (jg_tup rfl (jgs_cons sc_with_fact.nd (jgs_cons sc_with_fact.nd jgs_nil))) (jss_one (js_if (jt_not (jt_tru (je_call (ps := ["one", "other"]) (ok_do_quarrel T) (hr.mono (by decide)) tk (ja_cons (je_v 3) (ja_cons (je_v 1) ja_nil))))) (jss_cons (js_set (i := 5) sc_with_fact.nd (je_call (ps := ["one", "other"]) (ok_put_together T) (hr.mono (by decide)) tk (ja_cons (je_v 3) (ja_cons (je_v 1) ja_nil))))
      (jss_one (js_dput am (hu1 hr) (je_op opr_add prim_add (je_get2 am (hu1 hr) (je_v 2) (je_v 5) je_int) (je_v 4)) (je_v 2) (je_v 5)))) jss_nil)))
      (jss_one (js_ret (je_v 2)))))
theorem sc_without_fact : FnScope ["weights", "fact", "found", "known", "weight"] ["weights", "fact"] (defScope st_without_fact) := ⟨rfl, rfl, rfl, by decide +kernel, rfl, by decide +kernel, by decide +kernel⟩
noncomputable def sem_without_fact : SM := (sSeq (sSet 2 (eDcopyN (eVar 0)))
  (sSeq (sFor (iItems (eCall 2 F_with_fact (aCons (eVar 0) (aCons (eVar 1) aNil)))) (.tup [3, 4]) (sDput (eOp2 subP (eGet2 (eVar 2) (eVar 3) (eC (.int 0))) (eVar 4)) (eVar 2) (eVar 3)))
  (sRet (eDc (iItems (eTake (eVar 2))) (.tup [3, 4]) (eOpB neP (eVar 4) (eC (.int 0))) (eVar 3) (eVar 4) [3, 4]))))
noncomputable def F_without_fact : Fn := runDef 2 5 sem_without_fact
theorem ok_without_fact (T : Txt K mg base) : DefOk false TabsOf.P TabsOf.w K mg base "without_fact" 5 ["weights", "fact"] F_without_fact :=
  defok_mk (k := 4) T.f_without_fact sc_without_fact (fun _ _ _ _ _ _ us hl => match us, hl with | [_, _], _ => rfl) fun f cdv lc A outer s H E hr tk hp => have am : Amb (cxOf (L2.CX TabsOf.P TabsOf.w) TabsOf.P TabsOf.w K mg base ["weights", "fact", "found", "known", "weight"] "without_fact" (defScope st_without_fact) f cdv A outer s H E) := ⟨rfl, rfl⟩
    (jss_cons (js_set (i := 2) sc_without_fact.nd (je_copyN am (hu3 hr) T.b_dict bt_dict (je_v 0)))
      (jss_cons (js_for (T := (.tup [3, 4])) hp (ji_items am (je_call (ps := ["weights", "fact"]) (ok_with_fact T) (hr.mono (by decide)) tk (ja_cons (je_v 0) (ja_cons (je_v 1) ja_nil)))) (jg_tup rfl (jgs_cons sc_without_fact.nd (jgs_cons sc_without_fact.nd jgs_nil))) (jss_one (js_dput am (hu1 hr) (je_op op_sub (prim_iOp _) (je_get2 am (hu1 hr) (je_v 2) (je_v 3) je_int) (je_v 4)) (je_v 2) (je_v 3))))
      (jss_one (js_ret (je_dc (own := [("known", 3), ("weight", 4)]) (T := (.tup [3, 4])) am (hu0 hr) sc_without_fact.nd (ji_items am (je_take (je_v 2))) (by rfl) (fun _ _ _ _ _ => (jg_tup rfl (jgs_cons sc_without_fact.nd (jgs_cons sc_without_fact.nd jgs_nil)))) (fun _ _ _ _ _ => (jts_one (jt_cmp (op_neD (hu64 hr)) prim_ne (je_v 4) je_int (nomark _)))) (fun _ _ _ _ _ => (je_v 3)) (fun _ _ _ _ _ => (je_v 4)))))))
theorem sc_count_weighed : FnScope ["weights", "low", "high", "fact", "weight"] ["weights", "low", "high"] (defScope st_count_weighed) := ⟨rfl, rfl, rfl, by decide +kernel, rfl, by decide +kernel, by decide +kernel⟩
noncomputable def sem_count_weighed : SM := (sRet (eCB sumP (aCons (eLc (iItems (eVar 0)) (.tup [3, 4]) eYes (eOp2 mulP (eVar 4) (eCall 3 F_count_of (aCons (eVar 3) (aCons (eVar 1) (aCons (eVar 2) aNil))))) [3, 4]) aNil)))
noncomputable def F_count_weighed : Fn := runDef 3 5 sem_count_weighed
theorem ok_count_weighed (T : Txt K mg base) : DefOk false TabsOf.P TabsOf.w K mg base "count_weighed" 2 ["weights", "low", "high"] F_count_weighed :=
  defok_mk (k := 1) T.f_count_weighed sc_count_weighed (fun _ _ _ _ _ _ us hl => match us, hl with | [_, _, _], _ => rfl) fun f cdv lc A outer s H E hr tk hp => have am : Amb (cxOf (L2.CX TabsOf.P TabsOf.w) TabsOf.P TabsOf.w K mg base ["weights", "low", "high", "fact", "weight"] "count_weighed" (defScope st_count_weighed) f cdv A outer s H E) := ⟨rfl, rfl⟩
    (jss_one (js_ret (je_cb (cr_sum rfl) prim_sum T.b_sum bt_sum (ja_cons (je_lc (own := [("fact", 3), ("weight", 4)]) (T := (.tup [3, 4])) sc_count_weighed.nd (ji_items am (je_v 0)) (by rfl) (fun _ _ _ _ _ => (jg_tup rfl (jgs_cons sc_count_weighed.nd (jgs_cons sc_count_weighed.nd jgs_nil)))) (fun _ _ _ _ _ => jts_nil) (fun _ _ _ _ _ => (je_op op_mulX (prim_iOpC mulOk_to _) (je_v 4) (je_call (ps := ["fact", "low", "high"]) (ok_count_of T) (hr.mono (by decide)) takes0 (ja_cons (je_v 3) (ja_cons (je_v 1) (ja_cons (je_v 2) ja_nil))))))) ja_nil))))
theorem sc_is_ask : FnScope ["value"] ["value"] (defScope st_is_ask) := ⟨rfl, rfl, rfl, by decide +kernel, rfl, by decide +kernel, by decide +kernel⟩
noncomputable def sem_is_ask : SM := (sRet (eAndV (eCB isiP (aCons (eVar 0) (aCons (eC (.ty "tuple")) aNil))) (eAndV (eOp2 (bD eqP) (eCB lenP (aCons (eVar 0) aNil)) (eC (.int 3))) (eAndV (eCB isiP (aCons (eOp2 ixP (eVar 0) (eC (.int 2))) (aCons (eC (.ty "bool")) aNil))) (eCall 1 F_is_fact (aCons (eSl (eVar 0) oNone (oSome (eC (.int 2)))) aNil))))))
noncomputable def F_is_ask : Fn := runDef 1 1 sem_is_ask
theorem ok_is_ask (T : Txt K mg base) : DefOk false TabsOf.P TabsOf.w K mg base "is_ask" 4 ["value"] F_is_ask :=
  defok_mk (k := 3) T.f_is_ask sc_is_ask (fun _ _ _ _ _ _ us hl => match us, hl with | [_], _ => rfl) fun f cdv lc A outer s H E hr tk hp => have am : Amb (cxOf (L2.CX TabsOf.P TabsOf.w) TabsOf.P TabsOf.w K mg base ["value"] "is_ask" (defScope st_is_ask) f cdv A outer s H E) := ⟨rfl, rfl⟩
    (jss_one (js_ret (je_and (je_cb call_isi prim_isi T.b_isinstance bt_isinstance (ja_cons (je_v 0) (ja_cons (je_ty T.b_tuple bt_tuple) ja_nil))) (je_and (je_cmp (op_eqD (hu64 hr)) prim_eq (je_cb call_len prim_len T.b_len bt_len (ja_cons (je_v 0) ja_nil)) je_int (nomark _)) (je_and (je_cb call_isi prim_isi T.b_isinstance bt_isinstance (ja_cons (je_ix (je_v 0) je_int) (ja_cons (je_ty T.b_bool bt_bool) ja_nil))) (je_one (je_call (ps := ["value"]) (ok_is_fact T) (hr.mono (by decide)) tk (ja_cons (je_sl (je_v 0) jo_none (jo_some je_int)) ja_nil))))))))
theorem sc_asks_fault : FnScope ["value", "wrong", "index", "ask"] ["value"] (defScope st_asks_fault) := ⟨rfl, rfl, rfl, by decide +kernel, rfl, by decide +kernel, by decide +kernel⟩
noncomputable def sem_asks_fault : SM := (sSeq (sIf (eNotT (eTru (eCB isiP (aCons (eVar 0) (aCons (eC (.ty "tuple")) aNil))))) (sRet (eC .non)) sNext)
  (sSeq (sSet 1 (eC (.int 0)))
  (sSeq (sFor (iEnum (aCons (eVar 0) aNil)) (.tup [2, 3]) (sSeq (sIf (eOrT (eOpB eqP (eVar 2) (eC (.int 40))) (eNotT (eTru (eCall 1 F_is_ask (aCons (eVar 3) aNil))))) (sRet (eVar 2)) sNext)
  (sSeq (sSet 1 (eOp2 addP (eVar 1) (eCB intP (aCons (eNotV (eOp2 ixP (eVar 3) (eC (.int 2)))) aNil))))
  (sIf (eOpB gtP (eVar 1) (eC (.int 12))) (sRet (eVar 2)) sNext))))
  (sRet (eNeg (eC (.int 1)))))))
noncomputable def F_asks_fault : Fn := runDef 1 4 sem_asks_fault
theorem ok_asks_fault (T : Txt K mg base) : DefOk false TabsOf.P TabsOf.w K mg base "asks_fault" 5 ["value"] F_asks_fault :=
  defok_mk (k := 4) T.f_asks_fault sc_asks_fault (fun _ _ _ _ _ _ us hl => match us, hl with | [_], _ => rfl) fun f cdv lc A outer s H E hr tk hp => have am : Amb (cxOf (L2.CX TabsOf.P TabsOf.w) TabsOf.P TabsOf.w K mg base ["value", "wrong", "index", "ask"] "asks_fault" (defScope st_asks_fault) f cdv A outer s H E) := ⟨rfl, rfl⟩
    (jss_cons (js_if (jt_not (jt_tru (je_cb call_isi prim_isi T.b_isinstance bt_isinstance (ja_cons (je_v 0) (ja_cons (je_ty T.b_tuple bt_tuple) ja_nil))))) (jss_one (js_ret je_non)) jss_nil)
      (jss_cons (js_set (i := 1) sc_asks_fault.nd je_int)
      (jss_cons (js_for (T := (.tup [2, 3])) hp (ji_enum T.b_enumerate (ja_cons (je_v 0) ja_nil)) (jg_tup rfl (jgs_cons sc_asks_fault.nd (jgs_cons sc_asks_fault.nd jgs_nil))) (jss_cons (js_if (jt_w (jw_or (jt_cmp (op_eqD (hu64 hr)) prim_eq (je_v 2) (je_gi T.g_MOST_FACTS) (nomark _)) (jw_or1 (jt_not (jt_tru (je_call (ps := ["value"]) (ok_is_ask T) (hr.mono (by decide)) tk (ja_cons (je_v 3) ja_nil))))))) (jss_one (js_ret (je_v 2))) jss_nil)
      (jss_cons (js_set (i := 1) sc_asks_fault.nd (je_op opr_add prim_add (je_v 1) (je_ct call_int1 prim_int T.b_int bt_int (ja_cons (je_not (je_ix (je_v 3) je_int)) ja_nil))))
      (jss_one (js_if (jt_cmp op_gt (prim_iCmp _) (je_v 1) (je_gi T.g_MOST_FALSE) (nomark _)) (jss_one (js_ret (je_v 2))) jss_nil)))))
      (jss_one (js_ret (je_neg je_int))))))
theorem sc_check_asks : FnScope ["value", "fault"] ["value"] (defScope st_check_asks) := ⟨rfl, rfl, rfl, by decide +kernel, rfl, by decide +kernel, by decide +kernel⟩
noncomputable def sem_check_asks : SM := (sSeq (sSet 1 (eCall 1 F_asks_fault (aCons (eVar 0) aNil)))
  (sIf (eOpB neP (eVar 1) (eNeg (eC (.int 1)))) sBad sNext))
noncomputable def F_check_asks : Fn := runDef 1 2 sem_check_asks
theorem ok_check_asks (T : Txt K mg base) : DefOk false TabsOf.P TabsOf.w K mg base "check_asks" 6 ["value"] F_check_asks :=
  defok_mk (k := 5) T.f_check_asks sc_check_asks (fun _ _ _ _ _ _ us hl => match us, hl with | [_], _ => rfl) fun f cdv lc A outer s H E hr tk hp => have am : Amb (cxOf (L2.CX TabsOf.P TabsOf.w) TabsOf.P TabsOf.w K mg base ["value", "fault"] "check_asks" (defScope st_check_asks) f cdv A outer s H E) := ⟨rfl, rfl⟩
    (jss_cons (js_set (i := 1) sc_check_asks.nd (je_call (ps := ["value"]) (ok_asks_fault T) (hr.mono (by decide)) tk (ja_cons (je_v 0) ja_nil)))
      (jss_one (js_if (jt_cmp (op_neD (hu64 hr)) prim_ne (je_v 1) (je_neg je_int) (nomark _)) (jss_one js_never) jss_nil)))
theorem sc_check_looked : FnScope ["asks", "low", "high"] ["asks", "low", "high"] (defScope st_check_looked) := ⟨rfl, rfl, rfl, by decide +kernel, rfl, by decide +kernel, by decide +kernel⟩
noncomputable def sem_check_looked : SM := (sSeq (sDrop (eCall 1 F_check_asks (aCons (eVar 0) aNil)))
  (sDrop (eCall 2 F_check_span (aCons (eVar 1) (aCons (eVar 2) aNil)))))
noncomputable def F_check_looked : Fn := runDef 3 3 sem_check_looked
theorem ok_check_looked (T : Txt K mg base) : DefOk false TabsOf.P TabsOf.w K mg base "check_looked" 7 ["asks", "low", "high"] F_check_looked :=
  defok_mk (k := 6) T.f_check_looked sc_check_looked (fun _ _ _ _ _ _ us hl => match us, hl with | [_, _, _], _ => rfl) fun f cdv lc A outer s H E hr tk hp => have am : Amb (cxOf (L2.CX TabsOf.P TabsOf.w) TabsOf.P TabsOf.w K mg base ["asks", "low", "high"] "check_looked" (defScope st_check_looked) f cdv A outer s H E) := ⟨rfl, rfl⟩
    (jss_cons (js_expr (je_call (ps := ["value"]) (ok_check_asks T) (hr.mono (by decide)) tk (ja_cons (je_v 0) ja_nil)))
      (jss_one (js_expr (je_call (ps := ["low", "high"]) (ok_check_span T) (hr.mono (by decide)) tk (ja_cons (je_v 1) (ja_cons (je_v 2) ja_nil))))))
theorem sc_weighed : FnScope ["asks", "whole", "found", "ask"] ["asks"] (defScope st_weighed) := ⟨rfl, rfl, rfl, by decide +kernel, rfl, by decide +kernel, by decide +kernel⟩
noncomputable def sem_weighed : SM := (sSeq (sSet 1 (eCall 1 F_joined_of (aCons (eLc (iSeq (eVar 0)) (.nm 3) (eTru (eOp2 ixP (eVar 3) (eC (.int 2)))) (eSl (eVar 3) oNone (oSome (eC (.int 2)))) [3]) aNil)))
  (sSeq (sSet 2 (eIf (eOpB isNoneP (eVar 1) (eC .non)) eDct0 (eDct1 (eVar 1) (eC (.int 1)))))
  (sSeq (sFor (iSeq (eVar 0)) (.nm 3) (sIf (eNotT (eTru (eOp2 ixP (eVar 3) (eC (.int 2))))) (sSet 2 (eCall 2 F_without_fact (aCons (eVar 2) (aCons (eSl (eVar 3) oNone (oSome (eC (.int 2)))) aNil)))) sNext))
  (sRet (eVar 2)))))
noncomputable def F_weighed : Fn := runDef 1 4 sem_weighed
theorem ok_weighed (T : Txt K mg base) : DefOk false TabsOf.P TabsOf.w K mg base "weighed" 6 ["asks"] F_weighed :=
  defok_mk (k := 5) T.f_weighed sc_weighed (fun _ _ _ _ _ _ us hl => match us, hl with | [_], _ => rfl) fun f cdv lc A outer s H E hr tk hp => have am : Amb (cxOf (L2.CX TabsOf.P TabsOf.w) TabsOf.P TabsOf.w K mg base ["asks", "whole", "found", "ask"] "weighed" (defScope st_weighed) f cdv A outer s H E) := ⟨rfl, rfl⟩
    (jss_cons (js_set (i := 1) sc_weighed.nd (je_call (ps := ["facts"]) (ok_joined_of T) (hr.mono (by decide)) tk (ja_cons (je_lc (own := [("ask", 3)]) (T := (.nm 3)) sc_weighed.nd (ji_seq (je_v 0)) (by rfl) (fun _ _ _ _ _ => (jg_name sc_weighed.nd)) (fun _ _ _ _ _ => (jts_one (jt_tru (je_ix (je_v 3) je_int)))) (fun _ _ _ _ _ => (je_sl (je_v 3) jo_none (jo_some je_int)))) ja_nil)))
      (jss_cons (js_set (i := 2) sc_weighed.nd (je_if (jt_cmp op_isN prim_isN (je_v 1) je_non (nomark _)) (je_dct0 am) (je_dct1 am (hu0 hr) (je_v 1) je_int)))
      (jss_cons (js_for (T := (.nm 3)) hp (ji_seq (je_v 0)) (jg_name sc_weighed.nd) (jss_one (js_if (jt_not (jt_tru (je_ix (je_v 3) je_int))) (jss_one (js_set (i := 2) sc_weighed.nd (je_call (ps := ["weights", "fact"]) (ok_without_fact T) (hr.mono (by decide)) tk (ja_cons (je_v 2) (ja_cons (je_sl (je_v 3) jo_none (jo_some je_int)) ja_nil))))) jss_nil)))
      (jss_one (js_ret (je_v 2))))))
theorem sc_place_weighed : FnScope ["weights", "low", "high", "index", "first", "last", "middle"] ["weights", "low", "high", "index"] (defScope st_place_weighed) := ⟨rfl, rfl, rfl, by decide +kernel, rfl, by decide +kernel, by decide +kernel⟩
noncomputable def sem_place_weighed : SM := (sSeq (sPar 4 5 (aCons (eVar 1) (aCons (eVar 2) aNil)))
  (sSeq (sWhile (eOpB ltP (eVar 4) (eVar 5)) (sSeq (sSet 6 (eOp2 divP (eOp2 addP (eVar 4) (eVar 5)) (eC (.int 2))))
  (sIf (eOpB gtP (eCall 3 F_count_weighed (aCons (eVar 0) (aCons (eVar 1) (aCons (eVar 6) aNil)))) (eVar 3)) (sSet 5 (eVar 6)) (sSet 4 (eOp2 addP (eVar 6) (eC (.int 1)))))))
  (sRet (eVar 4))))
noncomputable def F_place_weighed : Fn := runDef 4 7 sem_place_weighed
theorem ok_place_weighed (T : Txt K mg base) : DefOk false TabsOf.P TabsOf.w K mg base "place_weighed" 3 ["weights", "low", "high", "index"] F_place_weighed :=
  defok_mk (k := 2) T.f_place_weighed sc_place_weighed (fun _ _ _ _ _ _ us hl => match us, hl with | [_, _, _, _], _ => rfl) fun f cdv lc A outer s H E hr tk hp => have am : Amb (cxOf (L2.CX TabsOf.P TabsOf.w) TabsOf.P TabsOf.w K mg base ["weights", "low", "high", "index", "first", "last", "middle"] "place_weighed" (defScope st_place_weighed) f cdv A outer s H E) := ⟨rfl, rfl⟩
    (jss_cons (js_par (i := 4) (j := 5) sc_place_weighed.nd (by decide) (ja_cons (je_v 1) (ja_cons (je_v 2) ja_nil)) (by rfl))
      (jss_cons (js_while hp (jt_cmp op_lt (prim_iCmp _) (je_v 4) (je_v 5) (nomark _)) (jss_cons (js_set (i := 6) sc_place_weighed.nd (je_op op_fdivW (prim_iOpC divOk_to _) (je_op opr_add prim_add (je_v 4) (je_v 5)) je_int))
      (jss_one (js_if (jt_cmp op_gt (prim_iCmp _) (je_call (ps := ["weights", "low", "high"]) (ok_count_weighed T) (hr.mono (by decide)) tk (ja_cons (je_v 0) (ja_cons (je_v 1) (ja_cons (je_v 6) ja_nil)))) (je_v 3) (nomark _)) (jss_one (js_set (i := 5) sc_place_weighed.nd (je_v 6))) (jss_one (js_set (i := 4) sc_place_weighed.nd (je_op opr_add prim_add (je_v 6) je_int)))))))
      (jss_one (js_ret (je_v 4)))))
theorem sc_check_left : FnScope ["weights", "low", "high", "many"] ["weights", "low", "high"] (defScope st_check_left) := ⟨rfl, rfl, rfl, by decide +kernel, rfl, by decide +kernel, by decide +kernel⟩
noncomputable def sem_check_left : SM := (sSeq (sSet 3 (eCall 3 F_count_weighed (aCons (eVar 0) (aCons (eVar 1) (aCons (eVar 2) aNil)))))
  (sSeq (sIf (eOpB eqP (eVar 3) (eC (.int 0))) (sRaise0 "NoNumber") sNext)
  (sRet (eVar 3))))
noncomputable def F_check_left : Fn := runDef 3 4 sem_check_left
theorem ok_check_left (T : Txt K mg base) : DefOk false TabsOf.P TabsOf.w K mg base "check_left" 3 ["weights", "low", "high"] F_check_left :=
  defok_mk (k := 2) T.f_check_left sc_check_left (fun _ _ _ _ _ _ us hl => match us, hl with | [_, _, _], _ => rfl) fun f cdv lc A outer s H E hr tk hp => have am : Amb (cxOf (L2.CX TabsOf.P TabsOf.w) TabsOf.P TabsOf.w K mg base ["weights", "low", "high", "many"] "check_left" (defScope st_check_left) f cdv A outer s H E) := ⟨rfl, rfl⟩
    (jss_cons (js_set (i := 3) sc_check_left.nd (je_call (ps := ["weights", "low", "high"]) (ok_count_weighed T) (hr.mono (by decide)) tk (ja_cons (je_v 0) (ja_cons (je_v 1) (ja_cons (je_v 2) ja_nil)))))
      (jss_cons (js_if (jt_cmp (op_eqD (hu64 hr)) prim_eq (je_v 3) je_int (nomark _)) (jss_one (js_raise0 PySem.F.excBase_ArithmeticError T.e_NoNumber tk)) jss_nil)
      (jss_one (js_ret (je_v 3)))))
theorem sc_count_left : FnScope ["asks", "low", "high"] ["asks", "low", "high"] (defScope st_count_left) := ⟨rfl, rfl, rfl, by decide +kernel, rfl, by decide +kernel, by decide +kernel⟩
noncomputable def sem_count_left : SM := (sSeq (sDrop (eCall 3 F_check_looked (aCons (eVar 0) (aCons (eVar 1) (aCons (eVar 2) aNil)))))
  (sRet (eCall 3 F_count_weighed (aCons (eCall 1 F_weighed (aCons (eVar 0) aNil)) (aCons (eVar 1) (aCons (eVar 2) aNil))))))
noncomputable def F_count_left : Fn := runDef 3 3 sem_count_left
theorem ok_count_left (T : Txt K mg base) : DefOk false TabsOf.P TabsOf.w K mg base "count_left" 8 ["asks", "low", "high"] F_count_left :=
  defok_mk (k := 7) T.f_count_left sc_count_left (fun _ _ _ _ _ _ us hl => match us, hl with | [_, _, _], _ => rfl) fun f cdv lc A outer s H E hr tk hp => have am : Amb (cxOf (L2.CX TabsOf.P TabsOf.w) TabsOf.P TabsOf.w K mg base ["asks", "low", "high"] "count_left" (defScope st_count_left) f cdv A outer s H E) := ⟨rfl, rfl⟩
    (jss_cons (js_expr (je_call (ps := ["asks", "low", "high"]) (ok_check_looked T) (hr.mono (by decide)) tk (ja_cons (je_v 0) (ja_cons (je_v 1) (ja_cons (je_v 2) ja_nil)))))
      (jss_one (js_ret (je_call (ps := ["weights", "low", "high"]) (ok_count_weighed T) (hr.mono (by decide)) tk (ja_cons (je_call (ps := ["asks"]) (ok_weighed T) (hr.mono (by decide)) tk (ja_cons (je_v 0) ja_nil)) (ja_cons (je_v 1) (ja_cons (je_v 2) ja_nil)))))))
theorem sc_least_left : FnScope ["asks", "low", "high", "weights"] ["asks", "low", "high"] (defScope st_least_left) := ⟨rfl, rfl, rfl, by decide +kernel, rfl, by decide +kernel, by decide +kernel⟩
noncomputable def sem_least_left : SM := (sSeq (sDrop (eCall 3 F_check_looked (aCons (eVar 0) (aCons (eVar 1) (aCons (eVar 2) aNil)))))
  (sSeq (sSet 3 (eCall 1 F_weighed (aCons (eVar 0) aNil)))
  (sSeq (sDrop (eCall 3 F_check_left (aCons (eVar 3) (aCons (eVar 1) (aCons (eVar 2) aNil)))))
  (sRet (eCall 4 F_place_weighed (aCons (eVar 3) (aCons (eVar 1) (aCons (eVar 2) (aCons (eC (.int 0)) aNil)))))))))
noncomputable def F_least_left : Fn := runDef 3 4 sem_least_left
theorem ok_least_left (T : Txt K mg base) : DefOk false TabsOf.P TabsOf.w K mg base "least_left" 8 ["asks", "low", "high"] F_least_left :=
  defok_mk (k := 7) T.f_least_left sc_least_left (fun _ _ _ _ _ _ us hl => match us, hl with | [_, _, _], _ => rfl) fun f cdv lc A outer s H E hr tk hp => have am : Amb (cxOf (L2.CX TabsOf.P TabsOf.w) TabsOf.P TabsOf.w K mg base ["asks", "low", "high", "weights"] "least_left" (defScope st_least_left) f cdv A outer s H E) := ⟨rfl, rfl⟩
    (jss_cons (js_expr (je_call (ps := ["asks", "low", "high"]) (ok_check_looked T) (hr.mono (by decide)) tk (ja_cons (je_v 0) (ja_cons (je_v 1) (ja_cons (je_v 2) ja_nil)))))
      (jss_cons (js_set (i := 3) sc_least_left.nd (je_call (ps := ["asks"]) (ok_weighed T) (hr.mono (by decide)) tk (ja_cons (je_v 0) ja_nil)))
      (jss_cons (js_expr (je_call (ps := ["weights", "low", "high"]) (ok_check_left T) (hr.mono (by decide)) tk (ja_cons (je_v 3) (ja_cons (je_v 1) (ja_cons (je_v 2) ja_nil)))))
      (jss_one (js_ret (je_call (ps := ["weights", "low", "high", "index"]) (ok_place_weighed T) (hr.mono (by decide)) tk (ja_cons (je_v 3) (ja_cons (je_v 1) (ja_cons (je_v 2) (ja_cons je_int ja_nil))))))))))
theorem sc_nth_left : FnScope ["asks", "low", "high", "index", "weights"] ["asks", "low", "high", "index"] (defScope st_nth_left) := ⟨rfl, rfl, rfl, by decide +kernel, rfl, by decide +kernel, by decide +kernel⟩
noncomputable def sem_nth_left : SM := (sSeq (sDrop (eCall 3 F_check_looked (aCons (eVar 0) (aCons (eVar 1) (aCons (eVar 2) aNil)))))
  (sSeq (sSet 4 (eCall 1 F_weighed (aCons (eVar 0) aNil)))
  (sSeq (sIf (eNotT (eTru (eCall 3 F_is_between (aCons (eVar 3) (aCons (eC (.int 0)) (aCons (eOp2 subP (eCall 3 F_count_weighed (aCons (eVar 4) (aCons (eVar 1) (aCons (eVar 2) aNil)))) (eC (.int 1))) aNil)))))) (sRaise1 "InvalidIndex" "given" (eVar 3)) sNext)
  (sRet (eCall 4 F_place_weighed (aCons (eVar 4) (aCons (eVar 1) (aCons (eVar 2) (aCons (eVar 3) aNil)))))))))
noncomputable def F_nth_left : Fn := runDef 4 5 sem_nth_left
theorem ok_nth_left (T : Txt K mg base) : DefOk false TabsOf.P TabsOf.w K mg base "nth_left" 8 ["asks", "low", "high", "index"] F_nth_left :=
  defok_mk (k := 7) T.f_nth_left sc_nth_left (fun _ _ _ _ _ _ us hl => match us, hl with | [_, _, _, _], _ => rfl) fun f cdv lc A outer s H E hr tk hp => have am : Amb (cxOf (L2.CX TabsOf.P TabsOf.w) TabsOf.P TabsOf.w K mg base ["asks", "low", "high", "index", "weights"] "nth_left" (defScope st_nth_left) f cdv A outer s H E) := ⟨rfl, rfl⟩
    (jss_cons (js_expr (je_call (ps := ["asks", "low", "high"]) (ok_check_looked T) (hr.mono (by decide)) tk (ja_cons (je_v 0) (ja_cons (je_v 1) (ja_cons (je_v 2) ja_nil)))))
      (jss_cons (js_set (i := 4) sc_nth_left.nd (je_call (ps := ["asks"]) (ok_weighed T) (hr.mono (by decide)) tk (ja_cons (je_v 0) ja_nil)))
      (jss_cons (js_if (jt_not (jt_tru (je_call (ps := ["value", "least", "most"]) (ok_is_between T) (hr.mono (by decide)) tk (ja_cons (je_v 3) (ja_cons je_int (ja_cons (je_op op_sub (prim_iOp _) (je_call (ps := ["weights", "low", "high"]) (ok_count_weighed T) (hr.mono (by decide)) tk (ja_cons (je_v 4) (ja_cons (je_v 1) (ja_cons (je_v 2) ja_nil)))) je_int) ja_nil)))))) (jss_one (js_raiseI T.i_InvalidIndex sc_InvalidIndex rfl (fun _ _ _ _ _ _ us hl => match us, hl with | [_, _], _ => rfl) (je_v 3) (hr.mono (by decide)) tk)) jss_nil)
      (jss_one (js_ret (je_call (ps := ["weights", "low", "high", "index"]) (ok_place_weighed T) (hr.mono (by decide)) tk (ja_cons (je_v 4) (ja_cons (je_v 1) (ja_cons (je_v 2) (ja_cons (je_v 3) ja_nil))))))))))
theorem sc_is_lit : FnScope ["lamps", "number", "lamp"] ["lamps", "number"] (defScope st_is_lit) := ⟨rfl, rfl, rfl, by decide +kernel, rfl, by decide +kernel, by decide +kernel⟩
noncomputable def sem_is_lit : SM := (sRet (eCB anyP (aCons (eLc (iSeq (eVar 0)) (.nm 2) eYes (eCall 2 F_does_fit (aCons (eVar 2) (aCons (eVar 1) aNil))) [2]) aNil)))
noncomputable def F_is_lit : Fn := runDef 2 3 sem_is_lit
theorem ok_is_lit (T : Txt K mg base) : DefOk false TabsOf.P TabsOf.w K mg base "is_lit" 2 ["lamps", "number"] F_is_lit :=
  defok_mk (k := 1) T.f_is_lit sc_is_lit (fun _ _ _ _ _ _ us hl => match us, hl with | [_, _], _ => rfl) fun f cdv lc A outer s H E hr tk hp => have am : Amb (cxOf (L2.CX TabsOf.P TabsOf.w) TabsOf.P TabsOf.w K mg base ["lamps", "number", "lamp"] "is_lit" (defScope st_is_lit) f cdv A outer s H E) := ⟨rfl, rfl⟩
    (jss_one (js_ret (je_cb (cr_any rfl) prim_any T.b_any bt_any (ja_cons (je_lc (own := [("lamp", 2)]) (T := (.nm 2)) sc_is_lit.nd (ji_seq (je_v 0)) (by rfl) (fun _ _ _ _ _ => (jg_name sc_is_lit.nd)) (fun _ _ _ _ _ => jts_nil) (fun _ _ _ _ _ => (je_call (ps := ["fact", "number"]) (ok_does_fit T) (hr.mono (by decide)) takes0 (ja_cons (je_v 2) (ja_cons (je_v 1) ja_nil))))) ja_nil))))
theorem sc_terms_of : FnScope ["lamps", "found", "lamp", "many", "fact"] ["lamps"] (defScope st_terms_of) := ⟨rfl, rfl, rfl, by decide +kernel, rfl, by decide +kernel, by decide +kernel⟩
noncomputable def sem_terms_of : SM := (sSeq (sSet 1 (eLst (aCons (eTup (aCons (eC (.int 0)) (aCons (eC (.tup ([0, 1].map Da.int))) aNil))) aNil)))
  (sSeq (sFor (iSeq (eVar 0)) (.nm 2) (sSet 1 (eOp2 addP (eVar 1) (eLc (iSeq (eVar 1)) (.tup [3, 4]) (eNotT (eTru (eCall 2 F_do_quarrel (aCons (eVar 4) (aCons (eVar 2) aNil))))) (eTup (aCons (eOp2 addP (eVar 3) (eC (.int 1))) (aCons (eCall 2 F_put_together (aCons (eVar 4) (aCons (eVar 2) aNil))) aNil))) [3, 4]))))
  (sRet (eVar 1))))
noncomputable def F_terms_of : Fn := runDef 1 5 sem_terms_of
theorem ok_terms_of (T : Txt K mg base) : DefOk false TabsOf.P TabsOf.w K mg base "terms_of" 4 ["lamps"] F_terms_of :=
  defok_mk (k := 3) T.f_terms_of sc_terms_of (fun _ _ _ _ _ _ us hl => match us, hl with | [_], _ => rfl) fun f cdv lc A outer s H E hr tk hp => have am : Amb (cxOf (L2.CX TabsOf.P TabsOf.w) TabsOf.P TabsOf.w K mg base ["lamps", "found", "lamp", "many", "fact"] "terms_of" (defScope st_terms_of) f cdv A outer s H E) := ⟨rfl, rfl⟩
    (jss_cons (js_set (i := 1) sc_terms_of.nd (je_lst (ja_cons (je_tup (ja_cons je_int (ja_cons (je_gtup T.g_ALL) ja_nil))) ja_nil)))
      (jss_cons (js_for (T := (.nm 2)) hp (ji_seq (je_v 0)) (jg_name sc_terms_of.nd (hx := .inr rfl)) (jss_one (js_set (i := 1) sc_terms_of.nd (je_op opr_add prim_add (je_v 1) (je_lc (own := [("many", 3), ("fact", 4)]) (T := (.tup [3, 4])) sc_terms_of.nd (ji_seq (je_v 1)) (by rfl) (fun _ _ _ _ _ => (jg_tup rfl (jgs_cons sc_terms_of.nd (jgs_cons sc_terms_of.nd jgs_nil)))) (fun _ _ _ _ _ => (jts_one (jt_not (jt_tru (je_call (ps := ["one", "other"]) (ok_do_quarrel T) (hr.mono (by decide)) takes0 (ja_cons (je_v 4) (ja_cons (je_v 2) ja_nil))))))) (fun _ _ _ _ _ => (je_tup (ja_cons (je_op opr_add prim_add (je_v 3) je_int) (ja_cons (je_call (ps := ["one", "other"]) (ok_put_together T) (hr.mono (by decide)) takes0 (ja_cons (je_v 4) (ja_cons (je_v 2) ja_nil))) ja_nil)))))))))
      (jss_one (js_ret (je_v 1)))))
theorem sc_sign_of : FnScope ["many"] ["many"] (defScope st_sign_of) := ⟨rfl, rfl, rfl, by decide +kernel, rfl, by decide +kernel, by decide +kernel⟩
noncomputable def sem_sign_of : SM := (sRet (eOp2 subP (eC (.int 1)) (eOp2 mulP (eC (.int 2)) (eOp2 modP (eVar 0) (eC (.int 2))))))
noncomputable def F_sign_of : Fn := runDef 1 1 sem_sign_of
theorem ok_sign_of (T : Txt K mg base) : DefOk false TabsOf.P TabsOf.w K mg base "sign_of" 1 ["many"] F_sign_of :=
  defok_mk (k := 0) T.f_sign_of sc_sign_of (fun _ _ _ _ _ _ us hl => match us, hl with | [_], _ => rfl) fun f cdv lc A outer s H E hr tk hp => have am : Amb (cxOf (L2.CX TabsOf.P TabsOf.w) TabsOf.P TabsOf.w K mg base ["many"] "sign_of" (defScope st_sign_of) f cdv A outer s H E) := ⟨rfl, rfl⟩
    (jss_one (js_ret (je_op op_sub (prim_iOp _) je_int (je_op op_mulX (prim_iOpC mulOk_to _) je_int (je_op op_mod (prim_iOpC modOk_to _) (je_v 0) je_int)))))
theorem sc_dark_between : FnScope ["terms", "low", "high", "many", "fact"] ["terms", "low", "high"] (defScope st_dark_between) := ⟨rfl, rfl, rfl, by decide +kernel, rfl, by decide +kernel, by decide +kernel⟩
noncomputable def sem_dark_between : SM := (sRet (eCB sumP (aCons (eLc (iSeq (eVar 0)) (.tup [3, 4]) eYes (eOp2 mulP (eCall 1 F_sign_of (aCons (eVar 3) aNil)) (eCall 3 F_count_of (aCons (eVar 4) (aCons (eVar 1) (aCons (eVar 2) aNil))))) [3, 4]) aNil)))
noncomputable def F_dark_between : Fn := runDef 3 5 sem_dark_between
theorem ok_dark_between (T : Txt K mg base) : DefOk false TabsOf.P TabsOf.w K mg base "dark_between" 2 ["terms", "low", "high"] F_dark_between :=
  defok_mk (k := 1) T.f_dark_between sc_dark_between (fun _ _ _ _ _ _ us hl => match us, hl with | [_, _, _], _ => rfl) fun f cdv lc A outer s H E hr tk hp => have am : Amb (cxOf (L2.CX TabsOf.P TabsOf.w) TabsOf.P TabsOf.w K mg base ["terms", "low", "high", "many", "fact"] "dark_between" (defScope st_dark_between) f cdv A outer s H E) := ⟨rfl, rfl⟩
    (jss_one (js_ret (je_cb (cr_sum rfl) prim_sum T.b_sum bt_sum (ja_cons (je_lc (own := [("many", 3), ("fact", 4)]) (T := (.tup [3, 4])) sc_dark_between.nd (ji_seq (je_v 0)) (by rfl) (fun _ _ _ _ _ => (jg_tup rfl (jgs_cons sc_dark_between.nd (jgs_cons sc_dark_between.nd jgs_nil)))) (fun _ _ _ _ _ => jts_nil) (fun _ _ _ _ _ => (je_op op_mulX (prim_iOpC mulOk_to _) (je_call (ps := ["many"]) (ok_sign_of T) (hr.mono (by decide)) takes0 (ja_cons (je_v 3) ja_nil)) (je_call (ps := ["fact", "low", "high"]) (ok_count_of T) (hr.mono (by decide)) takes0 (ja_cons (je_v 4) (ja_cons (je_v 1) (ja_cons (je_v 2) ja_nil))))))) ja_nil))))
theorem sc_first_dark : FnScope ["lamps", "number", "step"] ["lamps", "number"] (defScope st_first_dark) := ⟨rfl, rfl, rfl, by decide +kernel, rfl, by decide +kernel, by decide +kernel⟩
noncomputable def sem_first_dark : SM := (sSeq (sFor (iRange1 (aCons (eCall 2 F_raised (aCons (eC (.int 2)) (aCons (eCB lenP (aCons (eVar 0) aNil)) aNil))) aNil)) (.nm 2) (sIf (eNotT (eTru (eCall 2 F_is_lit (aCons (eVar 0) (aCons (eOp2 addP (eVar 1) (eVar 2)) aNil))))) (sRet (eOp2 addP (eVar 1) (eVar 2))) sNext))
  (sRet (eC .non)))
noncomputable def F_first_dark : Fn := runDef 2 3 sem_first_dark
theorem ok_first_dark (T : Txt K mg base) : DefOk false TabsOf.P TabsOf.w K mg base "first_dark" 3 ["lamps", "number"] F_first_dark :=
  defok_mk (k := 2) T.f_first_dark sc_first_dark (fun _ _ _ _ _ _ us hl => match us, hl with | [_, _], _ => rfl) fun f cdv lc A outer s H E hr tk hp => have am : Amb (cxOf (L2.CX TabsOf.P TabsOf.w) TabsOf.P TabsOf.w K mg base ["lamps", "number", "step"] "first_dark" (defScope st_first_dark) f cdv A outer s H E) := ⟨rfl, rfl⟩
    (jss_cons (js_for (T := (.nm 2)) hp (ji_range1 T.b_range (ja_cons (je_call (ps := ["number", "power"]) (ok_raised T) (hr.mono (by decide)) tk (ja_cons je_int (ja_cons (je_cb call_len prim_len T.b_len bt_len (ja_cons (je_v 0) ja_nil)) ja_nil))) ja_nil)) (jg_name sc_first_dark.nd) (jss_one (js_if (jt_not (jt_tru (je_call (ps := ["lamps", "number"]) (ok_is_lit T) (hr.mono (by decide)) tk (ja_cons (je_v 0) (ja_cons (je_op opr_add prim_add (je_v 1) (je_v 2)) ja_nil))))) (jss_one (js_ret (je_op opr_add prim_add (je_v 1) (je_v 2)))) jss_nil)))
      (jss_one (js_ret je_non)))
theorem sc_count_dark : FnScope ["lamps", "low", "high"] ["lamps", "low", "high"] (defScope st_count_dark) := ⟨rfl, rfl, rfl, by decide +kernel, rfl, by decide +kernel, by decide +kernel⟩
noncomputable def sem_count_dark : SM := (sSeq (sDrop (eCall 1 F_check_lamps (aCons (eVar 0) aNil)))
  (sSeq (sDrop (eCall 2 F_check_span (aCons (eVar 1) (aCons (eVar 2) aNil))))
  (sRet (eCall 3 F_dark_between (aCons (eCall 1 F_terms_of (aCons (eVar 0) aNil)) (aCons (eVar 1) (aCons (eVar 2) aNil)))))))
noncomputable def F_count_dark : Fn := runDef 3 3 sem_count_dark
theorem ok_count_dark (T : Txt K mg base) : DefOk false TabsOf.P TabsOf.w K mg base "count_dark" 6 ["lamps", "low", "high"] F_count_dark :=
  defok_mk (k := 5) T.f_count_dark sc_count_dark (fun _ _ _ _ _ _ us hl => match us, hl with | [_, _, _], _ => rfl) fun f cdv lc A outer s H E hr tk hp => have am : Amb (cxOf (L2.CX TabsOf.P TabsOf.w) TabsOf.P TabsOf.w K mg base ["lamps", "low", "high"] "count_dark" (defScope st_count_dark) f cdv A outer s H E) := ⟨rfl, rfl⟩
    (jss_cons (js_expr (je_call (ps := ["value"]) (ok_check_lamps T) (hr.mono (by decide)) tk (ja_cons (je_v 0) ja_nil)))
      (jss_cons (js_expr (je_call (ps := ["low", "high"]) (ok_check_span T) (hr.mono (by decide)) tk (ja_cons (je_v 1) (ja_cons (je_v 2) ja_nil))))
      (jss_one (js_ret (je_call (ps := ["terms", "low", "high"]) (ok_dark_between T) (hr.mono (by decide)) tk (ja_cons (je_call (ps := ["lamps"]) (ok_terms_of T) (hr.mono (by decide)) tk (ja_cons (je_v 0) ja_nil)) (ja_cons (je_v 1) (ja_cons (je_v 2) ja_nil))))))))
theorem sc_dark_from : FnScope ["lamps", "number"] ["lamps", "number"] (defScope st_dark_from) := ⟨rfl, rfl, rfl, by decide +kernel, rfl, by decide +kernel, by decide +kernel⟩
noncomputable def sem_dark_from : SM := (sSeq (sDrop (eCall 1 F_check_lamps (aCons (eVar 0) aNil)))
  (sSeq (sDrop (eCall 1 F_check_number (aCons (eVar 1) aNil)))
  (sRet (eCall 2 F_first_dark (aCons (eVar 0) (aCons (eVar 1) aNil))))))
noncomputable def F_dark_from : Fn := runDef 2 2 sem_dark_from
theorem ok_dark_from (T : Txt K mg base) : DefOk false TabsOf.P TabsOf.w K mg base "dark_from" 6 ["lamps", "number"] F_dark_from :=
  defok_mk (k := 5) T.f_dark_from sc_dark_from (fun _ _ _ _ _ _ us hl => match us, hl with | [_, _], _ => rfl) fun f cdv lc A outer s H E hr tk hp => have am : Amb (cxOf (L2.CX TabsOf.P TabsOf.w) TabsOf.P TabsOf.w K mg base ["lamps", "number"] "dark_from" (defScope st_dark_from) f cdv A outer s H E) := ⟨rfl, rfl⟩
    (jss_cons (js_expr (je_call (ps := ["value"]) (ok_check_lamps T) (hr.mono (by decide)) tk (ja_cons (je_v 0) ja_nil)))
      (jss_cons (js_expr (je_call (ps := ["value"]) (ok_check_number T) (hr.mono (by decide)) tk (ja_cons (je_v 1) ja_nil)))
      (jss_one (js_ret (je_call (ps := ["lamps", "number"]) (ok_first_dark T) (hr.mono (by decide)) tk (ja_cons (je_v 0) (ja_cons (je_v 1) ja_nil)))))))
theorem sc__law_pail : FnScope ["script", "k", "cell", "mixed", "each", "great"] ["script", "k"] (defScope st__law_pail) := ⟨rfl, rfl, rfl, by decide +kernel, rfl, by decide +kernel, by decide +kernel⟩
noncomputable def sem__law_pail : SM := (sSeq (sSet 2 (eIf (eOpB ltP (eVar 1) (eCB lenP (aCons (eVar 0) aNil))) (eCB intP (aCons (eOp2 ixP (eVar 0) (eVar 1)) aNil)) (eOp2 addP (eOp2 mulP (eC (.int 6151)) (eVar 1)) (eC (.int 89)))))
  (sSeq (sSet 3 (eOp2 addP (eC (.int 131071)) (eOp2 mulP (eC (.int 8191)) (eVar 1))))
  (sSeq (sFor (iSeq (eSl (eVar 0) oNone (oSome (eC (.int 6))))) (.nm 4) (sSet 3 (eOp2 modP (eCB intP (aCons (eOp2 addP (eOp2 addP (eOp2 mulP (eVar 3) (eC (.int 69069))) (eOp2 modP (eCB intP (aCons (eVar 4) aNil)) (eC (.int 1000183)))) (eOp2 mulP (eC (.int 3)) (eVar 1))) aNil)) (eC (.int 2147483629)))))
  (sSeq (sSet 5 (eIf (eOrT (eOpB ltP (eVar 2) (eC (.int 0))) (eOpB geP (eVar 2) (eOp2 powP (eC (.int 10)) (eC (.int 18))))) (eCB absP (aCons (eVar 2) aNil)) (eC (.int 0))))
  (sRet (eLstN (aCons (eVar 5) (aCons (eOp2 modP (eCB intP (aCons (eOp2 addP (eOp2 mulP (eVar 3) (eC (.int 48271))) (eOp2 modP (eCB intP (aCons (eVar 2) aNil)) (eC (.int 2147483629)))) aNil)) (eC (.int 2147483629))) (aCons (eC (.int 0)) aNil)))))))))
noncomputable def F__law_pail : Fn := runDef 2 6 sem__law_pail
theorem ok__law_pail (T : Txt K mg base) : DefOk false TabsOf.P TabsOf.w K mg base "_law_pail" 1 ["script", "k"] F__law_pail :=
  defok_mk (k := 0) T.f__law_pail sc__law_pail (fun _ _ _ _ _ _ us hl => match us, hl with | [_, _], _ => rfl) fun f cdv lc A outer s H E hr tk hp => have am : Amb (cxOf (L2.CX TabsOf.P TabsOf.w) TabsOf.P TabsOf.w K mg base ["script", "k", "cell", "mixed", "each", "great"] "_law_pail" (defScope st__law_pail) f cdv A outer s H E) := ⟨rfl, rfl⟩
    (jss_cons (js_set (i := 2) sc__law_pail.nd (je_if (jt_cmp op_lt (prim_iCmp _) (je_v 1) (je_cb call_len prim_len T.b_len bt_len (ja_cons (je_v 0) ja_nil)) (nomark _)) (je_ct call_int1 prim_int T.b_int bt_int (ja_cons (je_ix (je_v 0) (je_v 1)) ja_nil)) (je_op opr_add prim_add (je_op op_mulX (prim_iOpC mulOk_to _) je_int (je_v 1)) je_int)))
      (jss_cons (js_set (i := 3) sc__law_pail.nd (je_op opr_add prim_add je_int (je_op op_mulX (prim_iOpC mulOk_to _) je_int (je_v 1))))
      (jss_cons (js_for (T := (.nm 4)) hp (ji_seq (je_sl (je_v 0) jo_none (jo_some je_int))) (jg_name sc__law_pail.nd) (jss_one (js_set (i := 3) sc__law_pail.nd (je_op op_mod (prim_iOpC modOk_to _) (je_ct call_int1 prim_int T.b_int bt_int (ja_cons (je_op opr_add prim_add (je_op opr_add prim_add (je_op op_mulX (prim_iOpC mulOk_to _) (je_v 3) je_int) (je_op op_mod (prim_iOpC modOk_to _) (je_ct call_int1 prim_int T.b_int bt_int (ja_cons (je_v 4) ja_nil)) je_int)) (je_op op_mulX (prim_iOpC mulOk_to _) je_int (je_v 1))) ja_nil)) je_int))))
      (jss_cons (js_set (i := 5) sc__law_pail.nd (je_if (jt_w (jw_or (jt_cmp op_lt (prim_iCmp _) (je_v 2) je_int (nomark _)) (jw_or1 (jt_cmp op_ge (prim_iCmp _) (je_v 2) (je_op op_pow (prim_iOpC powOk_to _) je_int je_int) (nomark _))))) (je_cb call_abs prim_abs T.b_abs bt_abs (ja_cons (je_v 2) ja_nil)) je_int))
      (jss_one (js_ret (je_lstN (ja_cons (je_v 5) (ja_cons (je_op op_mod (prim_iOpC modOk_to _) (je_ct call_int1 prim_int T.b_int bt_int (ja_cons (je_op opr_add prim_add (je_op op_mulX (prim_iOpC mulOk_to _) (je_v 3) je_int) (je_op op_mod (prim_iOpC modOk_to _) (je_ct call_int1 prim_int T.b_int bt_int (ja_cons (je_v 2) ja_nil)) je_int)) ja_nil)) je_int) (ja_cons je_int ja_nil))))))))))
theorem sc__law_dip : FnScope ["pail", "many", "old", "by", "figure"] ["pail", "many"] (defScope st__law_dip) := ⟨rfl, rfl, rfl, by decide +kernel, rfl, by decide +kernel, by decide +kernel⟩
noncomputable def sem__law_dip : SM := (sSeq (sSetIx (eOp2 addP (eOp2 ixP (eVar 0) (eC (.int 2))) (eC (.int 1))) (eVar 0) (eC (.int 2)))
  (sSeq (sIf (eOpB gtP (eOp2 ixP (eVar 0) (eC (.int 0))) (eC (.int 0))) (sSeq (sUnpIx (eCB divmodP (aCons (eOp2 ixP (eVar 0) (eC (.int 0))) (aCons (eVar 1) aNil))) (eVar 0) (eC (.int 0)) 4)
  (sRet (eVar 4))) sNext)
  (sSeq (sSet 2 (eCB intP (aCons (eOp2 ixP (eVar 0) (eC (.int 1))) aNil)))
  (sSeq (sSet 3 (eOp2 addP (eOp2 modP (eCB intP (aCons (eVar 2) aNil)) (eC (.int 12007))) (eC (.int 40013))))
  (sSeq (sSetIx (eOp2 modP (eCB intP (aCons (eOp2 addP (eOp2 addP (eOp2 mulP (eVar 2) (eVar 3)) (eOp2 mulP (eC (.int 21001)) (eOp2 ixP (eVar 0) (eC (.int 2))))) (eC (.int 9))) aNil)) (eC (.int 2147483629))) (eVar 0) (eC (.int 1)))
  (sRet (eOp2 modP (eCB intP (aCons (eOp2 divP (eOp2 ixP (eVar 0) (eC (.int 1))) (eC (.int 64))) aNil)) (eVar 1))))))))
noncomputable def F__law_dip : Fn := runDef 2 5 sem__law_dip
theorem ok__law_dip (T : Txt K mg base) : DefOk false TabsOf.P TabsOf.w K mg base "_law_dip" 1 ["pail", "many"] F__law_dip :=
  defok_mk (k := 0) T.f__law_dip sc__law_dip (fun _ _ _ _ _ _ us hl => match us, hl with | [_, _], _ => rfl) fun f cdv lc A outer s H E hr tk hp => have am : Amb (cxOf (L2.CX TabsOf.P TabsOf.w) TabsOf.P TabsOf.w K mg base ["pail", "many", "old", "by", "figure"] "_law_dip" (defScope st__law_dip) f cdv A outer s H E) := ⟨rfl, rfl⟩
    (jss_cons (js_setIx (je_op opr_add prim_add (je_ix (je_v 0) je_int) je_int) (je_v 0) je_int)
      (jss_cons (js_if (jt_cmp op_gt (prim_iCmp _) (je_ix (je_v 0) je_int) je_int (nomark _)) (jss_cons (js_unpIx (j := 4) sc__law_dip.nd (je_cb call_divmod prim_divmod T.b_divmod bt_divmod (ja_cons (je_ix (je_v 0) je_int) (ja_cons (je_v 1) ja_nil))) (je_v 0) je_int)
      (jss_one (js_ret (je_v 4)))) jss_nil)
      (jss_cons (js_set (i := 2) sc__law_dip.nd (je_ct call_int1 prim_int T.b_int bt_int (ja_cons (je_ix (je_v 0) je_int) ja_nil)))
      (jss_cons (js_set (i := 3) sc__law_dip.nd (je_op opr_add prim_add (je_op op_mod (prim_iOpC modOk_to _) (je_ct call_int1 prim_int T.b_int bt_int (ja_cons (je_v 2) ja_nil)) je_int) je_int))
      (jss_cons (js_setIx (je_op op_mod (prim_iOpC modOk_to _) (je_ct call_int1 prim_int T.b_int bt_int (ja_cons (je_op opr_add prim_add (je_op opr_add prim_add (je_op op_mulX (prim_iOpC mulOk_to _) (je_v 2) (je_v 3)) (je_op op_mulX (prim_iOpC mulOk_to _) je_int (je_ix (je_v 0) je_int))) je_int) ja_nil)) je_int) (je_v 0) je_int)
      (jss_one (js_ret (je_op op_mod (prim_iOpC modOk_to _) (je_ct call_int1 prim_int T.b_int bt_int (ja_cons (je_op op_fdivW (prim_iOpC divOk_to _) (je_ix (je_v 0) je_int) je_int) ja_nil)) (je_v 1)))))))))
theorem sc__law_of : FnScope ["pail", "things"] ["pail", "things"] (defScope st__law_of) := ⟨rfl, rfl, rfl, by decide +kernel, rfl, by decide +kernel, by decide +kernel⟩
noncomputable def sem__law_of : SM := (sRet (eOp2 ixP (eVar 1) (eCall 2 F__law_dip (aCons (eVar 0) (aCons (eCB lenP (aCons (eVar 1) aNil)) aNil)))))
noncomputable def F__law_of : Fn := runDef 2 2 sem__law_of
theorem ok__law_of (T : Txt K mg base) : DefOk false TabsOf.P TabsOf.w K mg base "_law_of" 2 ["pail", "things"] F__law_of :=
  defok_mk (k := 1) T.f__law_of sc__law_of (fun _ _ _ _ _ _ us hl => match us, hl with | [_, _], _ => rfl) fun f cdv lc A outer s H E hr tk hp => have am : Amb (cxOf (L2.CX TabsOf.P TabsOf.w) TabsOf.P TabsOf.w K mg base ["pail", "things"] "_law_of" (defScope st__law_of) f cdv A outer s H E) := ⟨rfl, rfl⟩
    (jss_one (js_ret (je_ix (je_v 1) (je_call (ps := ["pail", "many"]) (ok__law_dip T) (hr.mono (by decide)) tk (ja_cons (je_v 0) (ja_cons (je_cb call_len prim_len T.b_len bt_len (ja_cons (je_v 1) ja_nil)) ja_nil))))))
theorem sc__law_asks : FnScope ["pail", "most", "bases", "turn", "found", "hidden", "wrong", "base", "rest", "truth"] ["pail", "most", "bases"] (defScope st__law_asks) := ⟨rfl, rfl, rfl, by decide +kernel, rfl, by decide +kernel, by decide +kernel⟩
noncomputable def sem__law_asks : SM := (sSeq (sPar3 4 5 6 (aCons (eLstN aNil) (aCons (eCall 2 F__law_dip (aCons (eVar 0) (aCons (eC (.int 200)) aNil))) (aCons (eC (.int 0)) aNil))))
  (sSeq (sFor (iRange1 (aCons (eCall 2 F__law_dip (aCons (eVar 0) (aCons (eOp2 addP (eVar 1) (eC (.int 1))) aNil))) aNil)) (.nm 3) (sSeq (sSet 7 (eCall 2 F__law_of (aCons (eVar 0) (aCons (eVar 2) aNil))))
  (sSeq (sPar 8 9 (aCons (eOp2 modP (eCB intP (aCons (eVar 5) aNil)) (eVar 7)) (aCons (eOp2 (bD eqP) (eCall 2 F__law_dip (aCons (eVar 0) (aCons (eC (.int 2)) aNil))) (eC (.int 0))) aNil)))
  (sSeq (sIf (eNotT (eTru (eVar 9))) (sSet 8 (eOp2 modP (eCB intP (aCons (eOp2 addP (eOp2 addP (eVar 8) (eC (.int 1))) (eCall 2 F__law_dip (aCons (eVar 0) (aCons (eCB max2P (aCons (eC (.int 1)) (aCons (eOp2 subP (eVar 7) (eC (.int 1))) aNil))) aNil)))) aNil)) (eVar 7))) sNext)
  (sSeq (sIf (eOpB eqP (eCall 2 F__law_dip (aCons (eVar 0) (aCons (eC (.int 12)) aNil))) (eC (.int 0))) (sSet 8 (eCall 2 F__law_dip (aCons (eVar 0) (aCons (eVar 7) aNil)))) sNext)
  (sDrop (eAppend (eVar 4) (eTup (aCons (eVar 8) (aCons (eVar 7) (aCons (eVar 9) aNil)))))))))))
  (sRet (eCB tupleP (aCons (eVar 4) aNil)))))
noncomputable def F__law_asks : Fn := runDef 3 10 sem__law_asks
theorem ok__law_asks (T : Txt K mg base) : DefOk false TabsOf.P TabsOf.w K mg base "_law_asks" 3 ["pail", "most", "bases"] F__law_asks :=
  defok_mk (k := 2) T.f__law_asks sc__law_asks (fun _ _ _ _ _ _ us hl => match us, hl with | [_, _, _], _ => rfl) fun f cdv lc A outer s H E hr tk hp => have am : Amb (cxOf (L2.CX TabsOf.P TabsOf.w) TabsOf.P TabsOf.w K mg base ["pail", "most", "bases", "turn", "found", "hidden", "wrong", "base", "rest", "truth"] "_law_asks" (defScope st__law_asks) f cdv A outer s H E) := ⟨rfl, rfl⟩
    (jss_cons (js_par3 (i := 4) (j := 5) (l := 6) sc__law_asks.nd (by decide) (by decide) (by decide) (ja_cons (je_lstN ja_nil) (ja_cons (je_call (ps := ["pail", "many"]) (ok__law_dip T) (hr.mono (by decide)) tk (ja_cons (je_v 0) (ja_cons je_int ja_nil))) (ja_cons je_int ja_nil))) (by rfl))
      (jss_cons (js_for (T := (.nm 3)) hp (ji_range1 T.b_range (ja_cons (je_call (ps := ["pail", "many"]) (ok__law_dip T) (hr.mono (by decide)) tk (ja_cons (je_v 0) (ja_cons (je_op opr_add prim_add (je_v 1) je_int) ja_nil))) ja_nil)) (jg_name sc__law_asks.nd) (jss_cons (js_set (i := 7) sc__law_asks.nd (je_call (ps := ["pail", "things"]) (ok__law_of T) (hr.mono (by decide)) tk (ja_cons (je_v 0) (ja_cons (je_v 2) ja_nil))))
      (jss_cons (js_par (i := 8) (j := 9) sc__law_asks.nd (by decide) (ja_cons (je_op op_mod (prim_iOpC modOk_to _) (je_ct call_int1 prim_int T.b_int bt_int (ja_cons (je_v 5) ja_nil)) (je_v 7)) (ja_cons (je_cmp (op_eqD (hu64 hr)) prim_eq (je_call (ps := ["pail", "many"]) (ok__law_dip T) (hr.mono (by decide)) tk (ja_cons (je_v 0) (ja_cons je_int ja_nil))) je_int (nomark _)) ja_nil)) (by rfl))
      (jss_cons (js_if (jt_not (jt_tru (je_v 9))) (jss_one (js_set (i := 8) sc__law_asks.nd (je_op op_mod (prim_iOpC modOk_to _) (je_ct call_int1 prim_int T.b_int bt_int (ja_cons (je_op opr_add prim_add (je_op opr_add prim_add (je_v 8) je_int) (je_call (ps := ["pail", "many"]) (ok__law_dip T) (hr.mono (by decide)) tk (ja_cons (je_v 0) (ja_cons (je_cb (call_max2 rfl) (prim_i2 _) T.b_max bt_max (ja_cons je_int (ja_cons (je_op op_sub (prim_iOp _) (je_v 7) je_int) ja_nil))) ja_nil)))) ja_nil)) (je_v 7)))) jss_nil)
      (jss_cons (js_if (jt_cmp (op_eqD (hu64 hr)) prim_eq (je_call (ps := ["pail", "many"]) (ok__law_dip T) (hr.mono (by decide)) tk (ja_cons (je_v 0) (ja_cons je_int ja_nil))) je_int (nomark _)) (jss_one (js_set (i := 8) sc__law_asks.nd (je_call (ps := ["pail", "many"]) (ok__law_dip T) (hr.mono (by decide)) tk (ja_cons (je_v 0) (ja_cons (je_v 7) ja_nil))))) jss_nil)
      (jss_one (js_expr (je_append (je_v 4) (je_tup (ja_cons (je_v 8) (ja_cons (je_v 7) (ja_cons (je_v 9) ja_nil))))))))))))
      (jss_one (js_ret (je_ct call_tuple_of prim_tuple T.b_tuple bt_tuple (ja_cons (je_v 4) ja_nil))))))
theorem sc__law_is_left : FnScope ["asks", "number", "ask"] ["asks", "number"] (defScope st__law_is_left) := ⟨rfl, rfl, rfl, by decide +kernel, rfl, by decide +kernel, by decide +kernel⟩
noncomputable def sem__law_is_left : SM := (sRet (eOp2 (bD eqP) (eLc (iSeq (eVar 0)) (.nm 2) (eOpB neP (eOp2 (bD eqP) (eOp2 modP (eCB intP (aCons (eOp2 subP (eVar 1) (eOp2 ixP (eVar 2) (eC (.int 0)))) aNil)) (eOp2 ixP (eVar 2) (eC (.int 1)))) (eC (.int 0))) (eOp2 ixP (eVar 2) (eC (.int 2)))) (eVar 2) [2]) (eLst aNil)))
noncomputable def F__law_is_left : Fn := runDef 2 3 sem__law_is_left
theorem ok__law_is_left (T : Txt K mg base) : DefOk false TabsOf.P TabsOf.w K mg base "_law_is_left" 1 ["asks", "number"] F__law_is_left :=
  defok_mk (k := 0) T.f__law_is_left sc__law_is_left (fun _ _ _ _ _ _ us hl => match us, hl with | [_, _], _ => rfl) fun f cdv lc A outer s H E hr tk hp => have am : Amb (cxOf (L2.CX TabsOf.P TabsOf.w) TabsOf.P TabsOf.w K mg base ["asks", "number", "ask"] "_law_is_left" (defScope st__law_is_left) f cdv A outer s H E) := ⟨rfl, rfl⟩
    (jss_one (js_ret (je_cmp (op_eqD (hu64 hr)) prim_eq (je_lc (own := [("ask", 2)]) (T := (.nm 2)) sc__law_is_left.nd (ji_seq (je_v 0)) (by rfl) (fun _ _ _ _ _ => (jg_name sc__law_is_left.nd)) (fun _ _ _ _ _ => (jts_one (jt_cmp (op_neD (hu64 hr)) prim_ne (je_cmp (op_eqD (hu64 hr)) prim_eq (je_op op_mod (prim_iOpC modOk_to _) (je_ct call_int1 prim_int T.b_int bt_int (ja_cons (je_op op_sub (prim_iOp _) (je_v 1) (je_ix (je_v 2) je_int)) ja_nil)) (je_ix (je_v 2) je_int)) je_int (nomark _)) (je_ix (je_v 2) je_int) (nomark _)))) (fun _ _ _ _ _ => (je_v 2))) (je_lst ja_nil) (nomark _))))
theorem sc__law_lefts : FnScope ["asks", "low", "high", "number"] ["asks", "low", "high"] (defScope st__law_lefts) := ⟨rfl, rfl, rfl, by decide +kernel, rfl, by decide +kernel, by decide +kernel⟩
noncomputable def sem__law_lefts : SM := (sRet (eLc (iRange2 (aCons (eVar 1) (aCons (eOp2 addP (eVar 2) (eC (.int 1))) aNil))) (.nm 3) (eTru (eCall 2 F__law_is_left (aCons (eVar 0) (aCons (eVar 3) aNil)))) (eVar 3) [3]))
noncomputable def F__law_lefts : Fn := runDef 3 4 sem__law_lefts
theorem ok__law_lefts (T : Txt K mg base) : DefOk false TabsOf.P TabsOf.w K mg base "_law_lefts" 2 ["asks", "low", "high"] F__law_lefts :=
  defok_mk (k := 1) T.f__law_lefts sc__law_lefts (fun _ _ _ _ _ _ us hl => match us, hl with | [_, _, _], _ => rfl) fun f cdv lc A outer s H E hr tk hp => have am : Amb (cxOf (L2.CX TabsOf.P TabsOf.w) TabsOf.P TabsOf.w K mg base ["asks", "low", "high", "number"] "_law_lefts" (defScope st__law_lefts) f cdv A outer s H E) := ⟨rfl, rfl⟩
    (jss_one (js_ret (je_lc (own := [("number", 3)]) (T := (.nm 3)) sc__law_lefts.nd (ji_range2 T.b_range (ja_cons (je_v 1) (ja_cons (je_op opr_add prim_add (je_v 2) je_int) ja_nil))) (by rfl) (fun _ _ _ _ _ => (jg_name sc__law_lefts.nd)) (fun _ _ _ _ _ => (jts_one (jt_tru (je_call (ps := ["asks", "number"]) (ok__law_is_left T) (hr.mono (by decide)) takes0 (ja_cons (je_v 0) (ja_cons (je_v 3) ja_nil)))))) (fun _ _ _ _ _ => (je_v 3)))))
theorem sc__law_near_right : FnScope ["pail", "asks", "low", "high", "due", "least", "place", "cut", "told"] ["pail", "asks", "low", "high"] (defScope st__law_near_right) := ⟨rfl, rfl, rfl, by decide +kernel, rfl, by decide +kernel, by decide +kernel⟩
noncomputable def sem__law_near_right : SM := (sSeq (sSet 4 (eCall 3 F__law_lefts (aCons (eVar 1) (aCons (eVar 2) (aCons (eVar 3) aNil)))))
  (sSeq (sIf (eOpB neSP (eCB reprP (aCons (eLst (aCons (eCall 3 F_count_left (aCons (eVar 1) (aCons (eVar 2) (aCons (eVar 3) aNil)))) (aCons (eCallK 3 F_count_left 0 [2, 1, 0] aNil (aCons (eVar 3) (aCons (eVar 2) (aCons (eVar 1) aNil)))) aNil))) aNil)) (eCB reprP (aCons (eOp2 mulAllP (eLst (aCons (eCB lenP (aCons (eVar 4) aNil)) aNil)) (eC (.int 2))) aNil))) (sRet (eC (.bl false))) sNext)
  (sSeq (sSet 5 (eIf (eOpB neP (eVar 4) (eLst aNil)) (eLst (aCons (eC (.str "told")) (aCons (eOp2 ixP (eVar 4) (eC (.int 0))) aNil))) (eLst (aCons (eC (.str "none")) (aCons (eC (.str "")) aNil)))))
  (sSeq (sIf (eOpB neP (eLam h__law_heard (eCall 3 F_least_left (aCons (eVar 1) (aCons (eVar 2) (aCons (eVar 3) aNil))))) (eVar 5)) (sRet (eC (.bl false))) sNext)
  (sSeq (sFor (iSeq (eLst (aCons (eC (.int 0)) (aCons (eCall 2 F__law_dip (aCons (eVar 0) (aCons (eOp2 addP (eCB lenP (aCons (eVar 4) aNil)) (eC (.int 1))) aNil))) (aCons (eOp2 subP (eCB lenP (aCons (eVar 4) aNil)) (eC (.int 1))) (aCons (eCB lenP (aCons (eVar 4) aNil)) aNil)))))) (.nm 6) (sSeq (sSet 8 (eIf (eChain leP ltP (eC (.int 0)) (eVar 6) (eCB lenP (aCons (eVar 4) aNil))) (eLst (aCons (eC (.str "told")) (aCons (eOp2 ixP (eVar 4) (eVar 6)) aNil))) (eLst (aCons (eC (.str "index")) (aCons (eCB reprIP (aCons (eVar 6) aNil)) aNil)))))
  (sIf (eOpB neP (eLam h__law_heard (eCall 4 F_nth_left (aCons (eVar 1) (aCons (eVar 2) (aCons (eVar 3) (aCons (eVar 6) aNil)))))) (eVar 8)) (sRet (eC (.bl false))) sNext)))
  (sSeq (sSet 7 (eOp2 addP (eVar 2) (eCall 2 F__law_dip (aCons (eVar 0) (aCons (eOp2 addP (eOp2 subP (eVar 3) (eVar 2)) (eC (.int 1))) aNil)))))
  (sRet (eOp2 (bD eqP) (eOp2 addP (eCall 3 F_count_left (aCons (eVar 1) (aCons (eVar 2) (aCons (eVar 7) aNil)))) (eIf (eOpB ltP (eVar 7) (eVar 3)) (eCall 3 F_count_left (aCons (eVar 1) (aCons (eOp2 addP (eVar 7) (eC (.int 1))) (aCons (eVar 3) aNil)))) (eC (.int 0)))) (eCB lenP (aCons (eVar 4) aNil))))))))))
noncomputable def F__law_near_right : Fn := runDef 4 9 sem__law_near_right
theorem ok__law_near_right (T : Txt K mg base) : DefOk true TabsOf.P TabsOf.w K mg base "_law_near_right" 11 ["pail", "asks", "low", "high"] F__law_near_right :=
  defok_mk (k := 10) T.f__law_near_right sc__law_near_right (fun _ _ _ _ _ _ us hl => match us, hl with | [_, _, _, _], _ => rfl) fun f cdv lc A outer s H E hr tk hp => have am : Amb (cxOf (L2.CX TabsOf.P TabsOf.w) TabsOf.P TabsOf.w K mg base ["pail", "asks", "low", "high", "due", "least", "place", "cut", "told"] "_law_near_right" (defScope st__law_near_right) f cdv A outer s H E) := ⟨rfl, rfl⟩
    (jss_cons (js_set (i := 4) sc__law_near_right.nd (je_call (ps := ["asks", "low", "high"]) (ok__law_lefts T) (hr.mono (by decide)) tk (ja_cons (je_v 1) (ja_cons (je_v 2) (ja_cons (je_v 3) ja_nil)))))
      (jss_cons (js_if (jt_cmp op_ne prim_neS (je_cb (call_reprG hr) prim_repr T.b_repr bt_repr (ja_cons (je_lst (ja_cons (je_call (ps := ["asks", "low", "high"]) (ok_count_left T) (hr.mono (by decide)) tk (ja_cons (je_v 1) (ja_cons (je_v 2) (ja_cons (je_v 3) ja_nil)))) (ja_cons (je_callK0 (st := st_count_left) (ks := ["high", "low", "asks"]) (perm := [2, 1, 0]) (ok_count_left T) T.f_count_left (by decide) (fun _ _ _ _ _ _ us ws h1 h2 => match us, ws, h1, h2 with | [], [_, _, _], _, _ => rfl) (hr.mono (by decide)) tk (jk_cons (je_v 3) (jk_cons (je_v 2) (jk_cons (je_v 1) jk_nil)))) ja_nil))) ja_nil)) (je_cb (call_reprG hr) prim_repr T.b_repr bt_repr (ja_cons (je_op opr_mul prim_mulAll (je_lst (ja_cons (je_cb call_len prim_len T.b_len bt_len (ja_cons (je_v 4) ja_nil)) ja_nil)) je_int) ja_nil)) (nomark _)) (jss_one (js_ret je_bl)) jss_nil)
      (jss_cons (js_set (i := 5) sc__law_near_right.nd (je_if (jt_cmp (op_neD (hu64 hr)) prim_ne (je_v 4) (je_lst ja_nil) (nomark _)) (je_lst (ja_cons je_str (ja_cons (je_ix (je_v 4) je_int) ja_nil))) (je_lst (ja_cons je_str (ja_cons je_str ja_nil)))))
      (jss_cons (js_if (jt_cmp (op_neD (hu64 hr)) prim_ne (je_lam (k := 8) (g := g__law_heard T) (m__law_heard T) (n__law_heard T) sc__law_heard rfl (.inl rfl) b__law_heard (fun g cdv => gv__law_heard T) (lo__law_heard T) (T.l__law_near_right _ _ lc.1 lc.2) (hr.mono (by decide)) (fun _ _ _ _ _ _ _ hr2 tk2 => (je_call (ps := ["asks", "low", "high"]) (ok_least_left T) (hr2.mono (by decide)) tk2 (ja_cons (je_v 1) (ja_cons (je_v 2) (ja_cons (je_v 3) ja_nil)))))) (je_v 5) (nomark _)) (jss_one (js_ret je_bl)) jss_nil)
      (jss_cons (js_for (T := (.nm 6)) hp (ji_seq (je_lst (ja_cons je_int (ja_cons (je_call (ps := ["pail", "many"]) (ok__law_dip T) (hr.mono (by decide)) tk (ja_cons (je_v 0) (ja_cons (je_op opr_add prim_add (je_cb call_len prim_len T.b_len bt_len (ja_cons (je_v 4) ja_nil)) je_int) ja_nil))) (ja_cons (je_op op_sub (prim_iOp _) (je_cb call_len prim_len T.b_len bt_len (ja_cons (je_v 4) ja_nil)) je_int) (ja_cons (je_cb call_len prim_len T.b_len bt_len (ja_cons (je_v 4) ja_nil)) ja_nil)))))) (jg_name sc__law_near_right.nd (hx := .inr rfl)) (jss_cons (js_set (i := 8) sc__law_near_right.nd (je_if (jt_chain op_le op_lt (prim_iCmp _) (prim_iCmp _) je_int (je_v 6) (je_cb call_len prim_len T.b_len bt_len (ja_cons (je_v 4) ja_nil))) (je_lst (ja_cons je_str (ja_cons (je_ix (je_v 4) (je_v 6)) ja_nil))) (je_lst (ja_cons je_str (ja_cons (je_cb SkE.call_repr_int prim_reprI T.b_repr bt_repr (ja_cons (je_v 6) ja_nil)) ja_nil)))))
      (jss_one (js_if (jt_cmp (op_neD (hu64 hr)) prim_ne (je_lam (k := 8) (g := g__law_heard T) (m__law_heard T) (n__law_heard T) sc__law_heard rfl (.inl rfl) b__law_heard (fun g cdv => gv__law_heard T) (lo__law_heard T) (T.l__law_near_right _ _ lc.1 lc.2) (hr.mono (by decide)) (fun _ _ _ _ _ _ _ hr2 tk2 => (je_call (ps := ["asks", "low", "high", "index"]) (ok_nth_left T) (hr2.mono (by decide)) tk2 (ja_cons (je_v 1) (ja_cons (je_v 2) (ja_cons (je_v 3) (ja_cons (je_v 6) ja_nil))))))) (je_v 8) (nomark _)) (jss_one (js_ret je_bl)) jss_nil))))
      (jss_cons (js_set (i := 7) sc__law_near_right.nd (je_op opr_add prim_add (je_v 2) (je_call (ps := ["pail", "many"]) (ok__law_dip T) (hr.mono (by decide)) tk (ja_cons (je_v 0) (ja_cons (je_op opr_add prim_add (je_op op_sub (prim_iOp _) (je_v 3) (je_v 2)) je_int) ja_nil)))))
      (jss_one (js_ret (je_cmp (op_eqD (hu64 hr)) prim_eq (je_op opr_add prim_add (je_call (ps := ["asks", "low", "high"]) (ok_count_left T) (hr.mono (by decide)) tk (ja_cons (je_v 1) (ja_cons (je_v 2) (ja_cons (je_v 7) ja_nil)))) (je_if (jt_cmp op_lt (prim_iCmp _) (je_v 7) (je_v 3) (nomark _)) (je_call (ps := ["asks", "low", "high"]) (ok_count_left T) (hr.mono (by decide)) tk (ja_cons (je_v 1) (ja_cons (je_op opr_add prim_add (je_v 7) je_int) (ja_cons (je_v 3) ja_nil)))) je_int)) (je_cb call_len prim_len T.b_len bt_len (ja_cons (je_v 4) ja_nil)) (nomark _))))))))))
theorem sc__law_far_right : FnScope ["pail", "asks", "low", "own", "many", "place", "told", "times", "more", "number"] ["pail", "asks", "low"] (defScope st__law_far_right) := ⟨rfl, rfl, rfl, by decide +kernel, rfl, by decide +kernel, by decide +kernel⟩
noncomputable def sem__law_far_right : SM := (sSeq (sSet 3 (eCall 3 F__law_lefts (aCons (eVar 1) (aCons (eVar 2) (aCons (eOp2 addP (eVar 2) (eC (.int 359))) aNil)))))
  (sSeq (sUnp (.tup [7, 8]) (eTup (aCons (eOp2 addP (eOp2 powP (eC (.int 10)) (eC (.int 19))) (eCall 2 F__law_dip (aCons (eVar 0) (aCons (eOp2 powP (eC (.int 10)) (eC (.int 9))) aNil)))) (aCons (eCall 2 F__law_dip (aCons (eVar 0) (aCons (eC (.int 360)) aNil))) aNil))))
  (sSeq (sSet 4 (eOp2 addP (eOp2 mulP (eVar 7) (eCB lenP (aCons (eVar 3) aNil))) (eCB lenP (aCons (eLc (iSeq (eVar 3)) (.nm 9) (eOpB ltP (eVar 9) (eOp2 addP (eVar 2) (eVar 8))) (eVar 9) [9]) aNil))))
  (sSeq (sIf (eOpB neP (eCall 3 F_count_left (aCons (eVar 1) (aCons (eVar 2) (aCons (eOp2 subP (eOp2 addP (eOp2 addP (eVar 2) (eOp2 mulP (eC (.int 360)) (eVar 7))) (eVar 8)) (eC (.int 1))) aNil)))) (eVar 4)) (sRet (eC (.bl false))) sNext)
  (sSeq (sIf (eOpB eqP (eVar 3) (eLst aNil)) (sRet (eOp2 (bD eqP) (eLam h__law_heard (eCallK 3 F_least_left 0 [2, 0, 1] aNil (aCons (eVar 2) (aCons (eOp2 addP (eVar 2) (eOp2 powP (eC (.int 10)) (eC (.int 20)))) (aCons (eVar 1) aNil))))) (eLst (aCons (eC (.str "none")) (aCons (eC (.str "")) aNil))))) sNext)
  (sSeq (sSet 5 (eCall 2 F__law_dip (aCons (eVar 0) (aCons (eCB lenP (aCons (eVar 3) aNil)) aNil))))
  (sSeq (sSet 6 (eCall 4 F_nth_left (aCons (eVar 1) (aCons (eVar 2) (aCons (eOp2 addP (eOp2 addP (eVar 2) (eOp2 mulP (eC (.int 360)) (eVar 7))) (eC (.int 359))) (aCons (eOp2 addP (eOp2 mulP (eVar 7) (eCB lenP (aCons (eVar 3) aNil))) (eVar 5)) aNil))))))
  (sRet (eAndV (eOp2 (bD eqP) (eVar 6) (eOp2 addP (eOp2 ixP (eVar 3) (eVar 5)) (eOp2 mulP (eC (.int 360)) (eVar 7)))) (eOp2 (bD eqP) (eCall 3 F_least_left (aCons (eVar 1) (aCons (eVar 2) (aCons (eOp2 powP (eC (.int 10)) (eC (.int 30))) aNil)))) (eOp2 ixP (eVar 3) (eC (.int 0)))))))))))))
noncomputable def F__law_far_right : Fn := runDef 3 10 sem__law_far_right
theorem ok__law_far_right (T : Txt K mg base) : DefOk false TabsOf.P TabsOf.w K mg base "_law_far_right" 11 ["pail", "asks", "low"] F__law_far_right :=
  defok_mk (k := 10) T.f__law_far_right sc__law_far_right (fun _ _ _ _ _ _ us hl => match us, hl with | [_, _, _], _ => rfl) fun f cdv lc A outer s H E hr tk hp => have am : Amb (cxOf (L2.CX TabsOf.P TabsOf.w) TabsOf.P TabsOf.w K mg base ["pail", "asks", "low", "own", "many", "place", "told", "times", "more", "number"] "_law_far_right" (defScope st__law_far_right) f cdv A outer s H E) := ⟨rfl, rfl⟩
    (jss_cons (js_set (i := 3) sc__law_far_right.nd (je_call (ps := ["asks", "low", "high"]) (ok__law_lefts T) (hr.mono (by decide)) tk (ja_cons (je_v 1) (ja_cons (je_v 2) (ja_cons (je_op opr_add prim_add (je_v 2) je_int) ja_nil)))))
      (jss_cons (js_unp (T := (.tup [7, 8])) (je_tup (ja_cons (je_op opr_add prim_add (je_op op_pow (prim_iOpC powOk_to _) je_int je_int) (je_call (ps := ["pail", "many"]) (ok__law_dip T) (hr.mono (by decide)) tk (ja_cons (je_v 0) (ja_cons (je_op op_pow (prim_iOpC powOk_to _) je_int je_int) ja_nil)))) (ja_cons (je_call (ps := ["pail", "many"]) (ok__law_dip T) (hr.mono (by decide)) tk (ja_cons (je_v 0) (ja_cons je_int ja_nil))) ja_nil))) (jg_tup rfl (jgs_cons sc__law_far_right.nd (jgs_cons sc__law_far_right.nd jgs_nil (hx := .inr rfl)))))
      (jss_cons (js_set (i := 4) sc__law_far_right.nd (je_op opr_add prim_add (je_op op_mulX (prim_iOpC mulOk_to _) (je_v 7) (je_cb call_len prim_len T.b_len bt_len (ja_cons (je_v 3) ja_nil))) (je_cb call_len prim_len T.b_len bt_len (ja_cons (je_lc (own := [("number", 9)]) (T := (.nm 9)) sc__law_far_right.nd (ji_seq (je_v 3)) (by rfl) (fun _ _ _ _ _ => (jg_name sc__law_far_right.nd)) (fun _ _ _ _ _ => (jts_one (jt_cmp op_lt (prim_iCmp _) (je_v 9) (je_op opr_add prim_add (je_v 2) (je_v 8)) (nomark _)))) (fun _ _ _ _ _ => (je_v 9))) ja_nil))))
      (jss_cons (js_if (jt_cmp (op_neD (hu64 hr)) prim_ne (je_call (ps := ["asks", "low", "high"]) (ok_count_left T) (hr.mono (by decide)) tk (ja_cons (je_v 1) (ja_cons (je_v 2) (ja_cons (je_op op_sub (prim_iOp _) (je_op opr_add prim_add (je_op opr_add prim_add (je_v 2) (je_op op_mulX (prim_iOpC mulOk_to _) je_int (je_v 7))) (je_v 8)) je_int) ja_nil)))) (je_v 4) (nomark _)) (jss_one (js_ret je_bl)) jss_nil)
      (jss_cons (js_if (jt_cmp (op_eqD (hu64 hr)) prim_eq (je_v 3) (je_lst ja_nil) (nomark _)) (jss_one (js_ret (je_cmp (op_eqD (hu64 hr)) prim_eq (je_lam (k := 8) (g := g__law_heard T) (m__law_heard T) (n__law_heard T) sc__law_heard rfl (.inl rfl) b__law_heard (fun g cdv => gv__law_heard T) (lo__law_heard T) (T.l__law_far_right _ _ lc.1 lc.2) (hr.mono (by decide)) (fun _ _ _ _ _ _ _ hr2 tk2 => (je_callK0 (st := st_least_left) (ks := ["low", "high", "asks"]) (perm := [2, 0, 1]) (ok_least_left T) T.f_least_left (by decide) (fun _ _ _ _ _ _ us ws h1 h2 => match us, ws, h1, h2 with | [], [_, _, _], _, _ => rfl) (hr2.mono (by decide)) tk2 (jk_cons (je_v 2) (jk_cons (je_op opr_add prim_add (je_v 2) (je_op op_pow (prim_iOpC powOk_to _) je_int je_int)) (jk_cons (je_v 1) jk_nil)))))) (je_lst (ja_cons je_str (ja_cons je_str ja_nil))) (nomark _)))) jss_nil)
      (jss_cons (js_set (i := 5) sc__law_far_right.nd (je_call (ps := ["pail", "many"]) (ok__law_dip T) (hr.mono (by decide)) tk (ja_cons (je_v 0) (ja_cons (je_cb call_len prim_len T.b_len bt_len (ja_cons (je_v 3) ja_nil)) ja_nil))))
      (jss_cons (js_set (i := 6) sc__law_far_right.nd (je_call (ps := ["asks", "low", "high", "index"]) (ok_nth_left T) (hr.mono (by decide)) tk (ja_cons (je_v 1) (ja_cons (je_v 2) (ja_cons (je_op opr_add prim_add (je_op opr_add prim_add (je_v 2) (je_op op_mulX (prim_iOpC mulOk_to _) je_int (je_v 7))) je_int) (ja_cons (je_op opr_add prim_add (je_op op_mulX (prim_iOpC mulOk_to _) (je_v 7) (je_cb call_len prim_len T.b_len bt_len (ja_cons (je_v 3) ja_nil))) (je_v 5)) ja_nil))))))
      (jss_one (js_ret (je_and (je_cmp (op_eqD (hu64 hr)) prim_eq (je_v 6) (je_op opr_add prim_add (je_ix (je_v 3) (je_v 5)) (je_op op_mulX (prim_iOpC mulOk_to _) je_int (je_v 7))) (nomark _)) (je_one (je_cmp (op_eqD (hu64 hr)) prim_eq (je_call (ps := ["asks", "low", "high"]) (ok_least_left T) (hr.mono (by decide)) tk (ja_cons (je_v 1) (ja_cons (je_v 2) (ja_cons (je_op op_pow (prim_iOpC powOk_to _) je_int je_int) ja_nil)))) (je_ix (je_v 3) je_int) (nomark _)))))))))))))
theorem sc__law_parted_right : FnScope ["pail", "asks", "low", "high", "base", "rest", "first", "second"] ["pail", "asks", "low", "high"] (defScope st__law_parted_right) := ⟨rfl, rfl, rfl, by decide +kernel, rfl, by decide +kernel, by decide +kernel⟩
noncomputable def sem__law_parted_right : SM := (sSeq (sSet 4 (eCall 2 F__law_of (aCons (eVar 0) (aCons (eLst (aCons (eC (.int 1)) (aCons (eC (.int 2)) (aCons (eC (.int 5)) (aCons (eC (.int 7)) (aCons (eC (.int 12)) aNil)))))) aNil))))
  (sSeq (sSet 5 (eCall 2 F__law_dip (aCons (eVar 0) (aCons (eVar 4) aNil))))
  (sSeq (sPar 6 7 (aCons (eOp2 addP (eVar 1) (eTup (aCons (eTup (aCons (eVar 5) (aCons (eVar 4) (aCons (eC (.bl true)) aNil)))) aNil))) (aCons (eOp2 addP (eVar 1) (eTup (aCons (eTup (aCons (eVar 5) (aCons (eVar 4) (aCons (eC (.bl false)) aNil)))) aNil))) aNil)))
  (sRet (eOp2 (bD eqP) (eOp2 addP (eCall 3 F_count_left (aCons (eVar 6) (aCons (eVar 2) (aCons (eVar 3) aNil)))) (eCall 3 F_count_left (aCons (eVar 7) (aCons (eVar 2) (aCons (eVar 3) aNil))))) (eCall 3 F_count_left (aCons (eVar 1) (aCons (eVar 2) (aCons (eVar 3) aNil)))))))))
noncomputable def F__law_parted_right : Fn := runDef 4 8 sem__law_parted_right
theorem ok__law_parted_right (T : Txt K mg base) : DefOk false TabsOf.P TabsOf.w K mg base "_law_parted_right" 9 ["pail", "asks", "low", "high"] F__law_parted_right :=
  defok_mk (k := 8) T.f__law_parted_right sc__law_parted_right (fun _ _ _ _ _ _ us hl => match us, hl with | [_, _, _, _], _ => rfl) fun f cdv lc A outer s H E hr tk hp => have am : Amb (cxOf (L2.CX TabsOf.P TabsOf.w) TabsOf.P TabsOf.w K mg base ["pail", "asks", "low", "high", "base", "rest", "first", "second"] "_law_parted_right" (defScope st__law_parted_right) f cdv A outer s H E) := ⟨rfl, rfl⟩
    (jss_cons (js_set (i := 4) sc__law_parted_right.nd (je_call (ps := ["pail", "things"]) (ok__law_of T) (hr.mono (by decide)) tk (ja_cons (je_v 0) (ja_cons (je_lst (ja_cons je_int (ja_cons je_int (ja_cons je_int (ja_cons je_int (ja_cons je_int ja_nil)))))) ja_nil))))
      (jss_cons (js_set (i := 5) sc__law_parted_right.nd (je_call (ps := ["pail", "many"]) (ok__law_dip T) (hr.mono (by decide)) tk (ja_cons (je_v 0) (ja_cons (je_v 4) ja_nil))))
      (jss_cons (js_par (i := 6) (j := 7) sc__law_parted_right.nd (by decide) (ja_cons (je_op opr_add prim_add (je_v 1) (je_tup (ja_cons (je_tup (ja_cons (je_v 5) (ja_cons (je_v 4) (ja_cons je_bl ja_nil)))) ja_nil))) (ja_cons (je_op opr_add prim_add (je_v 1) (je_tup (ja_cons (je_tup (ja_cons (je_v 5) (ja_cons (je_v 4) (ja_cons je_bl ja_nil)))) ja_nil))) ja_nil)) (by rfl))
      (jss_one (js_ret (je_cmp (op_eqD (hu64 hr)) prim_eq (je_op opr_add prim_add (je_call (ps := ["asks", "low", "high"]) (ok_count_left T) (hr.mono (by decide)) tk (ja_cons (je_v 6) (ja_cons (je_v 2) (ja_cons (je_v 3) ja_nil)))) (je_call (ps := ["asks", "low", "high"]) (ok_count_left T) (hr.mono (by decide)) tk (ja_cons (je_v 7) (ja_cons (je_v 2) (ja_cons (je_v 3) ja_nil))))) (je_call (ps := ["asks", "low", "high"]) (ok_count_left T) (hr.mono (by decide)) tk (ja_cons (je_v 1) (ja_cons (je_v 2) (ja_cons (je_v 3) ja_nil)))) (nomark _)))))))
theorem sc__law_kin_right : FnScope ["asks", "low", "high", "right", "lamps", "wrong", "first", "due", "some", "ask"] ["asks", "low", "high"] (defScope st__law_kin_right) := ⟨rfl, rfl, rfl, by decide +kernel, rfl, by decide +kernel, by decide +kernel⟩
noncomputable def sem__law_kin_right : SM := (sSeq (sSet 3 (eCB tupleP (aCons (eLc (iSeq (eVar 0)) (.nm 9) (eTru (eOp2 ixP (eVar 9) (eC (.int 2)))) (eVar 9) [9]) aNil)))
  (sSeq (sPar 8 7 (aCons (eCB tupleP (aCons (eLc (iSeq (eVar 3)) (.nm 9) eYes (eSl (eVar 9) oNone (oSome (eC (.int 2)))) [9]) aNil)) (aCons (eCall 3 F_count_left (aCons (eVar 3) (aCons (eVar 1) (aCons (eVar 2) aNil)))) aNil)))
  (sSeq (sIf (eOpB neP (eCall 1 F_quarrels (aCons (eVar 8) aNil)) (eTup aNil)) (sIf (eOpB neP (eVar 7) (eC (.int 0))) (sRet (eC (.bl false))) sNext) (sIf (eOpB neP (eCall 3 F_count (aCons (eVar 8) (aCons (eVar 1) (aCons (eVar 2) aNil)))) (eVar 7)) (sRet (eC (.bl false))) (sIf (eAndT (eOpB gtP (eVar 7) (eC (.int 0))) (eOpB neP (eCall 4 F_nth_left (aCons (eVar 3) (aCons (eVar 1) (aCons (eVar 2) (aCons (eOp2 subP (eVar 7) (eC (.int 1))) aNil))))) (eCall 3 F_nth (aCons (eVar 8) (aCons (eVar 1) (aCons (eOp2 subP (eVar 7) (eC (.int 1))) aNil)))))) (sRet (eC (.bl false))) sNext)))
  (sSeq (sSet 4 (eCB tupleP (aCons (eLc (iSeq (eVar 0)) (.nm 9) (eNotT (eTru (eOp2 ixP (eVar 9) (eC (.int 2))))) (eSl (eVar 9) oNone (oSome (eC (.int 2)))) [9]) aNil)))
  (sSeq (sSet 5 (eCB tupleP (aCons (eLc (iSeq (eVar 0)) (.nm 9) (eNotT (eTru (eOp2 ixP (eVar 9) (eC (.int 2))))) (eVar 9) [9]) aNil)))
  (sSeq (sIf (eOpB neP (eCall 3 F_count_left (aCons (eVar 5) (aCons (eVar 1) (aCons (eVar 2) aNil)))) (eCall 3 F_count_dark (aCons (eVar 4) (aCons (eVar 1) (aCons (eVar 2) aNil))))) (sRet (eC (.bl false))) sNext)
  (sSeq (sSet 6 (eCall 2 F_dark_from (aCons (eVar 4) (aCons (eVar 1) aNil))))
  (sSeq (sSet 7 (eIf (eAndT (eOpB notNoneP (eVar 6) (eC .non)) (eOpB leP (eVar 6) (eVar 2))) (eLst (aCons (eC (.str "told")) (aCons (eVar 6) aNil))) (eLst (aCons (eC (.str "none")) (aCons (eC (.str "")) aNil)))))
  (sRet (eOp2 (bD eqP) (eLam h__law_heard (eCall 3 F_least_left (aCons (eVar 5) (aCons (eVar 1) (aCons (eVar 2) aNil))))) (eVar 7)))))))))))
noncomputable def F__law_kin_right : Fn := runDef 3 10 sem__law_kin_right
theorem ok__law_kin_right (T : Txt K mg base) : DefOk false TabsOf.P TabsOf.w K mg base "_law_kin_right" 11 ["asks", "low", "high"] F__law_kin_right :=
  defok_mk (k := 10) T.f__law_kin_right sc__law_kin_right (fun _ _ _ _ _ _ us hl => match us, hl with | [_, _, _], _ => rfl) fun f cdv lc A outer s H E hr tk hp => have am : Amb (cxOf (L2.CX TabsOf.P TabsOf.w) TabsOf.P TabsOf.w K mg base ["asks", "low", "high", "right", "lamps", "wrong", "first", "due", "some", "ask"] "_law_kin_right" (defScope st__law_kin_right) f cdv A outer s H E) := ⟨rfl, rfl⟩
    (jss_cons (js_set (i := 3) sc__law_kin_right.nd (je_ct call_tuple_of prim_tuple T.b_tuple bt_tuple (ja_cons (je_lc (own := [("ask", 9)]) (T := (.nm 9)) sc__law_kin_right.nd (ji_seq (je_v 0)) (by rfl) (fun _ _ _ _ _ => (jg_name sc__law_kin_right.nd)) (fun _ _ _ _ _ => (jts_one (jt_tru (je_ix (je_v 9) je_int)))) (fun _ _ _ _ _ => (je_v 9))) ja_nil)))
      (jss_cons (js_par (i := 8) (j := 7) sc__law_kin_right.nd (by decide) (ja_cons (je_ct call_tuple_of prim_tuple T.b_tuple bt_tuple (ja_cons (je_lc (own := [("ask", 9)]) (T := (.nm 9)) sc__law_kin_right.nd (ji_seq (je_v 3)) (by rfl) (fun _ _ _ _ _ => (jg_name sc__law_kin_right.nd)) (fun _ _ _ _ _ => jts_nil) (fun _ _ _ _ _ => (je_sl (je_v 9) jo_none (jo_some je_int)))) ja_nil)) (ja_cons (je_call (ps := ["asks", "low", "high"]) (ok_count_left T) (hr.mono (by decide)) tk (ja_cons (je_v 3) (ja_cons (je_v 1) (ja_cons (je_v 2) ja_nil)))) ja_nil)) (by rfl))
      (jss_cons (js_if (jt_cmp (op_neD (hu64 hr)) prim_ne (je_call (ps := ["facts"]) (ok_quarrels T) (hr.mono (by decide)) tk (ja_cons (je_v 8) ja_nil)) (je_tup ja_nil) (nomark _)) (jss_one (js_if (jt_cmp (op_neD (hu64 hr)) prim_ne (je_v 7) je_int (nomark _)) (jss_one (js_ret je_bl)) jss_nil)) (jss_one (js_if (jt_cmp (op_neD (hu64 hr)) prim_ne (je_call (ps := ["facts", "low", "high"]) (ok_count T) (hr.mono (by decide)) tk (ja_cons (je_v 8) (ja_cons (je_v 1) (ja_cons (je_v 2) ja_nil)))) (je_v 7) (nomark _)) (jss_one (js_ret je_bl)) (jss_one (js_if (jt_w (jw_and (jt_cmp op_gt (prim_iCmp _) (je_v 7) je_int (nomark _)) (jw_and1 (jt_cmp (op_neD (hu64 hr)) prim_ne (je_call (ps := ["asks", "low", "high", "index"]) (ok_nth_left T) (hr.mono (by decide)) tk (ja_cons (je_v 3) (ja_cons (je_v 1) (ja_cons (je_v 2) (ja_cons (je_op op_sub (prim_iOp _) (je_v 7) je_int) ja_nil))))) (je_call (ps := ["facts", "low", "index"]) (ok_nth T) (hr.mono (by decide)) tk (ja_cons (je_v 8) (ja_cons (je_v 1) (ja_cons (je_op op_sub (prim_iOp _) (je_v 7) je_int) ja_nil)))) (nomark _))))) (jss_one (js_ret je_bl)) jss_nil)))))
      (jss_cons (js_set (i := 4) sc__law_kin_right.nd (je_ct call_tuple_of prim_tuple T.b_tuple bt_tuple (ja_cons (je_lc (own := [("ask", 9)]) (T := (.nm 9)) sc__law_kin_right.nd (ji_seq (je_v 0)) (by rfl) (fun _ _ _ _ _ => (jg_name sc__law_kin_right.nd)) (fun _ _ _ _ _ => (jts_one (jt_not (jt_tru (je_ix (je_v 9) je_int))))) (fun _ _ _ _ _ => (je_sl (je_v 9) jo_none (jo_some je_int)))) ja_nil)))
      (jss_cons (js_set (i := 5) sc__law_kin_right.nd (je_ct call_tuple_of prim_tuple T.b_tuple bt_tuple (ja_cons (je_lc (own := [("ask", 9)]) (T := (.nm 9)) sc__law_kin_right.nd (ji_seq (je_v 0)) (by rfl) (fun _ _ _ _ _ => (jg_name sc__law_kin_right.nd)) (fun _ _ _ _ _ => (jts_one (jt_not (jt_tru (je_ix (je_v 9) je_int))))) (fun _ _ _ _ _ => (je_v 9))) ja_nil)))
      (jss_cons (js_if (jt_cmp (op_neD (hu64 hr)) prim_ne (je_call (ps := ["asks", "low", "high"]) (ok_count_left T) (hr.mono (by decide)) tk (ja_cons (je_v 5) (ja_cons (je_v 1) (ja_cons (je_v 2) ja_nil)))) (je_call (ps := ["lamps", "low", "high"]) (ok_count_dark T) (hr.mono (by decide)) tk (ja_cons (je_v 4) (ja_cons (je_v 1) (ja_cons (je_v 2) ja_nil)))) (nomark _)) (jss_one (js_ret je_bl)) jss_nil)
      (jss_cons (js_set (i := 6) sc__law_kin_right.nd (je_call (ps := ["lamps", "number"]) (ok_dark_from T) (hr.mono (by decide)) tk (ja_cons (je_v 4) (ja_cons (je_v 1) ja_nil))))
      (jss_cons (js_set (i := 7) sc__law_kin_right.nd (je_if (jt_w (jw_and (jt_cmp op_notN prim_notN (je_v 6) je_non (nomark _)) (jw_and1 (jt_cmp op_le (prim_iCmp _) (je_v 6) (je_v 2) (nomark _))))) (je_lst (ja_cons je_str (ja_cons (je_v 6) ja_nil))) (je_lst (ja_cons je_str (ja_cons je_str ja_nil)))))
      (jss_one (js_ret (je_cmp (op_eqD (hu64 hr)) prim_eq (je_lam (k := 8) (g := g__law_heard T) (m__law_heard T) (n__law_heard T) sc__law_heard rfl (.inl rfl) b__law_heard (fun g cdv => gv__law_heard T) (lo__law_heard T) (T.l__law_kin_right _ _ lc.1 lc.2) (hr.mono (by decide)) (fun _ _ _ _ _ _ _ hr2 tk2 => (je_call (ps := ["asks", "low", "high"]) (ok_least_left T) (hr2.mono (by decide)) tk2 (ja_cons (je_v 5) (ja_cons (je_v 1) (ja_cons (je_v 2) ja_nil)))))) (je_v 7) (nomark _))))))))))))
theorem sc__law_right : FnScope ["pail", "turn", "asks", "low", "high"] ["pail"] (defScope st__law_right) := ⟨rfl, rfl, rfl, by decide +kernel, rfl, by decide +kernel, by decide +kernel⟩
noncomputable def sem__law_right : SM := (sSeq (sFor (iRange1 (aCons (eC (.int 3)) aNil)) (.nm 1) (sSeq (sSet 2 (eCall 3 F__law_asks (aCons (eVar 0) (aCons (eC (.int 6)) (aCons (eLst (aCons (eC (.int 1)) (aCons (eC (.int 2)) (aCons (eC (.int 3)) (aCons (eC (.int 4)) (aCons (eC (.int 5)) (aCons (eC (.int 6)) (aCons (eC (.int 8)) (aCons (eC (.int 9)) (aCons (eC (.int 10)) (aCons (eC (.int 12)) (aCons (eC (.int 18)) (aCons (eC (.int 20)) aNil))))))))))))) aNil)))))
  (sSeq (sSet 3 (eOp2 subP (eCall 2 F__law_dip (aCons (eVar 0) (aCons (eC (.int 400)) aNil))) (eC (.int 200))))
  (sSeq (sSet 4 (eOp2 addP (eVar 3) (eCall 2 F__law_dip (aCons (eVar 0) (aCons (eCall 2 F__law_of (aCons (eVar 0) (aCons (eLst (aCons (eC (.int 1)) (aCons (eC (.int 9)) (aCons (eC (.int 60)) (aCons (eC (.int 200)) aNil))))) aNil))) aNil)))))
  (sSeq (sIf (eOrT (eNotT (eTru (eCall 4 F__law_near_right (aCons (eVar 0) (aCons (eVar 2) (aCons (eVar 3) (aCons (eVar 4) aNil))))))) (eNotT (eTru (eCall 3 F__law_far_right (aCons (eVar 0) (aCons (eVar 2) (aCons (eVar 3) aNil))))))) (sRet (eC (.bl false))) sNext)
  (sIf (eOrT (eNotT (eTru (eCall 4 F__law_parted_right (aCons (eVar 0) (aCons (eVar 2) (aCons (eVar 3) (aCons (eVar 4) aNil))))))) (eNotT (eTru (eCall 3 F__law_kin_right (aCons (eVar 2) (aCons (eVar 3) (aCons (eVar 4) aNil))))))) (sRet (eC (.bl false))) sNext))))))
  (sRet (eC (.bl true))))
noncomputable def F__law_right : Fn := runDef 1 5 sem__law_right
theorem ok__law_right (T : Txt K mg base) : DefOk true TabsOf.P TabsOf.w K mg base "_law_right" 12 ["pail"] F__law_right :=
  defok_mk (k := 11) T.f__law_right sc__law_right (fun _ _ _ _ _ _ us hl => match us, hl with | [_], _ => rfl) fun f cdv lc A outer s H E hr tk hp => have am : Amb (cxOf (L2.CX TabsOf.P TabsOf.w) TabsOf.P TabsOf.w K mg base ["pail", "turn", "asks", "low", "high"] "_law_right" (defScope st__law_right) f cdv A outer s H E) := ⟨rfl, rfl⟩
    (jss_cons (js_for (T := (.nm 1)) hp (ji_range1 T.b_range (ja_cons je_int ja_nil)) (jg_name sc__law_right.nd) (jss_cons (js_set (i := 2) sc__law_right.nd (je_call (ps := ["pail", "most", "bases"]) (ok__law_asks T) (hr.mono (by decide)) tk (ja_cons (je_v 0) (ja_cons je_int (ja_cons (je_lst (ja_cons je_int (ja_cons je_int (ja_cons je_int (ja_cons je_int (ja_cons je_int (ja_cons je_int (ja_cons je_int (ja_cons je_int (ja_cons je_int (ja_cons je_int (ja_cons je_int (ja_cons je_int ja_nil))))))))))))) ja_nil)))))
      (jss_cons (js_set (i := 3) sc__law_right.nd (je_op op_sub (prim_iOp _) (je_call (ps := ["pail", "many"]) (ok__law_dip T) (hr.mono (by decide)) tk (ja_cons (je_v 0) (ja_cons je_int ja_nil))) je_int))
      (jss_cons (js_set (i := 4) sc__law_right.nd (je_op opr_add prim_add (je_v 3) (je_call (ps := ["pail", "many"]) (ok__law_dip T) (hr.mono (by decide)) tk (ja_cons (je_v 0) (ja_cons (je_call (ps := ["pail", "things"]) (ok__law_of T) (hr.mono (by decide)) tk (ja_cons (je_v 0) (ja_cons (je_lst (ja_cons je_int (ja_cons je_int (ja_cons je_int (ja_cons je_int ja_nil))))) ja_nil))) ja_nil)))))
      (jss_cons (js_if (jt_w (jw_or (jt_not (jt_tru (je_call (ps := ["pail", "asks", "low", "high"]) (ok__law_near_right T) (hr.mono (by decide)) tk (ja_cons (je_v 0) (ja_cons (je_v 2) (ja_cons (je_v 3) (ja_cons (je_v 4) ja_nil))))))) (jw_or1 (jt_not (jt_tru (je_call (ps := ["pail", "asks", "low"]) (ok__law_far_right T) (hr.mono (by decide)) tk (ja_cons (je_v 0) (ja_cons (je_v 2) (ja_cons (je_v 3) ja_nil))))))))) (jss_one (js_ret je_bl)) jss_nil)
      (jss_one (js_if (jt_w (jw_or (jt_not (jt_tru (je_call (ps := ["pail", "asks", "low", "high"]) (ok__law_parted_right T) (hr.mono (by decide)) tk (ja_cons (je_v 0) (ja_cons (je_v 2) (ja_cons (je_v 3) (ja_cons (je_v 4) ja_nil))))))) (jw_or1 (jt_not (jt_tru (je_call (ps := ["asks", "low", "high"]) (ok__law_kin_right T) (hr.mono (by decide)) tk (ja_cons (je_v 2) (ja_cons (je_v 3) (ja_cons (je_v 4) ja_nil))))))))) (jss_one (js_ret je_bl)) jss_nil)))))))
      (jss_one (js_ret je_bl)))
theorem sc_law : FnScope ["script", "k"] ["script"] (defScope st_law) := ⟨rfl, rfl, rfl, by decide +kernel, rfl, by decide +kernel, by decide +kernel⟩
noncomputable def sem_law : SM := (sRet (eCB allP (aCons (eLc (iRange1 (aCons (eCB max2P (aCons (eC (.int 2)) (aCons (eCB min2P (aCons (eCB lenP (aCons (eVar 0) aNil)) (aCons (eC (.int 5)) aNil))) aNil))) aNil)) (.nm 1) eYes (eCall 1 F__law_right (aCons (eCallN 2 F__law_pail (aCons (eVar 0) (aCons (eVar 1) aNil))) aNil)) [1]) aNil)))
noncomputable def F_law : Fn := runDef 1 2 sem_law
theorem ok_law (T : Txt K mg base) : DefOk true TabsOf.P TabsOf.w K mg base "law" 13 ["script"] F_law :=
  defok_mk (k := 12) T.f_law sc_law (fun _ _ _ _ _ _ us hl => match us, hl with | [_], _ => rfl) fun f cdv lc A outer s H E hr tk hp => have am : Amb (cxOf (L2.CX TabsOf.P TabsOf.w) TabsOf.P TabsOf.w K mg base ["script", "k"] "law" (defScope st_law) f cdv A outer s H E) := ⟨rfl, rfl⟩
    (jss_one (js_ret (je_cb (cr_all rfl) prim_all T.b_all bt_all (ja_cons (je_lc (own := [("k", 1)]) (T := (.nm 1)) sc_law.nd (ji_range1 T.b_range (ja_cons (je_cb (call_max2 rfl) (prim_i2 _) T.b_max bt_max (ja_cons je_int (ja_cons (je_cb (call_min2 rfl) (prim_i2 _) T.b_min bt_min (ja_cons (je_cb call_len prim_len T.b_len bt_len (ja_cons (je_v 0) ja_nil)) (ja_cons je_int ja_nil))) ja_nil))) ja_nil)) (by rfl) (fun _ _ _ _ _ => (jg_name sc_law.nd)) (fun _ _ _ _ _ => jts_nil) (fun _ _ _ _ _ => (je_call (ps := ["pail"]) (ok__law_right T) (hr.mono (by decide)) takes0 (ja_cons (je_callN (ps := ["script", "k"]) (ok__law_pail T) (hr.mono (by decide)) takes0 (ja_cons (je_v 0) (ja_cons (je_v 1) ja_nil))) ja_nil)))) ja_nil))))
end
end M76
end
section
namespace RL
abbrev Fa := Int × Int
def Gd (f : Fa) : Prop := 0 ≤ f.1 ∧ f.1 < f.2
def ft (f : Fa) (x : Int) : Prop := f.2 ∣ x - f.1
theorem ft_mod {f : Fa} {x : Int} : ft f x ↔ (x - f.1) % f.2 = 0 := ⟨Int.emod_eq_zero_of_dvd, Int.dvd_of_emod_eq_zero⟩
instance (f : Fa) (x : Int) : Decidable (ft f x) := decidable_of_iff _ ft_mod.symm
theorem Gd.pos {f : Fa} (h : Gd f) : 0 < f.2 := by have := h.1; have := h.2; omega
/-- a fact is known by what fits it -/
theorem ft_dvd {f g : Fa} (h : ∀ x, ft f x → ft g x) : g.2 ∣ f.2 := by
  have h1 : ft g f.1 := h f.1 (by unfold ft; simp)
  have h2 : ft g (f.1 + f.2) := h _ (by unfold ft; exact ⟨1, by omega⟩)
  unfold ft at h1 h2
  have := Int.dvd_sub h2 h1
  have e : f.1 + f.2 - g.1 - (f.1 - g.1) = f.2 := by omega
  rwa [e] at this
theorem ft_rest {f g : Fa} (hf : Gd f) (hg : Gd g) (h : ∀ x, ft f x → ft g x) (e : f.2 = g.2) : f = g := by
  have h1 : ft g f.1 := h f.1 (by unfold ft; simp)
  unfold ft at h1
  obtain ⟨c, hc⟩ := h1
  have a := hf.1; have b := hf.2; have a' := hg.1; have b' := hg.2
  have c0 : c = 0 := by
    rcases Int.lt_trichotomy c 0 with q | q | q
    · have : g.2 * c ≤ g.2 * (-1) := Int.mul_le_mul_of_nonneg_left (by omega) (by omega)
      omega
    · exact q
    · have : g.2 * 1 ≤ g.2 * c := Int.mul_le_mul_of_nonneg_left (by omega) (by omega)
      omega
  rw [c0, Int.mul_zero] at hc
  exact Prod.ext (by omega) e
theorem ft_uniq {f g : Fa} (hf : Gd f) (hg : Gd g) (h : ∀ x, ft f x ↔ ft g x) : f = g :=
  ft_rest hf hg (fun x => (h x).mp) (Int.dvd_antisymm (Int.le_of_lt hf.pos) (Int.le_of_lt hg.pos) (ft_dvd fun x => (h x).mpr) (ft_dvd fun x => (h x).mp))
/-- the fact of all that leave a rest -/
def md (x n : Int) : Fa := (x % n, n)
theorem md_gd {x n : Int} (h : 0 < n) : Gd (md x n) := ⟨Int.emod_nonneg _ (by omega), Int.emod_lt_of_pos _ h⟩
theorem md_ft {x n y : Int} : ft (md x n) y ↔ n ∣ y - x := by
  unfold ft md
  simp only
  have e : y - x % n = y - x + n * (x / n) := by have := Int.mul_ediv_add_emod x n; omega
  rw [e]
  exact ⟨fun h => by have := Int.dvd_sub h (Int.dvd_mul_right n (x / n)); rwa [Int.add_sub_cancel] at this, fun h => Int.dvd_add h (Int.dvd_mul_right _ _)⟩
/-- facts quarrel -/
def qr (a b : Fa) : Prop := ¬ ((Int.gcd a.2 b.2 : Nat) : Int) ∣ a.1 - b.1
instance (a b : Fa) : Decidable (qr a b) := inferInstanceAs (Decidable (¬ _))
theorem gcd_l (a b : Int) : ((Int.gcd a b : Nat) : Int) ∣ a := Int.gcd_dvd_left ..
theorem gcd_r (a b : Int) : ((Int.gcd a b : Nat) : Int) ∣ b := Int.gcd_dvd_right ..
theorem qr_none {a b : Fa} {x : Int} (h : ft a x) (k : ft b x) : ¬ qr a b := by
  unfold qr
  refine fun q => q ?_
  have h1 := Int.dvd_trans (gcd_l a.2 b.2) h
  have h2 := Int.dvd_trans (gcd_r a.2 b.2) k
  have := Int.dvd_sub h2 h1
  have e : x - b.1 - (x - a.1) = a.1 - b.1 := by omega
  rwa [e] at this
/-- both facts in one: u is an inverse of a.2 / gcd -/
structure Both (a b f : Fa) : Prop where
  gd : Gd f
  n : f.2 = a.2 / ((Int.gcd a.2 b.2 : Nat) : Int) * b.2
  ft : ∀ x, ft f x ↔ RL.ft a x ∧ RL.ft b x
theorem both_put {a b : Fa} (ha : 0 < a.2) (hb : 0 < b.2) (hq : ¬ qr a b) {u : Int} (hu : (b.2 / ((Int.gcd a.2 b.2 : Nat) : Int)) ∣ (a.2 / ((Int.gcd a.2 b.2 : Nat) : Int)) * u - 1) :
    Both a b (md (a.1 + a.2 * ((b.1 - a.1) / ((Int.gcd a.2 b.2 : Nat) : Int) * u % (b.2 / ((Int.gcd a.2 b.2 : Nat) : Int)))) (a.2 / ((Int.gcd a.2 b.2 : Nat) : Int) * b.2)) := by
  have hq' : ((Int.gcd a.2 b.2 : Nat) : Int) ∣ a.1 - b.1 := Classical.byContradiction fun q => hq q
  have gpos : 0 < ((Int.gcd a.2 b.2 : Nat) : Int) := by
    have : 0 < Int.gcd a.2 b.2 := Int.gcd_pos_of_ne_zero_left _ (by omega)
    omega
  obtain ⟨p, hp⟩ := gcd_l a.2 b.2
  obtain ⟨q, hqq⟩ := gcd_r a.2 b.2
  obtain ⟨d, hd⟩ := hq'
  generalize hg : ((Int.gcd a.2 b.2 : Nat) : Int) = g at *
  have e1 : a.2 / g = p := by rw [hp]; exact Int.mul_ediv_cancel_left _ (by omega)
  have e2 : b.2 / g = q := by rw [hqq]; exact Int.mul_ediv_cancel_left _ (by omega)
  have e3 : (b.1 - a.1) / g = -d := by
    have : b.1 - a.1 = g * (-d) := by rw [Int.mul_neg, ← hd]; omega
    rw [this]; exact Int.mul_ediv_cancel_left _ (by omega)
  rw [e1, e2] at hu
  rw [e1, e2, e3]
  have ppos : 0 < p := by
    rcases Int.lt_or_le 0 p with h | h
    · exact h
    · have : g * p ≤ 0 := Int.mul_nonpos_of_nonneg_of_nonpos (by omega) h
      omega
  have wpos : 0 < p * b.2 := Int.mul_pos ppos hb
  -- the number put together fits both
  have t1 : a.2 ∣ a.1 + a.2 * (-d * u % q) - a.1 := ⟨-d * u % q, by omega⟩
  have t2 : b.2 ∣ a.1 + a.2 * (-d * u % q) - b.1 := by
    obtain ⟨c, hc⟩ := hu
    have hm : -d * u % q = -d * u - q * (-d * u / q) := by have := Int.mul_ediv_add_emod (-d * u) q; omega
    refine ⟨-d * c - p * (-d * u / q), ?_⟩
    have k : a.1 = b.1 + g * d := by omega
    rw [hm, k, hp, hqq]
    generalize -d * u / q = z
    have pu : p * u = q * c + 1 := by omega
    have : g * p * (-d * u - q * z) = -(g * d * (p * u)) - g * p * (q * z) := by grind
    rw [this, pu]
    grind
  refine ⟨md_gd wpos, by simp [md, hg, e1], fun x => ?_⟩
  rw [md_ft]
  constructor
  · intro h
    have ha' : a.2 ∣ p * b.2 := ⟨q, by rw [hp, hqq]; grind⟩
    have hb' : b.2 ∣ p * b.2 := Int.dvd_mul_left _ _
    constructor
    · have := Int.dvd_add (Int.dvd_trans ha' h) t1
      unfold ft
      have e : x - (a.1 + a.2 * (-d * u % q)) + (a.1 + a.2 * (-d * u % q) - a.1) = x - a.1 := by omega
      rwa [e] at this
    · have := Int.dvd_add (Int.dvd_trans hb' h) t2
      unfold ft
      have e : x - (a.1 + a.2 * (-d * u % q)) + (a.1 + a.2 * (-d * u % q) - b.1) = x - b.1 := by omega
      rwa [e] at this
  · rintro ⟨h1, h2⟩
    unfold ft at h1 h2
    have k1 := Int.dvd_sub h1 t1
    have k2 := Int.dvd_sub h2 t2
    have e4 : x - a.1 - (a.1 + a.2 * (-d * u % q) - a.1) = x - (a.1 + a.2 * (-d * u % q)) := by omega
    have e5 : x - b.1 - (a.1 + a.2 * (-d * u % q) - b.1) = x - (a.1 + a.2 * (-d * u % q)) := by omega
    rw [e4] at k1; rw [e5] at k2
    generalize x - (a.1 + a.2 * (-d * u % q)) = y at *
    obtain ⟨s, hs⟩ := k1
    obtain ⟨t, ht⟩ := k2
    obtain ⟨c, hc⟩ := hu
    -- g p s = g q t, p u = q c + 1
    have k3 : p * s = q * t := by
      have : g * (p * s) = g * (q * t) := by rw [hp] at hs; rw [hqq] at ht; grind
      exact Int.eq_of_mul_eq_mul_left (by omega) this
    have k4 : s = q * (u * t - c * s) := by
      have : s = p * u * s - q * c * s := by have : p * u = q * c + 1 := by omega
                                             rw [this]; grind
      rw [this]; grind
    refine ⟨u * t - c * s, ?_⟩
    rw [hs, hqq]
    calc a.2 * s = g * p * s := by rw [← hp]
      _ = g * p * (q * (u * t - c * s)) := by rw [← k4]
      _ = p * (g * q) * (u * t - c * s) := by grind
end RL
end
section
namespace RL
theorem bezN : ∀ (a b : Nat), ∃ u v : Int, ((Nat.gcd a b : Nat) : Int) = a * u + b * v
  | 0, b => ⟨0, 1, by simp⟩
  | a + 1, b => by
    obtain ⟨u, v, h⟩ := bezN (b % (a + 1)) (a + 1)
    refine ⟨v - (b / (a + 1) : Nat) * u, u, ?_⟩
    rw [Nat.gcd_rec, h]
    have := Nat.div_add_mod b (a + 1)
    have e : (b : Int) = ((a + 1 : Nat) : Int) * ((b / (a + 1) : Nat) : Int) + ((b % (a + 1) : Nat) : Int) := by exact_mod_cast this.symm
    generalize ((b / (a + 1) : Nat) : Int) = q at *
    generalize ((b % (a + 1) : Nat) : Int) = r at *
    generalize ((a + 1 : Nat) : Int) = s at *
    rw [e]; grind
termination_by a => a
decreasing_by exact Nat.mod_lt _ (by omega)
theorem bez (a b : Int) : ∃ u v : Int, ((Int.gcd a b : Nat) : Int) = a * u + b * v := by
  obtain ⟨u, v, h⟩ := bezN a.natAbs b.natAbs
  unfold Int.gcd
  rw [h]
  have ha : ∃ s : Int, (a.natAbs : Int) = a * s := by
    rcases Int.natAbs_eq a with e | e
    · exact ⟨1, by omega⟩
    · exact ⟨-1, by omega⟩
  have hb : ∃ s : Int, (b.natAbs : Int) = b * s := by
    rcases Int.natAbs_eq b with e | e
    · exact ⟨1, by omega⟩
    · exact ⟨-1, by omega⟩
  obtain ⟨s, hs⟩ := ha
  obtain ⟨t, ht⟩ := hb
  exact ⟨s * u, t * v, by rw [hs, ht]; grind⟩
theorem gcd_pos' {a b : Int} (h : 0 < a) : 0 < ((Int.gcd a b : Nat) : Int) := by
  have : 0 < Int.gcd a b := Int.gcd_pos_of_ne_zero_left _ (by omega)
  omega
theorem inv_ex {a b : Int} (ha : 0 < a) : ∃ u, (b / ((Int.gcd a b : Nat) : Int)) ∣ (a / ((Int.gcd a b : Nat) : Int)) * u - 1 := by
  obtain ⟨u, v, h⟩ := bez a b
  obtain ⟨p, hp⟩ := gcd_l a b
  obtain ⟨q, hq⟩ := gcd_r a b
  have gp := gcd_pos' (b := b) ha
  generalize ((Int.gcd a b : Nat) : Int) = g at *
  have e1 : a / g = p := by rw [hp]; exact Int.mul_ediv_cancel_left _ (by omega)
  have e2 : b / g = q := by rw [hq]; exact Int.mul_ediv_cancel_left _ (by omega)
  rw [e1, e2]
  refine ⟨u, -v, ?_⟩
  have : g * 1 = g * (p * u + q * v) := by rw [hp, hq] at h; grind
  have := Int.eq_of_mul_eq_mul_left (by omega : g ≠ 0) this
  grind
theorem both_ex {a b : Fa} (ha : 0 < a.2) (hb : 0 < b.2) (h : ¬ qr a b) : ∃ f, Both a b f := by
  obtain ⟨u, hu⟩ := inv_ex (a := a.2) (b := b.2) ha
  exact ⟨_, both_put ha hb h hu⟩
theorem Both.uniq {a b f g : Fa} (h : Both a b f) (k : Both a b g) : f = g := ft_uniq h.gd k.gd fun x => (h.ft x).trans (k.ft x).symm
open Classical in
noncomputable def pt (a b : Fa) : Fa := if h : ∃ f, Both a b f then h.choose else (0, 1)
theorem pt_both {a b : Fa} (ha : 0 < a.2) (hb : 0 < b.2) (h : ¬ qr a b) : Both a b (pt a b) := by
  have e := both_ex ha hb h
  unfold pt; rw [dif_pos e]; exact e.choose_spec
theorem pt_eq {a b f : Fa} (h : Both a b f) : pt a b = f := by
  have e : ∃ f, Both a b f := ⟨f, h⟩
  unfold pt; rw [dif_pos e]; exact e.choose_spec.uniq h
theorem Both.self {a b f : Fa} (h : Both a b f) : RL.ft a f.1 ∧ RL.ft b f.1 := (h.ft f.1).mp (by unfold RL.ft; simp)
theorem Both.dvd {a b f : Fa} {n : Int} (h : Both a b f) (ha : a.2 ∣ n) (hb : b.2 ∣ n) : f.2 ∣ n := by
  have ⟨h1, h2⟩ := h.self
  have : RL.ft f (f.1 + n) := (h.ft _).mpr ⟨by
    unfold RL.ft at h1 ⊢
    have := Int.dvd_add h1 ha
    have e : f.1 - a.1 + n = f.1 + n - a.1 := by omega
    rwa [e] at this, by
    unfold RL.ft at h2 ⊢
    have := Int.dvd_add h2 hb
    have e : f.1 - b.1 + n = f.1 + n - b.1 := by omega
    rwa [e] at this⟩
  unfold RL.ft at this
  have e : f.1 + n - f.1 = n := by omega
  rwa [e] at this
theorem distrib {a b n d : Int} (ha : 0 < a) (h1 : ((Int.gcd a n : Nat) : Int) ∣ d) (h2 : ((Int.gcd b n : Nat) : Int) ∣ d) : ((Int.gcd (a / ((Int.gcd a b : Nat) : Int) * b) n : Nat) : Int) ∣ d := by
  obtain ⟨p, q, h⟩ := bez a b
  obtain ⟨a', ha'⟩ := gcd_l a b
  obtain ⟨b', hb'⟩ := gcd_r a b
  have gp := gcd_pos' (b := b) ha
  generalize ((Int.gcd a b : Nat) : Int) = g at *
  have e1 : a / g = a' := by rw [ha']; exact Int.mul_ediv_cancel_left _ (by omega)
  rw [e1]
  have one : a' * p + b' * q = 1 := by
    have : g * (a' * p + b' * q) = g * 1 := by rw [ha', hb'] at h; grind
    exact Int.eq_of_mul_eq_mul_left (by omega) this
  obtain ⟨u, v, huv⟩ := bez a n
  obtain ⟨s, t, hst⟩ := bez b n
  obtain ⟨c1, hc1⟩ := h1
  obtain ⟨c2, hc2⟩ := h2
  rw [huv] at hc1
  rw [hst] at hc2
  have l1 := gcd_l (a' * b) n
  have l2 := gcd_r (a' * b) n
  generalize ((Int.gcd (a' * b) n : Nat) : Int) = e at *
  obtain ⟨w, hw⟩ := l1
  obtain ⟨z, hz⟩ := l2
  have ab : a * b' = e * w := by rw [← hw, ha', hb']; grind
  -- d = d a' p + d b' q
  have k1 : d * b' = e * (w * u * c1 + z * v * c1 * b') := by
    have : d * b' = (a * b') * u * c1 + n * v * c1 * b' := by rw [hc1]; grind
    rw [this, ab, hz]; grind
  have k2 : d * a' = e * (w * s * c2 + z * t * c2 * a') := by
    have : d * a' = (a' * b) * s * c2 + n * t * c2 * a' := by rw [hc2]; grind
    rw [this, hw, hz]; grind
  refine ⟨(w * s * c2 + z * t * c2 * a') * p + (w * u * c1 + z * v * c1 * b') * q, ?_⟩
  have : d = (d * a') * p + (d * b') * q := by
    have : d * (a' * p + b' * q) = d * 1 := by rw [one]
    grind
  rw [this, k1, k2]; grind
theorem qr_both {a b f c : Fa} (ha : 0 < a.2) (h : Both a b f) (h1 : ¬ qr a c) (h2 : ¬ qr b c) : ¬ qr f c := by
  have h1' := Classical.byContradiction h1
  have h2' := Classical.byContradiction h2
  have ⟨s1, s2⟩ := h.self
  refine fun q => q ?_
  rw [h.n]
  refine distrib ha ?_ ?_
  · have := Int.dvd_add (Int.dvd_trans (gcd_l a.2 c.2) s1) h1'
    have e : f.1 - a.1 + (a.1 - c.1) = f.1 - c.1 := by omega
    rwa [e] at this
  · have := Int.dvd_add (Int.dvd_trans (gcd_l b.2 c.2) s2) h2'
    have e : f.1 - b.1 + (b.1 - c.1) = f.1 - c.1 := by omega
    rwa [e] at this
noncomputable def jn : Fa → List Fa → Option Fa
  | g, [] => some g
  | g, f :: r => if qr g f then none else jn (pt g f) r
theorem jn_some : ∀ {l : List Fa} {g h : Fa}, Gd g → (∀ f ∈ l, Gd f) → jn g l = some h → Gd h ∧ (∀ x, ft h x ↔ ft g x ∧ ∀ f ∈ l, ft f x) ∧ ∀ n, g.2 ∣ n → (∀ f ∈ l, f.2 ∣ n) → h.2 ∣ n
  | [], g, h, gg, _, e => by cases e; exact ⟨gg, fun x => by simp, fun n a _ => a⟩
  | f :: r, g, h, gg, gl, e => by
    unfold jn at e
    split at e
    · cases e
    · rename_i q
      have gf := gl f List.mem_cons_self
      have B := pt_both gg.pos gf.pos q
      obtain ⟨h1, h2, h3⟩ := jn_some B.gd (fun f hf => gl f (List.mem_cons_of_mem _ hf)) e
      refine ⟨h1, fun x => ?_, fun n a b => h3 n (B.dvd a (b f List.mem_cons_self)) fun f hf => b f (List.mem_cons_of_mem _ hf)⟩
      rw [h2 x, B.ft x]
      simp only [List.mem_cons, forall_eq_or_imp]
      exact and_assoc
theorem jn_none : ∀ {l : List Fa} {g : Fa}, Gd g → (∀ f ∈ l, Gd f) → jn g l = none → ∀ x, ft g x → ¬ ∀ f ∈ l, ft f x
  | [], g, gg, _, e, _, _ => by cases e
  | f :: r, g, gg, gl, e, x, hx => fun a => by
    unfold jn at e
    have gf := gl f List.mem_cons_self
    split at e
    · rename_i q; exact qr_none hx (a f List.mem_cons_self) q
    · rename_i q
      have B := pt_both gg.pos gf.pos q
      exact jn_none B.gd (fun f hf => gl f (List.mem_cons_of_mem _ hf)) e x ((B.ft x).mpr ⟨hx, a f List.mem_cons_self⟩) fun f hf => a f (List.mem_cons_of_mem _ hf)
theorem jn_pw : ∀ {l : List Fa} {g : Fa}, Gd g → (∀ f ∈ l, Gd f) → (∀ f ∈ l, ¬ qr g f) → l.Pairwise (fun a b => ¬ qr a b) → ∃ h, jn g l = some h
  | [], g, _, _, _, _ => ⟨g, rfl⟩
  | f :: r, g, gg, gl, hg, hp => by
    have q := hg f List.mem_cons_self
    have gf := gl f List.mem_cons_self
    have B := pt_both gg.pos gf.pos q
    obtain ⟨p1, p2⟩ := List.pairwise_cons.mp hp
    obtain ⟨h, e⟩ := jn_pw B.gd (fun f hf => gl f (List.mem_cons_of_mem _ hf)) (fun c hc => qr_both gg.pos B (hg c (List.mem_cons_of_mem _ hc)) (p1 c hc)) p2
    exact ⟨h, by unfold jn; rw [if_neg q]; exact e⟩
theorem all_gd : Gd (0, 1) := by unfold Gd; decide
theorem all_ft (x : Int) : ft (0, 1) x := by unfold ft; exact Int.one_dvd _
theorem all_qr (f : Fa) : ¬ qr (0, 1) f := by
  refine fun q => q ?_
  have : Int.gcd 1 f.2 = 1 := by simp [Int.gcd]
  simp only [this]; exact Int.one_dvd _
end RL
end
section
namespace FL
open PySem
theorem splitA_plain : ∀ (ps : List Da) (n : Nat), splitA (ps.map D.v) n = ([], ps.map D.v)
  | [], _ => rfl
  | p :: ps, n => by simp only [List.map_cons, splitA, splitA_plain ps n]
theorem callF_v {n : Nat} {F : Fn} {ps : List Da} {r : Da} {S : List Cell} (hn : ps.length = n) (h : F (ps.map D.v) [] = .ok (.v r) []) : callF n F (ps.map D.v) S = .ok (.v r) S := by
  unfold callF
  rw [splitA_plain, if_pos ⟨by rw [List.length_map]; exact hn, List.nodup_nil⟩]
  simp only [cellsAt, callR, h, List.all_nil, if_true, putCells]
theorem callF_1 {F : Fn} {p r : Da} {S : List Cell} (h : F [.v p] [] = .ok (.v r) []) : callF 1 F [.v p] S = .ok (.v r) S := callF_v (ps := [p]) rfl h
theorem callF_2 {F : Fn} {p q r : Da} {S : List Cell} (h : F [.v p, .v q] [] = .ok (.v r) []) : callF 2 F [.v p, .v q] S = .ok (.v r) S := callF_v (ps := [p, q]) rfl h
theorem callF_3 {F : Fn} {p q r' r : Da} {S : List Cell} (h : F [.v p, .v q, .v r'] [] = .ok (.v r) []) : callF 3 F [.v p, .v q, .v r'] S = .ok (.v r) S := callF_v (ps := [p, q, r']) rfl h
theorem callF_4 {F : Fn} {p q r' s r : Da} {S : List Cell} (h : F [.v p, .v q, .v r', .v s] [] = .ok (.v r) []) : callF 4 F [.v p, .v q, .v r', .v s] S = .ok (.v r) S := callF_v (ps := [p, q, r', s]) rfl h
section
variable {α : Type} {ρ : Rho} {S : List Cell} {f g h : EM D} {a : EM (List D)} {t u : EM Bool} {x y : SM}
@[simp] theorem b_ok (r : α) (k : α → List Cell → ER β) : (ER.ok r S).bind k = k r S := rfl
@[simp] theorem s_eVar (i : Nat) : eVar i ρ S = match ρ[i]? with | some (some d) => .ok d S | _ => .bad := rfl
@[simp] theorem s_eC (p : Da) : eC p ρ S = .ok (.v p) S := rfl
@[simp] theorem s_op2 (o : Da → Da → Option Da) : eOp2 o f g ρ S = (f ρ S).bind fun d S1 => (g ρ S1).bind fun d' S2 => match view S2 d, view S2 d' with | some p, some q => (match o p q with | some r => .ok (.v r) S2 | none => .bad) | _, _ => .bad := rfl
@[simp] theorem s_opB (o : Da → Da → Option Bool) : eOpB o f g ρ S = (f ρ S).bind fun d S1 => (g ρ S1).bind fun d' S2 => match view S2 d, view S2 d' with | some p, some q => (match o p q with | some r => .ok r S2 | none => .bad) | _, _ => .bad := rfl
@[simp] theorem s_bl : eBl t ρ S = (t ρ S).bind fun b S1 => .ok (.v (.bl b)) S1 := rfl
@[simp] theorem s_tru : eTru f ρ S = (f ρ S).bind fun d S1 => match view S1 d with | some p => (match truP p with | some b => .ok b S1 | none => .bad) | none => .bad := rfl
@[simp] theorem s_notT : eNotT t ρ S = (t ρ S).bind fun b S1 => .ok (!b) S1 := rfl
@[simp] theorem s_andT : eAndT t u ρ S = (t ρ S).bind fun b S1 => if b = true then u ρ S1 else .ok false S1 := rfl
@[simp] theorem s_orT : eOrT t u ρ S = (t ρ S).bind fun b S1 => if b = true then .ok true S1 else u ρ S1 := rfl
@[simp] theorem s_andV : eAndV f g ρ S = (f ρ S).bind fun d S1 => match d with | .v (.bl true) => g ρ S1 | .v (.bl false) => .ok (.v (.bl false)) S1 | _ => .bad := rfl
@[simp] theorem s_orV : eOrV f g ρ S = (f ρ S).bind fun d S1 => match d with | .v (.bl true) => .ok (.v (.bl true)) S1 | .v (.bl false) => g ρ S1 | _ => .bad := rfl
@[simp] theorem s_notV : eNotV f ρ S = (f ρ S).bind fun d S1 => match d with | .v (.bl b) => .ok (.v (.bl (!b))) S1 | _ => .bad := rfl
@[simp] theorem s_if : eIf t f g ρ S = (t ρ S).bind fun b S1 => if b = true then f ρ S1 else g ρ S1 := rfl
@[simp] theorem s_neg : eNeg f ρ S = (f ρ S).bind fun d S1 => match d with | .v (.int i) => .ok (.v (.int (-i))) S1 | _ => .bad := rfl
@[simp] theorem s_nil : aNil ρ S = .ok [] S := rfl
@[simp] theorem s_cons : aCons f a ρ S = (f ρ S).bind fun d S1 => (a ρ S1).bind fun ds S2 => .ok (d :: ds) S2 := rfl
@[simp] theorem s_tup : eTup a ρ S = (a ρ S).bind fun ds S1 => match plains ds with | some ps => if ps.length ≤ 1000000 then .ok (.v (.tup ps)) S1 else .bad | none => .bad := rfl
@[simp] theorem s_lst : eLst a ρ S = (a ρ S).bind fun ds S1 => match plains ds with | some ps => if ps.length ≤ 1000000 then .ok (.v (.lst ps)) S1 else .bad | none => .bad := rfl
@[simp] theorem s_lstN : eLstN a ρ S = (a ρ S).bind fun ds S1 => match plains ds with | some ps => if ps.length ≤ 1000000 then .ok (.o S1.length) (S1 ++ [.lst ps]) else .bad | none => .bad := rfl
@[simp] theorem s_cb (o : List Da → Option Da) : eCB o a ρ S = (a ρ S).bind fun ds S1 => match viewAll S1 ds with | some ps => (match o ps with | some r => .ok (.v r) S1 | none => .bad) | none => .bad := rfl
@[simp] theorem s_chain (o1 o2 : Da → Da → Option Bool) : eChain o1 o2 f g h ρ S = (f ρ S).bind fun d S1 => (g ρ S1).bind fun d' S2 => match view S2 d, view S2 d' with
  | some p, some q => (match o1 p q with
    | some b => if b = true then (h ρ S2).bind fun d2 S3 => (match view S3 d', view S3 d2 with
        | some q, some r => (match o2 q r with
          | some b => .ok b S3
          | none => .bad)
        | _, _ => .bad) else .ok false S2
    | none => .bad)
  | _, _ => .bad := rfl
@[simp] theorem s_call (n : Nat) (F : Fn) : eCall n F a ρ S = (a ρ S).bind fun ds S1 => (callF n F ds S1).bind fun r S2 => .ok (rvD r) S2 := rfl
@[simp] theorem s_rev : eRev f ρ S = (f ρ S).bind fun d S1 => match view S1 d with | some p => (match revP p with | some r => .ok (.v r) S1 | none => .bad) | none => .bad := rfl
@[simp] theorem s_seq : sSeq x y ρ S = match x ρ S with | .nx ρ1 S1 => y ρ1 S1 | r => r := rfl
@[simp] theorem s_ret : sRet f ρ S = match f ρ S with | .ok d S => .rt d S | .err C fs S1 => .err ρ C fs S1 | .bad => .bad := by unfold sRet sThen; cases f ρ S <;> rfl
@[simp] theorem s_drop : sDrop f ρ S = match f ρ S with | .ok d S => .nx ρ S | .err C fs S1 => .err ρ C fs S1 | .bad => .bad := by unfold sDrop sThen; cases f ρ S <;> rfl
@[simp] theorem s_set (i : Nat) : sSet i f ρ S = match f ρ S with | .ok d S => .nx (ρ.set i (some d)) S | .err C fs S1 => .err ρ C fs S1 | .bad => .bad := by unfold sSet sThen; cases f ρ S <;> rfl
@[simp] theorem s_sif : sIf t x y ρ S = match t ρ S with | .ok b S => if b = true then x ρ S else y ρ S | .err C fs S1 => .err ρ C fs S1 | .bad => .bad := by unfold sIf sThen; cases t ρ S <;> rfl
@[simp] theorem s_next : sNext ρ S = .nx ρ S := rfl
@[simp] theorem s_bad : sBad ρ S = .bad := rfl
@[simp] theorem s_par (i j : Nat) : sPar i j a ρ S = match a ρ S with | .ok ds S => (match ds with | [d, d'] => .nx ((ρ.set i (some d)).set j (some d')) S | _ => .bad) | .err C fs S1 => .err ρ C fs S1 | .bad => .bad := by unfold sPar sThen; cases a ρ S <;> rfl
@[simp] theorem s_par3 (i j l : Nat) : sPar3 i j l a ρ S = match a ρ S with | .ok ds S => (match ds with | [d, d', d2] => .nx (((ρ.set i (some d)).set j (some d')).set l (some d2)) S | _ => .bad) | .err C fs S1 => .err ρ C fs S1 | .bad => .bad := by unfold sPar3 sThen; cases a ρ S <;> rfl
@[simp] theorem s_unp (T : Tg) : sUnp T f ρ S = match f ρ S with | .ok d S => (match d with | .v p => (match tgSet T p ρ with | some ρ' => .nx ρ' S | none => .bad) | .o _ => .bad) | .err C fs S1 => .err ρ C fs S1 | .bad => .bad := by unfold sUnp sThen; cases f ρ S <;> rfl
@[simp] theorem s_for (it : EM (List Da)) (T : Tg) : sFor it T x ρ S = match it ρ S with | .ok l S => fLoop T x l ρ S | .err C fs S1 => .err ρ C fs S1 | .bad => .bad := by unfold sFor sThen; cases it ρ S <;> rfl
@[simp] theorem s_seqI : iSeq f ρ S = (f ρ S).bind fun d S1 => match d with | .v p => (match seqP p with | some l => .ok l S1 | none => .bad) | .o _ => .bad := rfl
@[simp] theorem s_r1 : iRange1 a ρ S = (a ρ S).bind fun ds S1 => match ds with | [.v (.int j)] => if smallI j = true then .ok (rngD 0 j.toNat) S1 else .bad | _ => .bad := rfl
@[simp] theorem s_r2 : iRange2 a ρ S = (a ρ S).bind fun ds S1 => match ds with | [.v (.int i), .v (.int j)] => if (smallI i && smallI j) = true then .ok (rngD i (j - i).toNat) S1 else .bad | _ => .bad := rfl
@[simp] theorem s_yes : eYes ρ S = .ok true S := rfl
@[simp] theorem s_vw (p : Da) : view S (.v p) = some p := rfl
@[simp] theorem s_vwN : viewAll S [] = some [] := rfl
@[simp] theorem s_vwC (d : D) (ds : List D) : viewAll S (d :: ds) = match view S d, viewAll S ds with | some p, some ps => some (p :: ps) | _, _ => none := rfl
@[simp] theorem s_rvv (p : Da) : rvD (.v p) = .v p := rfl
@[simp] theorem s_finv (p : Da) : fin 0 (.v p) S = .ok (.v p) [] := by simp [fin]
@[simp] theorem s_run (n N : Nat) (b : SM) (ds : List D) : runDef n N b ds S = if ds.length = n then (match b (ds.map some ++ List.replicate (N - n) none) S with
    | .rt d S1 => fin S.length d S1
    | .nx _ S1 => fin S.length (.v .non) S1
    | .err _ C fs S1 => if ((S1.take S.length).all (closedC S.length) && closedF S.length fs) = true then .err C fs (S1.take S.length) else .bad
    | _ => .bad) else .bad := rfl
@[simp] theorem s_plN : plains [] = some [] := rfl
@[simp] theorem s_plC (p : Da) (r : List D) : plains (.v p :: r) = match plains r with | some ps => some (p :: ps) | none => none := rfl
@[simp] theorem s_fl0 (T : Tg) : fLoop T x [] ρ S = .nx ρ S := rfl
@[simp] theorem s_tnm (i : Nat) (d : Da) : tgSet (.nm i) d ρ = some (ρ.set i (some (.v d))) := rfl
@[simp] theorem s_ttp (l : List Nat) (ds : List Da) : tgSet (.tup l) (.tup ds) ρ = setAll l ds ρ := rfl
@[simp] theorem s_sa0 : setAll [] [] ρ = some ρ := rfl
@[simp] theorem s_saC (i : Nat) (l : List Nat) (d : Da) (ds : List Da) : setAll (i :: l) (d :: ds) ρ = setAll l ds (ρ.set i (some (.v d))) := rfl
end
@[simp] theorem o_add (i j : Int) : addP (.int i) (.int j) = some (.int (i + j)) := rfl
@[simp] theorem o_sub (i j : Int) : subP (.int i) (.int j) = some (.int (i - j)) := rfl
@[simp] theorem o_mul (i j : Int) : mulP (.int i) (.int j) = if mulOk i j = true then some (.int (i * j)) else none := rfl
@[simp] theorem o_mod (i j : Int) : modP (.int i) (.int j) = if modOk i j = true then some (.int (i % j)) else none := rfl
@[simp] theorem o_div (i j : Int) : divP (.int i) (.int j) = if divOk i j = true then some (.int (i / j)) else none := rfl
@[simp] theorem o_lt (i j : Int) : ltP (.int i) (.int j) = some (decide (i < j)) := rfl
@[simp] theorem o_le (i j : Int) : leP (.int i) (.int j) = some (decide (i ≤ j)) := rfl
@[simp] theorem o_gt (i j : Int) : gtP (.int i) (.int j) = some (decide (j < i)) := rfl
@[simp] theorem o_ge (i j : Int) : geP (.int i) (.int j) = some (decide (j ≤ i)) := rfl
@[simp] theorem o_eq (i j : Int) : eqP (.int i) (.int j) = some (decide (i = j)) := by
  have sh : ∀ i : Int, SeqAt.shaped (.int i) = true := fun i => by simp [SeqAt.shaped, PyData.canLay0, PyData.depth]
  simp only [eqP, toPy, sh, and_self, if_true]
  have : PyData.eqv (.int i) (.int j) = decide (i = j) := by simp [PyData.eqv] <;> rfl
  rw [this]
@[simp] theorem o_ne (i j : Int) : neP (.int i) (.int j) = some (!decide (i = j)) := by
  unfold neP; rw [o_eq]
theorem o_isI (i : Int) : isiP [.int i, .ty "int"] = some (.bl true) := by simp [isiP, tyName]; rfl
theorem o_isB (i : Int) : isiP [.int i, .ty "bool"] = some (.bl false) := by simp [isiP, tyName]; rfl
theorem o_isT (l : List Da) : isiP [.tup l, .ty "tuple"] = some (.bl true) := by simp [isiP, tyName]; rfl
section
variable {ρ : Rho} {S S1 : List Cell} {T : Tg} {t : EM Bool} {f : EM D}
theorem lcLoop_pure {b : Da → Bool} {e : Da → Da} : ∀ (l acc : List Da), (∀ d ∈ l, ∃ ρ1, tgSet T d ρ = some ρ1 ∧ t ρ1 S = .ok (b d) S ∧ (b d = true → f ρ1 S = .ok (.v (e d)) S)) → lcLoop T t f l ρ S acc = .ok (acc ++ (l.filter b).map e) S
  | [], acc, _ => by simp [lcLoop]
  | d :: l, acc, h => by
    obtain ⟨ρ1, h1, h2, h3⟩ := h d List.mem_cons_self
    have ih := fun acc => lcLoop_pure l acc fun d hd => h d (List.mem_cons_of_mem _ hd)
    unfold lcLoop
    rw [h1]
    simp only [h2]
    cases hb : b d with
    | false => rw [if_neg (by simp), ih, List.filter_cons_of_neg (by simp [hb])]
    | true => rw [if_pos rfl, h3 hb]; simp only []; rw [ih, List.filter_cons_of_pos hb]; simp
theorem lc_pure {it : EM (List Da)} {ws : List Nat} {l : List Da} (b : Da → Bool) (e : Da → Da) (h0 : it ρ S = .ok l S1) (hl : l.length ≤ 1000000) (h : ∀ d ∈ l, ∃ ρ1, tgSet T d (wipeR ρ ws) = some ρ1 ∧ t ρ1 S1 = .ok (b d) S1 ∧ (b d = true → f ρ1 S1 = .ok (.v (e d)) S1)) :
    eLc it T t f ws ρ S = .ok (.v (.lst ((l.filter b).map e))) S1 := by
  unfold eLc
  rw [h0, b_ok, if_pos hl, lcLoop_pure l [] h]
  rfl
end
end FL
end
section
namespace FL
open PySem
mutual
def okI : Da → Bool
  | .non => true
  | .bl _ => true
  | .int i => decide (0 ≤ i) && decide (i < 10 ^ 20)
  | .lst l => okIs l
  | .tup l => okIs l
  | _ => false
def okIs : List Da → Bool
  | [] => true
  | p :: r => okI p && okIs r
end
mutual
def szD : Da → Nat
  | .lst l => szDs l + 3
  | .tup l => szDs l + 3
  | _ => 21
def szDs : List Da → Nat
  | [] => 0
  | p :: r => szD p + 2 + szDs r
end
mutual
def dpD : Da → Nat
  | .lst l => dpDs l + 1
  | .tup l => dpDs l + 1
  | _ => 0
def dpDs : List Da → Nat
  | [] => 0
  | p :: r => max (dpD p) (dpDs r)
end
structure Nice (p : Da) (d : PyData) : Prop where
  py : toPy p = some d
  lay : d.canLay0 = true
  sh : d.showable = true
  dp : d.depth = dpD p
  sz : d.shown.length ≤ szD p
structure Nices (p : List Da) (d : List PyData) : Prop where
  py : toPys p = some d
  lay : PyData.canLayAll0 d = true
  sh : PyData.showableAll d = true
  dp : PyData.depthAll d = dpDs p
  sz : ((PyData.shownAll d).map (·.length)).sum + 2 * (PyData.shownAll d).length ≤ szDs p
mutual
theorem nice : ∀ p : Da, okI p = true → ∃ d, Nice p d
  | .non, _ => ⟨.none, rfl, by simp [PyData.canLay0], by simp [PyData.showable], by simp [PyData.depth, dpD], by simp only [PyData.shown, szD]; decide⟩
  | .bl b, _ => ⟨.bool b, rfl, by simp [PyData.canLay0], by simp [PyData.showable], by simp [PyData.depth, dpD], by simp only [PyData.shown, szD]; cases b <;> decide⟩
  | .int i, h => by
    have h0' : 0 ≤ i ∧ i < 10 ^ 20 := by simpa [okI] using h
    have h' : i.natAbs < 10 ^ 20 := by omega
    have hl : i.natAbs.log2 < 1920 := by
      by_cases h0 : i.natAbs = 0
      · rw [h0]; decide
      · have := (Nat.log2_lt (n := i.natAbs) (k := 1920) h0).mpr (Nat.lt_trans h' (by decide +kernel))
        exact this
    refine ⟨.int i, rfl, by simp [PyData.canLay0], by simpa [PyData.showable] using hl, by simp [PyData.depth, dpD], ?_⟩
    have := PyProof.Rows.toString_length_le h0'.1 (k := 20) (by decide) h0'.2
    simp only [PyData.shown, szD]
    omega
  | .lst l, h => by
    obtain ⟨ds, n⟩ := nices l (by simpa [okI] using h)
    refine ⟨.list ds, by simp only [toPy, n.py], by simp only [PyData.canLay0, n.lay], by simp only [PyData.showable, n.sh], by simp only [PyData.depth, n.dp, dpD], ?_⟩
    simp only [PyData.shown, szD]
    exact Nat.le_trans (listText_len_le _) (Nat.add_le_add_right n.sz 3)
  | .tup l, h => by
    obtain ⟨ds, n⟩ := nices l (by simpa [okI] using h)
    refine ⟨.tuple ds, by simp only [toPy, n.py], by simp only [PyData.canLay0, n.lay], by simp only [PyData.showable, n.sh], by simp only [PyData.depth, n.dp, dpD], ?_⟩
    simp only [PyData.shown, szD]
    exact Nat.le_trans (tupleText_len_le _) (Nat.add_le_add_right n.sz 3)
  | .str _, h => by simp [okI] at h
  | .flst _, h => by simp [okI] at h
  | .dct _ _, h => by simp [okI] at h
  | .dck _ _, h => by simp [okI] at h
  | .ref _, h => by simp [okI] at h
  | .ty _, h => by simp [okI] at h
theorem nices : ∀ p : List Da, okIs p = true → ∃ d, Nices p d
  | [], _ => ⟨[], rfl, by simp [PyData.canLayAll0], by simp [PyData.showableAll], by simp [PyData.depthAll, dpDs], by simp [PyData.shownAll]⟩
  | p :: r, h => by
    have h' : okI p = true ∧ okIs r = true := by simpa [okIs] using h
    obtain ⟨d, n⟩ := nice p h'.1
    obtain ⟨ds, m⟩ := nices r h'.2
    refine ⟨d :: ds, by simp only [toPys, n.py, m.py], by simp only [PyData.canLayAll0, n.lay, m.lay, Bool.and_self], by simp only [PyData.showableAll, n.sh, m.sh, Bool.and_self], by simp only [PyData.depthAll, dpDs, n.dp, m.dp], ?_⟩
    have a := n.sz
    have b := m.sz
    simp only [PyData.shownAll, szDs, List.map_cons, List.sum_cons, List.length_cons]
    omega
end
theorem repr_lst {l : List Da} (h : okIs l = true) (h2 : dpDs l < 20) (h3 : szDs l ≤ 16000000) : ∃ t, reprP [.lst l] = some (.str t) := by
  obtain ⟨d, n⟩ := nice (.lst l) (by simpa [okI] using h)
  refine ⟨d.shown, ?_⟩
  have a := n.dp
  have b := n.sz
  simp only [dpD, szD] at a b
  have c := sizeLine_eq
  simp only [reprP, n.py]
  rw [if_pos ⟨n.sh, PyData.hasDict_of_canLay d n.lay, by omega, by omega⟩]
theorem ne_str (t : Str) : neSP (.str t) (.str t) = some false := by simp [neSP]
end FL
end
section
variable [FL.TabsOf]
namespace FL
open PySem
section
variable {T : Tg} {body : SM} {S : List Cell}
theorem fL_from {l0 : List Da} (P : Nat → Rho → Prop) (h : ∀ i d ρ, l0[i]? = some d → P i ρ → ∃ ρ1 ρ2, tgSet T d ρ = some ρ1 ∧ body ρ1 S = .nx ρ2 S ∧ P (i + 1) ρ2) : ∀ (l : List Da) (k : Nat), l0.drop k = l → ∀ {ρ : Rho}, P k ρ → ∃ ρ', fLoop T body l ρ S = .nx ρ' S ∧ P (k + l.length) ρ'
  | [], k, e, ρ, p => ⟨ρ, rfl, p⟩
  | d :: l, k, e, ρ, p => by
    have hk : l0[k]? = some d := by
      have := congrArg (fun x : List Da => x[0]?) e
      simpa [List.getElem?_drop] using this
    obtain ⟨ρ1, ρ2, h1, h2, h3⟩ := h k d ρ hk p
    have e' : l0.drop (k + 1) = l := by rw [← List.drop_drop, e] <;> rfl
    obtain ⟨ρ', h4, h5⟩ := fL_from P h l (k + 1) e' h3
    refine ⟨ρ', ?_, by rw [List.length_cons, Nat.add_comm l.length 1, ← Nat.add_assoc]; exact h5⟩
    unfold fLoop
    simp only [h1, h2, h4]
theorem fL {l : List Da} (P : Nat → Rho → Prop) (h : ∀ i d ρ, l[i]? = some d → P i ρ → ∃ ρ1 ρ2, tgSet T d ρ = some ρ1 ∧ body ρ1 S = .nx ρ2 S ∧ P (i + 1) ρ2) {ρ : Rho} (h0 : P 0 ρ) : ∃ ρ', fLoop T body l ρ S = .nx ρ' S ∧ P l.length ρ' := by
  have := fL_from P h l 0 rfl h0
  simpa using this
end
theorem enD_at {l : List Da} {i : Nat} {d : Da} (h : (enD l)[i]? = some d) : ∃ x, l[i]? = some x ∧ d = .tup [.int (i : Nat), x] ∧ i < l.length := by
  unfold enD at h
  rw [List.getElem?_map] at h
  by_cases hi : i < l.length
  · rw [List.getElem?_range hi] at h
    simp at h
    refine ⟨l[i], List.getElem?_eq_getElem hi, ?_, hi⟩
    rw [← h]; simp [List.getD, List.getElem?_eq_getElem hi]
  · rw [List.getElem?_eq_none (by simpa using hi)] at h
    cases h
@[simp] theorem s_enum {a : EM (List D)} {ρ S} : iEnum a ρ S = (a ρ S).bind fun ds S1 => match ds with | [.v p] => (match seqP p with | some l => .ok (enD l) S1 | none => .bad) | _ => .bad := rfl
@[simp] theorem s_zip {a : EM (List D)} {ρ S} : iZip a ρ S = (a ρ S).bind fun ds S1 => match ds with | [.v (.lst l), .v (.lst k)] => .ok (zipD l k) S1 | [.v (.tup l), .v (.tup k)] => .ok (zipD l k) S1 | _ => .bad := rfl
@[simp] theorem q_tup (l : List Da) : seqP (.tup l) = some l := rfl
@[simp] theorem q_lst (l : List Da) : seqP (.lst l) = some l := rfl
@[simp] theorem q_fl (l : List Da) : seqP (.flst l) = some l := rfl
@[simp] theorem t_b (b : Bool) : truP (.bl b) = some b := rfl
@[simp] theorem t_i (i : Int) : truP (.int i) = some (i != 0) := rfl
@[simp] theorem l_tup (l : List Da) : lenP [.tup l] = some (.int l.length) := rfl
@[simp] theorem l_lst (l : List Da) : lenP [.lst l] = some (.int l.length) := rfl
@[simp] theorem l_fl (l : List Da) : lenP [.flst l] = some (.int l.length) := rfl
@[simp] theorem o_all (bs : List Bool) : allP [.lst (bs.map Da.bl)] = some (.bl (bs.all id)) := by simp only [allP, blsOf_map]
@[simp] theorem o_mx (n : Int) (r : List Int) : maxAllP [.lst ((n :: r).map Da.int)] = some (.int (maxI (n :: r))) := by simp only [maxAllP, intsOf_map]
@[simp] theorem o_mx2 (i j : Int) : max2P [.int i, .int j] = some (.int (if j > i then j else i)) := rfl
@[simp] theorem o_mn2 (i j : Int) : min2P [.int i, .int j] = some (.int (if j < i then j else i)) := rfl
@[simp] theorem o_abs (i : Int) : absP [.int i] = some (.int (if i < 0 then -i else i)) := rfl
@[simp] theorem o_tl (l : List Da) : tupleP [.lst l] = some (.tup l) := rfl
@[simp] theorem o_tt (l : List Da) : tupleP [.tup l] = some (.tup l) := rfl
def rngI (lo : Int) (n : Nat) : List Int := (List.range n).map fun i => lo + (i : Nat)
theorem rngD_I (lo : Int) (n : Nat) : rngD lo n = (rngI lo n).map Da.int := by unfold rngD rngI; rw [List.map_map] <;> rfl
theorem rngI_len (lo : Int) (n : Nat) : (rngI lo n).length = n := by simp [rngI]
theorem rngI_mem {lo : Int} {n : Nat} {x : Int} : x ∈ rngI lo n ↔ lo ≤ x ∧ x < lo + n := by
  unfold rngI
  simp only [List.mem_map, List.mem_range]
  constructor
  · rintro ⟨i, hi, rfl⟩; omega
  · intro h; exact ⟨(x - lo).toNat, by omega, by omega⟩
theorem rngI_add (lo : Int) (n m : Nat) : rngI lo (n + m) = rngI lo n ++ rngI (lo + n) m := by
  unfold rngI
  rw [List.range_add, List.map_append, List.map_map]
  congr 1
  refine List.map_congr_left fun i _ => ?_
  show lo + ((n + i : Nat) : Int) = lo + (n : Int) + (i : Int)
  omega
theorem rngI_pw (lo : Int) (n : Nat) : (rngI lo n).Pairwise (· < ·) := by
  unfold rngI
  rw [List.pairwise_map]
  exact List.pairwise_lt_range.imp fun {a b} h => by omega
theorem seq_nx {f g : SM} {ρ ρ1 : Rho} {S S1 : List Cell} (h : f ρ S = .nx ρ1 S1) : sSeq f g ρ S = g ρ1 S1 := by
  rw [s_seq, h]
theorem pw {i j v : Int} (h1 : powOk i j = true) (h2 : i ^ j.toNat = v) : powP (.int i) (.int j) = some (.int v) := by
  show (if powOk i j = true then _ else _) = _
  rw [if_pos h1]
  show some (Da.int (i ^ j.toNat)) = _
  rw [h2]
theorem p20 : powP (.int 10) (.int 20) = some (.int 100000000000000000000) := pw (by decide +kernel) (by decide +kernel)
theorem p9 : powP (.int 10) (.int 9) = some (.int 1000000000) := pw (by decide +kernel) (by decide +kernel)
theorem p21 : powP (.int 10) (.int 21) = some (.int 1000000000000000000000) := pw (by decide +kernel) (by decide +kernel)
@[simp] theorem en1 (x : Da) : enD [x] = [.tup [.int 0, x]] := rfl
@[simp] theorem at_neg1 (l : List Da) (x : Da) : L2.atI (l ++ [x]) (-1) = some x := by
  unfold L2.atI L2.ixN
  have : (l ++ [x]).length = l.length + 1 := by simp
  rw [this, if_neg (by decide), if_pos (by omega)]
  have e : (-1 + ((l.length + 1 : Nat) : Int)).toNat = l.length := by omega
  rw [e]
  simp
theorem cut_n {l : List Da} (n : Nat) : cutD l none (some (n : Int)) = l.take n := by
  unfold cutD
  rw [HT.sIx_none, HT.sIx_nat]
  simp only [List.drop_zero, Nat.sub_zero]
  rcases Nat.le_total n l.length with h | h
  · rw [Nat.min_eq_left h]
  · rw [Nat.min_eq_right h, List.take_length, List.take_of_length_le h]
theorem run_rt {n N : Nat} {sem : SM} {ds : List D} {r : Da} (hn : ds.length = n) (h : sem (ds.map some ++ List.replicate (N - n) none) [] = .rt (.v r) []) : runDef n N sem ds [] = .ok (.v r) [] := by
  rw [s_run, if_pos hn, h]
  exact s_finv r
end FL
end
section
namespace RL
abbrev Wt := List (Fa × Int)
def gw : Wt → Fa → Option Int
  | [], _ => none
  | p :: r, f => if p.1 = f then some p.2 else gw r f
def sw (W : Wt) (f : Fa) (w : Int) : Wt := match gw W f with
  | some _ => W.map fun p => if p.1 = f then (p.1, w) else p
  | none => W ++ [(f, w)]
def wt (W : Wt) (x : Int) : Int := (W.map fun p => if ft p.1 x then p.2 else 0).sum
def nd (W : Wt) : Prop := (W.map (·.1)).Nodup
def ab (W : Wt) : Nat := (W.map fun p => p.2.natAbs).sum
def ad (W : Wt) (f : Fa) (w : Int) : Wt := sw W f ((gw W f).getD 0 + w)
theorem gw_none : ∀ {W : Wt} {f : Fa}, gw W f = none ↔ f ∉ W.map (·.1)
  | [], f => by simp [gw]
  | p :: r, f => by
    unfold gw
    by_cases e : p.1 = f
    · simp [e]
    · have ih := gw_none (W := r) (f := f)
      rw [if_neg e, ih, List.map_cons, List.mem_cons, not_or]
      exact ⟨fun h => ⟨fun z => e z.symm, h⟩, fun h => h.2⟩
theorem nd_cons {p : Fa × Int} {W : Wt} : nd (p :: W) ↔ p.1 ∉ W.map (·.1) ∧ nd W := by unfold nd; rw [List.map_cons, List.nodup_cons]
theorem map_none {f : Fa} {w : Int} : ∀ {W : Wt}, f ∉ W.map (·.1) → W.map (fun p => if p.1 = f then (p.1, w) else p) = W
  | [], _ => rfl
  | p :: r, h => by
    rw [List.map_cons, List.mem_cons, not_or] at h
    rw [List.map_cons, if_neg (fun z => h.1 z.symm), map_none h.2]
theorem wt_map {f : Fa} {w : Int} {x : Int} : ∀ {W : Wt} {v : Int}, nd W → gw W f = some v → wt (W.map fun p => if p.1 = f then (p.1, w) else p) x = wt W x + if ft f x then w - v else 0
  | [], v, _, h => by cases h
  | p :: r, v, hn, h => by
    obtain ⟨h1, h2⟩ := nd_cons.mp hn
    unfold gw at h
    by_cases e : p.1 = f
    · rw [if_pos e] at h
      cases h
      have : f ∉ r.map (·.1) := by rw [← e]; exact h1
      rw [List.map_cons, if_pos e, map_none this]
      unfold wt
      simp only [List.map_cons, List.sum_cons, e]
      split <;> omega
    · rw [if_neg e] at h
      have ih := wt_map (x := x) (w := w) h2 h
      rw [List.map_cons, if_neg e]
      unfold wt at ih ⊢
      simp only [List.map_cons, List.sum_cons]
      rw [ih]; omega
theorem wt_append (W V : Wt) (x : Int) : wt (W ++ V) x = wt W x + wt V x := by unfold wt; rw [List.map_append, List.sum_append]
theorem wt_ad {W : Wt} (hn : nd W) (f : Fa) (w x : Int) : wt (ad W f w) x = wt W x + if ft f x then w else 0 := by
  unfold ad sw
  cases h : gw W f with
  | none =>
    simp only [Option.getD_none, Int.zero_add]
    rw [wt_append]
    simp [wt]
  | some v =>
    simp only [Option.getD_some]
    rw [wt_map hn h]
    split <;> omega
theorem sw_keys {W : Wt} {f : Fa} {w : Int} : (sw W f w).map (·.1) = if f ∈ W.map (·.1) then W.map (·.1) else W.map (·.1) ++ [f] := by
  unfold sw
  cases h : gw W f with
  | none => rw [if_neg (gw_none.mp h)]; simp
  | some v =>
    have : f ∈ W.map (·.1) := Classical.byContradiction fun z => by rw [gw_none.mpr z] at h; cases h
    rw [if_pos this, List.map_map]
    refine List.map_congr_left fun p _ => ?_
    show (if p.1 = f then (p.1, w) else p).1 = p.1
    split <;> rfl
theorem nd_sw {W : Wt} (hn : nd W) (f : Fa) (w : Int) : nd (sw W f w) := by
  unfold nd at *
  rw [sw_keys]
  split
  · exact hn
  · rename_i h
    rw [List.nodup_append]
    refine ⟨hn, by simp, fun a ha b hb => ?_⟩
    simp only [List.mem_cons, List.not_mem_nil, or_false] at hb
    subst hb
    exact fun z => h (z ▸ ha)
theorem nd_ad {W : Wt} (hn : nd W) (f : Fa) (w : Int) : nd (ad W f w) := nd_sw hn f _
theorem len_sw (W : Wt) (f : Fa) (w : Int) : (sw W f w).length ≤ W.length + 1 := by
  unfold sw
  split <;> simp
theorem ab_map {f : Fa} {w : Int} : ∀ {W : Wt} {v : Int}, nd W → gw W f = some v → ab (W.map fun p => if p.1 = f then (p.1, w) else p) ≤ ab W + (w - v).natAbs
  | [], v, _, h => by cases h
  | p :: r, v, hn, h => by
    obtain ⟨h1, h2⟩ := nd_cons.mp hn
    unfold gw at h
    by_cases e : p.1 = f
    · rw [if_pos e] at h
      cases h
      have : f ∉ r.map (·.1) := by rw [← e]; exact h1
      rw [List.map_cons, if_pos e, map_none this]
      unfold ab
      simp only [List.map_cons, List.sum_cons]
      omega
    · rw [if_neg e] at h
      have ih := ab_map (w := w) h2 h
      rw [List.map_cons, if_neg e]
      unfold ab at ih ⊢
      simp only [List.map_cons, List.sum_cons]
      omega
theorem ab_append (W V : Wt) : ab (W ++ V) = ab W + ab V := by unfold ab; rw [List.map_append, List.sum_append]
theorem ab_ad {W : Wt} (hn : nd W) (f : Fa) (w : Int) : ab (ad W f w) ≤ ab W + w.natAbs := by
  unfold ad sw
  cases h : gw W f with
  | none => simp only [Option.getD_none, Int.zero_add]; rw [ab_append]; simp [ab]
  | some v =>
    simp only [Option.getD_some]
    have := ab_map (w := v + w) hn h
    have e : v + w - v = w := by omega
    rwa [e] at this
theorem mem_ad {W : Wt} {f : Fa} {w : Int} {p : Fa × Int} (h : p ∈ ad W f w) : p.1 = f ∨ p.1 ∈ W.map (·.1) := by
  have : p.1 ∈ (ad W f w).map (·.1) := List.mem_map_of_mem h
  unfold ad at this
  rw [sw_keys] at this
  split at this
  · exact .inr this
  · rw [List.mem_append] at this
    rcases this with h | h
    · exact .inr h
    · simp at h; exact .inl h
/-- what a list of weights is: each key once, each key as P says, at most k long and heavy -/
structure Wok (P : Fa → Prop) (k : Nat) (W : Wt) : Prop where
  nd : nd W
  keys : ∀ p ∈ W, P p.1
  len : W.length ≤ k
  ab : ab W ≤ k
theorem Wok.ad {P : Fa → Prop} {W : Wt} {k j : Nat} (h : Wok P k W) {f : Fa} {w : Int} (hf : P f) (hw : w.natAbs ≤ j) : RL.nd (ad W f w) ∧ (∀ p ∈ RL.ad W f w, P p.1) := by
  refine ⟨nd_ad h.nd f w, fun p hp => ?_⟩
  rcases mem_ad hp with e | e
  · rw [e]; exact hf
  · obtain ⟨q, hq, e'⟩ := List.mem_map.mp e
    rw [← e']; exact h.keys q hq
structure Wk (P : Fa → Prop) (W : Wt) : Prop where
  nd : nd W
  keys : ∀ p ∈ W, P p.1
theorem Wk.ad {P : Fa → Prop} {W : Wt} (h : Wk P W) {f : Fa} {w : Int} (hf : P f) : Wk P (ad W f w) := by
  refine ⟨nd_ad h.nd f w, fun p hp => ?_⟩
  rcases mem_ad hp with e | e
  · rw [e]; exact hf
  · obtain ⟨q, hq, e'⟩ := List.mem_map.mp e
    rw [← e']; exact h.keys q hq
theorem Wk.nil {P : Fa → Prop} : Wk P [] := ⟨by unfold RL.nd; simp, fun p h => absurd h (by simp)⟩
/-- one more of what fits both -/
noncomputable def wf1 (f : Fa) (A : Wt) (p : Fa × Int) : Wt := if qr p.1 f then A else ad A (pt p.1 f) p.2
noncomputable def wf (W : Wt) (f : Fa) : Wt := W.foldl (wf1 f) []
theorem wf_go {P Q : Fa → Prop} {f : Fa} (hf : Gd f) (hP : ∀ g, P g → Gd g ∧ (¬ qr g f → Q (pt g f))) : ∀ (W : Wt) (A : Wt), (∀ p ∈ W, P p.1) → Wk Q A →
    Wk Q (W.foldl (wf1 f) A) ∧ (∀ x, wt (W.foldl (wf1 f) A) x = wt A x + if ft f x then wt W x else 0) ∧ (W.foldl (wf1 f) A).length ≤ A.length + W.length ∧ ab (W.foldl (wf1 f) A) ≤ ab A + ab W
  | [], A, _, hA => ⟨hA, fun x => by simp [wt], Nat.le_refl _, by simp [ab]⟩
  | p :: W, A, hW, hA => by
    have hp := hP p.1 (hW p List.mem_cons_self)
    have st : Wk Q (wf1 f A p) ∧ (∀ x, wt (wf1 f A p) x = wt A x + if ft f x then (if ft p.1 x then p.2 else 0) else 0) ∧ (wf1 f A p).length ≤ A.length + 1 ∧ ab (wf1 f A p) ≤ ab A + p.2.natAbs := by
      unfold wf1
      split
      · rename_i q
        refine ⟨hA, fun x => ?_, by omega, by omega⟩
        split
        · rename_i h1
          split
          · rename_i h2; exact absurd q (qr_none h2 h1)
          · omega
        · omega
      · rename_i q
        have B := pt_both hp.1.pos hf.pos q
        refine ⟨hA.ad (hp.2 q), fun x => ?_, len_sw _ _ _, ab_ad hA.nd _ _⟩
        rw [wt_ad hA.nd]
        congr 1
        by_cases h1 : ft f x <;> by_cases h2 : ft p.1 x
        · rw [if_pos ((B.ft x).mpr ⟨h2, h1⟩), if_pos h1, if_pos h2]
        · rw [if_neg (fun z => h2 ((B.ft x).mp z).1), if_pos h1, if_neg h2]
        · rw [if_neg (fun z => h1 ((B.ft x).mp z).2), if_neg h1]
        · rw [if_neg (fun z => h1 ((B.ft x).mp z).2), if_neg h1]
    obtain ⟨s1, s2, s3, s4⟩ := st
    obtain ⟨g1, g2, g3, g4⟩ := wf_go hf hP W (wf1 f A p) (fun q hq => hW q (List.mem_cons_of_mem _ hq)) s1
    refine ⟨g1, fun x => ?_, by simp only [List.foldl_cons, List.length_cons]; omega, ?_⟩
    · rw [List.foldl_cons, g2 x, s2 x]
      unfold wt
      simp only [List.map_cons, List.sum_cons]
      split <;> omega
    · rw [List.foldl_cons]
      unfold ab at *
      simp only [List.map_cons, List.sum_cons]
      omega
def wo1 (A : Wt) (p : Fa × Int) : Wt := ad A p.1 (-p.2)
theorem wo_go {P : Fa → Prop} : ∀ (V A : Wt), (∀ p ∈ V, P p.1) → Wk P A → Wk P (V.foldl wo1 A) ∧ (∀ x, wt (V.foldl wo1 A) x = wt A x - wt V x) ∧ (V.foldl wo1 A).length ≤ A.length + V.length ∧ ab (V.foldl wo1 A) ≤ ab A + ab V
  | [], A, _, hA => ⟨hA, fun x => by simp [wt], Nat.le_refl _, by simp [ab]⟩
  | p :: V, A, hV, hA => by
    obtain ⟨g1, g2, g3, g4⟩ := wo_go V (wo1 A p) (fun q hq => hV q (List.mem_cons_of_mem _ hq)) (hA.ad (hV p List.mem_cons_self))
    have l : (wo1 A p).length ≤ A.length + 1 := len_sw A p.1 ((gw A p.1).getD 0 + -p.2)
    have a := ab_ad hA.nd p.1 (-p.2)
    refine ⟨g1, fun x => ?_, by simp only [List.foldl_cons, List.length_cons]; omega, ?_⟩
    · rw [List.foldl_cons, g2 x]
      unfold wo1
      rw [wt_ad hA.nd]
      unfold wt
      simp only [List.map_cons, List.sum_cons]
      split <;> omega
    · rw [List.foldl_cons]
      unfold wo1 at g4 ⊢
      rw [Int.natAbs_neg] at a
      unfold ab at *
      simp only [List.map_cons, List.sum_cons]
      omega
noncomputable def wo (W : Wt) (f : Fa) : Wt := ((wf W f).foldl wo1 W).filter fun p => p.2 != 0
theorem wt_filter : ∀ (W : Wt) (x : Int), wt (W.filter fun p => p.2 != 0) x = wt W x
  | [], _ => rfl
  | p :: W, x => by
    by_cases h : p.2 = 0
    · rw [List.filter_cons_of_neg (by simp [h]), wt_filter W x]
      unfold wt; simp [h]
    · rw [List.filter_cons_of_pos (by simp [h])]
      have := wt_filter W x
      unfold wt at *
      simp only [List.map_cons, List.sum_cons, this]
theorem ab_filter : ∀ (W : Wt), ab (W.filter fun p => p.2 != 0) ≤ ab W
  | [] => Nat.le_refl _
  | p :: W => by
    have := ab_filter W
    by_cases h : p.2 = 0
    · rw [List.filter_cons_of_neg (by simp [h])]
      unfold ab at *; simp only [List.map_cons, List.sum_cons]; omega
    · rw [List.filter_cons_of_pos (by simp [h])]
      unfold ab at *; simp only [List.map_cons, List.sum_cons]; omega
theorem Wk.filter {P : Fa → Prop} {W : Wt} (h : Wk P W) (c : Fa × Int → Bool) : Wk P (W.filter c) := by
  refine ⟨?_, fun p hp => h.keys p (List.mem_filter.mp hp).1⟩
  have := h.nd
  unfold RL.nd at *
  exact this.sublist ((List.filter_sublist).map _)
theorem wf_ok {P Q : Fa → Prop} {f : Fa} (hf : Gd f) (hP : ∀ g, P g → Gd g ∧ (¬ qr g f → Q (pt g f))) {W : Wt} (h : Wk P W) : Wk Q (wf W f) ∧ (∀ x, wt (wf W f) x = if ft f x then wt W x else 0) ∧ (wf W f).length ≤ W.length ∧ ab (wf W f) ≤ ab W := by
  obtain ⟨a, b, c, d⟩ := wf_go hf hP W [] h.keys Wk.nil
  refine ⟨a, fun x => ?_, by unfold wf; simpa using c, by unfold wf; simpa [ab] using d⟩
  have := b x
  unfold wf
  rw [this]
  simp [wt]
theorem wo_ok {P : Fa → Prop} {f : Fa} (hf : Gd f) (hP : ∀ g, P g → Gd g ∧ (¬ qr g f → P (pt g f))) {W : Wt} (h : Wk P W) : Wk P ((wf W f).foldl wo1 W) ∧ Wk P (wo W f) ∧ (∀ x, wt (wo W f) x = if ft f x then 0 else wt W x) ∧ (wo W f).length ≤ 2 * W.length ∧ ab (wo W f) ≤ 2 * ab W ∧ ((wf W f).foldl wo1 W).length ≤ 2 * W.length := by
  obtain ⟨a, b, c, d⟩ := wf_ok hf hP h
  obtain ⟨a2, b2, c2, d2⟩ := wo_go (wf W f) W a.keys h
  refine ⟨a2, a2.filter _, fun x => ?_, ?_, ?_, by omega⟩
  · unfold wo
    rw [wt_filter, b2 x, b x]
    split <;> omega
  · unfold wo
    have := List.length_filter_le (fun p : Fa × Int => p.2 != 0) ((wf W f).foldl wo1 W)
    omega
  · unfold wo
    have := ab_filter ((wf W f).foldl wo1 W)
    omega
end RL
end
section
variable [FL.TabsOf]
namespace RL
open FL
def cnt (f : Fa) (lo hi : Int) : Int := (hi - f.1) / f.2 - (lo - 1 - f.1) / f.2
def cw (W : Wt) (lo hi : Int) : Int := (W.map fun p => p.2 * cnt p.1 lo hi).sum
theorem div_step {y n : Int} (hn : 0 < n) : (y + 1) / n = y / n + if n ∣ y + 1 then 1 else 0 := by
  have e := Int.mul_ediv_add_emod y n
  have m0 := Int.emod_nonneg y (by omega : n ≠ 0)
  have m1 := Int.emod_lt_of_pos y hn
  generalize y / n = q at *
  generalize y % n = m at *
  split
  · rename_i h
    have k : n ∣ m + 1 := by
      have := Int.dvd_sub h (Int.dvd_mul_right n q)
      have e2 : y + 1 - n * q = m + 1 := by omega
      rwa [e2] at this
    have := Int.le_of_dvd (by omega) k
    have m2 : m + 1 = n := by omega
    have : y + 1 = n * (q + 1) := by rw [Int.mul_add]; omega
    rw [this]; exact Int.mul_ediv_cancel_left _ (by omega)
  · rename_i h
    have m2 : m + 1 < n := by
      rcases Int.lt_or_le (m + 1) n with k | k
      · exact k
      · exact absurd ⟨q + 1, by rw [Int.mul_add]; omega⟩ h
    have : y + 1 = (m + 1) + n * q := by omega
    rw [this, Int.add_mul_ediv_left _ _ (by omega : n ≠ 0), Int.ediv_eq_zero_of_lt (by omega) m2]
    omega
theorem cnt_zero (f : Fa) (lo : Int) : cnt f lo (lo - 1) = 0 := by unfold cnt; omega
theorem cnt_step {f : Fa} (hf : 0 < f.2) (lo hi : Int) : cnt f lo (hi + 1) = cnt f lo hi + if ft f (hi + 1) then 1 else 0 := by
  have e : hi + 1 - f.1 = hi - f.1 + 1 := by omega
  have d := div_step (y := hi - f.1) hf
  unfold cnt
  rw [e, d]
  have k : ft f (hi + 1) ↔ f.2 ∣ hi - f.1 + 1 := by unfold ft; rw [e]
  by_cases h : ft f (hi + 1)
  · rw [if_pos (k.mp h), if_pos h]; omega
  · rw [if_neg (fun z => h (k.mpr z)), if_neg h]; omega
theorem cw_zero (W : Wt) (lo : Int) : cw W lo (lo - 1) = 0 := by
  unfold cw
  induction W with
  | nil => rfl
  | cons p W ih => rw [List.map_cons, List.sum_cons, ih, cnt_zero]; omega
theorem cw_step {W : Wt} (hW : ∀ p ∈ W, 0 < p.1.2) (lo hi : Int) : cw W lo (hi + 1) = cw W lo hi + wt W (hi + 1) := by
  unfold cw wt
  induction W with
  | nil => rfl
  | cons p W ih =>
    have ih := ih fun q hq => hW q (List.mem_cons_of_mem _ hq)
    simp only [List.map_cons, List.sum_cons, ih, cnt_step (hW p List.mem_cons_self)]
    split
    · rw [Int.mul_add]; omega
    · rw [Int.add_zero]; omega
theorem rngI_one (lo : Int) : rngI lo 1 = [lo] := by simp [rngI]
theorem cw_sum {W : Wt} (hW : ∀ p ∈ W, 0 < p.1.2) (lo : Int) : ∀ n : Nat, cw W lo (lo + n - 1) = ((rngI lo n).map (wt W)).sum
  | 0 => by
    have e : lo + ((0 : Nat) : Int) - 1 = lo - 1 := by omega
    rw [e, cw_zero]; simp [rngI]
  | n + 1 => by
    have ih := cw_sum hW lo n
    have e : lo + ((n + 1 : Nat) : Int) - 1 = lo + n - 1 + 1 := by omega
    rw [e, cw_step hW, ih, rngI_add, rngI_one, List.map_append, List.sum_append]
    have e2 : lo + (n : Int) - 1 + 1 = lo + n := by omega
    simp [e2]
/-- the numbers of a span -/
def spn (lo hi : Int) : List Int := rngI lo (hi + 1 - lo).toNat
theorem spn_mem {lo hi x : Int} : x ∈ spn lo hi ↔ lo ≤ x ∧ x ≤ hi := by
  unfold spn
  rw [rngI_mem]
  omega
theorem sum_filter (P : Int → Bool) : ∀ l : List Int, (l.map fun x => if P x = true then (1 : Int) else 0).sum = ((l.filter P).length : Int)
  | [] => rfl
  | x :: l => by
    rw [List.map_cons, List.sum_cons, sum_filter P l]
    by_cases h : P x = true
    · rw [if_pos h, List.filter_cons_of_pos h, List.length_cons]; omega
    · rw [if_neg h, List.filter_cons_of_neg h]; omega
theorem cw_len {W : Wt} (hW : ∀ p ∈ W, 0 < p.1.2) {P : Int → Bool} (h : ∀ x, wt W x = if P x = true then 1 else 0) {lo hi : Int} (hl : lo ≤ hi + 1) : cw W lo hi = (((spn lo hi).filter P).length : Int) := by
  have := cw_sum hW lo (hi + 1 - lo).toNat
  have e : lo + ((hi + 1 - lo).toNat : Int) - 1 = hi := by omega
  rw [e] at this
  rw [this, ← sum_filter]
  unfold spn
  congr 1
  exact List.map_congr_left fun x _ => h x
abbrev As := List (Fa × Bool)
def okA (a : Fa × Bool) (x : Int) : Bool := decide (ft a.1 x) == a.2
def left (l : As) (x : Int) : Bool := l.all fun a => okA a x
def lfs (l : As) (lo hi : Int) : List Int := (spn lo hi).filter (left l)
theorem div_bd {x n B : Int} (hn : 0 < n) (h1 : -B ≤ x) (h2 : x ≤ B) (hB : 0 ≤ B) : -B ≤ x / n ∧ x / n ≤ B := by
  have k : B * 1 ≤ B * n := Int.mul_le_mul_of_nonneg_left (by omega) hB
  constructor
  · rw [Int.le_ediv_iff_mul_le hn]
    have : -B * n = -(B * n) := Int.neg_mul _ _
    omega
  · have : x / n < B + 1 := by
      rw [Int.ediv_lt_iff_lt_mul hn, Int.add_mul]
      omega
    omega
end RL
end
section
variable [FL.TabsOf]
namespace RL
open FL
end RL
end
section
namespace RL
open PySem FL
def hF (p : Int × Int) : Int := reduceHash (Builtin.Tuple.tupleHashOf [hashInt p.1, hashInt p.2])
def hN (p : Int × Int) : Nat := (hF p + 18446744073709551616).toNat
def chk : Nat → List Nat → Bool
  | _, [] => true
  | _, [_] => true
  | 0, _ => false
  | d + 1, l => chk d ((l.filter fun x => Nat.beq (x % 2) 0).map (· / 2)) && chk d ((l.filter fun x => !(Nat.beq (x % 2) 0)).map (· / 2))
theorem nodup_split {α : Type} (c : α → Bool) : ∀ {l : List α}, (l.filter c).Nodup → (l.filter fun x => !c x).Nodup → l.Nodup
  | [], _, _ => List.nodup_nil
  | x :: l, h1, h2 => by
    rw [List.nodup_cons]
    cases hx : c x with
    | true =>
      rw [List.filter_cons_of_pos hx, List.nodup_cons] at h1
      rw [List.filter_cons_of_neg (by simp [hx])] at h2
      exact ⟨fun m => h1.1 (List.mem_filter.mpr ⟨m, hx⟩), nodup_split c h1.2 h2⟩
    | false =>
      rw [List.filter_cons_of_neg (by simp [hx])] at h1
      rw [List.filter_cons_of_pos (by simp [hx]), List.nodup_cons] at h2
      exact ⟨fun m => h2.1 (List.mem_filter.mpr ⟨m, by simp [hx]⟩), nodup_split c h1 h2.2⟩
theorem nodup_of_map {α β : Type} (f : α → β) : ∀ {l : List α}, (l.map f).Nodup → l.Nodup
  | [], _ => List.nodup_nil
  | x :: l, h => by
    rw [List.map_cons, List.nodup_cons] at h
    exact List.nodup_cons.mpr ⟨fun m => h.1 (List.mem_map_of_mem m), nodup_of_map f h.2⟩
theorem chk_nodup : ∀ (d : Nat) (l : List Nat), chk d l = true → l.Nodup
  | _, [], _ => List.nodup_nil
  | _, [_], _ => by simp
  | 0, x :: y :: l, h => by simp [chk] at h
  | d + 1, x :: y :: l, h => by
    simp only [chk, Bool.and_eq_true] at h
    exact nodup_split (fun x => Nat.beq (x % 2) 0) (nodup_of_map _ (chk_nodup d _ h.1)) (nodup_of_map _ (chk_nodup d _ h.2))
theorem inj_of_map {α β : Type} (f : α → β) : ∀ {l : List α}, (l.map f).Nodup → ∀ x ∈ l, ∀ y ∈ l, f x = f y → x = y
  | z :: l, h, x, hx, y, hy, e => by
    rw [List.map_cons, List.nodup_cons] at h
    rcases List.mem_cons.mp hx with rfl | hx'
    · rcases List.mem_cons.mp hy with rfl | hy'
      · rfl
      · exact absurd (List.mem_map.mpr ⟨y, hy', e.symm⟩) h.1
    · rcases List.mem_cons.mp hy with rfl | hy'
      · exact absurd (List.mem_map.mpr ⟨x, hx', e⟩) h.1
      · exact inj_of_map f h.2 x hx' y hy' e
theorem map_nodup {α β : Type} {f : α → β} : ∀ {l : List α}, l.Nodup → (∀ x ∈ l, ∀ y ∈ l, f x = f y → x = y) → (l.map f).Nodup
  | [], _, _ => List.nodup_nil
  | z :: l, h, hi => by
    rw [List.nodup_cons] at h
    rw [List.map_cons, List.nodup_cons]
    refine ⟨fun m => ?_, map_nodup h.2 fun x hx y hy => hi x (List.mem_cons_of_mem _ hx) y (List.mem_cons_of_mem _ hy)⟩
    obtain ⟨y, hy, e⟩ := List.mem_map.mp m
    exact h.1 (by rw [← hi y (List.mem_cons_of_mem _ hy) z List.mem_cons_self e]; exact hy)
def divs : List Nat := (List.range 2521).filter fun n => !(Nat.beq n 0) && Nat.beq (2520 % n) 0
def tab : List (Int × Int) := divs.flatMap fun n => (List.range n).map fun r => (((r : Nat) : Int), ((n : Nat) : Int))
theorem tab_chk : chk 70 (tab.map hN) = true := by decide +kernel
theorem tab_inj : ∀ x ∈ tab, ∀ y ∈ tab, hF x = hF y → x = y := by
  have h := chk_nodup _ _ tab_chk
  have : tab.map hN = (tab.map hF).map fun i => (i + 18446744073709551616).toNat := by rw [List.map_map]; rfl
  rw [this] at h
  exact inj_of_map hF (nodup_of_map _ h)
theorem tab_mem {f : Fa} (h : Gd f) (d : f.2 ∣ 2520) : f ∈ tab := by
  obtain ⟨a, b⟩ := f
  have h1 : 0 ≤ a := h.1
  have h2 : a < b := h.2
  have d' : b ∣ 2520 := d
  have le := Int.le_of_dvd (by omega) d'
  obtain ⟨r, rfl⟩ := Int.eq_ofNat_of_zero_le h1
  obtain ⟨n, rfl⟩ := Int.eq_ofNat_of_zero_le (show 0 ≤ b by omega)
  unfold tab divs
  refine List.mem_flatMap.mpr ⟨n, List.mem_filter.mpr ⟨List.mem_range.mpr (by omega), ?_⟩, List.mem_map.mpr ⟨r, List.mem_range.mpr (by omega), rfl⟩⟩
  have n0 : n ≠ 0 := by omega
  have m0 : 2520 % n = 0 := Nat.mod_eq_zero_of_dvd (by exact_mod_cast d')
  have b0 : Nat.beq n 0 = false := by
    cases n with
    | zero => exact absurd rfl n0
    | succ k => rfl
  rw [b0, m0]; rfl
end RL
end
section
variable [FL.TabsOf]
namespace M76
open PySem FL
theorem is_integer_i (i : Int) {S} : callF 1 F_is_integer [.v (.int i)] S = .ok (.v (.bl true)) S := callF_1 (by
  simp [F_is_integer, sem_is_integer, o_isI, o_isB])
theorem is_between_i (i a b : Int) {S} : callF 3 F_is_between [.v (.int i), .v (.int a), .v (.int b)] S = .ok (.v (.bl (decide (a ≤ i ∧ i ≤ b)))) S := callF_3 (by
  simp [F_is_between, sem_is_between, is_integer_i]
  by_cases h : a ≤ i <;> simp [h])
theorem check_between_i {i a b : Int} (h1 : a ≤ i) (h2 : i ≤ b) {S} : callF 3 F_check_between [.v (.int i), .v (.int a), .v (.int b)] S = .ok (.v .non) S := callF_3 (by
  simp [F_check_between, sem_check_between, is_between_i, h1, h2, truP])
theorem check_number_i {i : Int} (h1 : -10000000000000000000000000000000000000000 ≤ i) (h2 : i ≤ 10000000000000000000000000000000000000000) {S} : callF 1 F_check_number [.v (.int i)] S = .ok (.v .non) S := callF_1 (by
  simp [F_check_number, sem_check_number, check_between_i, h1, h2])
theorem bits_le {i : Int} (h1 : -(2 ^ 200) ≤ i) (h2 : i ≤ 2 ^ 200) : Builtin.Int.intBits i ≤ 201 := by
  unfold Builtin.Int.intBits
  split
  · omega
  · rename_i h
    have h0 : i ≠ 0 := by simpa using h
    have : i.natAbs < 2 ^ 201 := by omega
    have := Nat.log2_lt (n := i.natAbs) (k := 201) (by omega) |>.mpr this
    omega
theorem mulOk_of {i j : Int} (h1 : -(2 ^ 200) ≤ i) (h2 : i ≤ 2 ^ 200) (h3 : -(2 ^ 200) ≤ j) (h4 : j ≤ 2 ^ 200) : mulOk i j = true := by
  unfold mulOk
  have := bits_le h1 h2
  have := bits_le h3 h4
  exact decide_eq_true (by omega)
theorem modOk_of {i j : Int} (h : 0 < j) : modOk i j = true := decide_eq_true h
@[simp] theorem o_ixL (l : List Da) (i : Int) : ixP (.lst l) (.int i) = L2.atI l i := rfl
@[simp] theorem o_ixF (l : List Da) (i : Int) : ixP (.flst l) (.int i) = L2.atI l i := rfl
@[simp] theorem o_ixT (l : List Da) (i : Int) : ixP (.tup l) (.int i) = L2.atI l i := rfl
@[simp] theorem o_int (i : Int) : intP [.int i] = some (.int i) := rfl
@[simp] theorem o_dm (i j : Int) : divmodP [.int i, .int j] = if decide (0 < j) && decide (j < 1073741824) then some (.tup [.int (i / j), .int (i % j)]) else none := rfl
@[simp] theorem s_six {f o i : EM D} {ρ S} : sSetIx f o i ρ S = match f ρ S with
  | .ok d S1 => (match o ρ S1 with
    | .ok od S2 => (match i ρ S2 with
      | .ok id S3 => (match d with
        | .v p => (match setIx S3 od id p with
          | some S' => .nx ρ S'
          | none => .bad)
        | _ => .bad)
      | .err C fs S3 => .err ρ C fs S3
      | .bad => .bad)
    | .err C fs S2 => .err ρ C fs S2
    | .bad => .bad)
  | .err C fs S1 => .err ρ C fs S1
  | .bad => .bad := by
  unfold sSetIx sThen
  cases f ρ S <;> simp only []
  rename_i d S1
  cases o ρ S1 <;> simp only []
  rename_i od S2
  cases i ρ S2 <;> rfl
def pailC (g x c : Int) : List Cell := [.lst [.int g, .int x, .int c]]
def PailOk (k : Nat) (S : List Cell) : Prop := ∃ g x c : Int, S = pailC g x c ∧ 0 ≤ g ∧ 0 ≤ x ∧ x ≤ 2147483629 ∧ 0 ≤ c ∧ c ≤ k
theorem PailOk.mono {k k' : Nat} {S : List Cell} (h : PailOk k S) (q : k ≤ k') : PailOk k' S := by
  obtain ⟨g, x, c, e, h1, h2, h3, h4, h5⟩ := h
  exact ⟨g, x, c, e, h1, h2, h3, h4, by omega⟩
theorem F_dip {k : Nat} {g x c m : Int} (h1 : 0 ≤ g) (h2 : 0 ≤ x) (h3 : x ≤ 2147483629) (h4 : 0 ≤ c) (h5 : c ≤ 1000000) (hm : 0 < m) (hm2 : m < 1073741824) :
    ∃ r S', F__law_dip [.o 0, .v (.int m)] (pailC g x c) = .ok (.v (.int r)) S' ∧ 0 ≤ r ∧ r < m ∧ ∃ g' x' : Int, S' = pailC g' x' (c + 1) ∧ 0 ≤ g' ∧ 0 ≤ x' ∧ x' ≤ 2147483629 := by
  unfold F__law_dip sem__law_dip
  by_cases hg : 0 < g
  · refine ⟨g % m, pailC (g / m) x (c + 1), ?_, Int.emod_nonneg _ (by omega), Int.emod_lt_of_pos _ hm, _, _, rfl, Int.ediv_nonneg h1 (by omega), h2, h3⟩
    have c1 : m < 1073741824 := by omega
    simp [pailC, setIx, lstOf, L2.ixN, L2.atI, view, hg, sUnpIx, sThen, hm, c1, fin, closedC]
  · have b1 : 0 ≤ x % 12007 := Int.emod_nonneg _ (by omega)
    have b2 : x % 12007 < 12007 := Int.emod_lt_of_pos _ (by omega)
    have m1 : mulOk x (x % 12007 + 40013) = true := mulOk_of (by omega) (by omega) (by omega) (by omega)
    have m2 : mulOk 21001 (c + 1) = true := mulOk_of (by omega) (by omega) (by omega) (by omega)
    have d1 : ∀ i, divOk i 64 = true := fun i => by unfold divOk; decide +kernel
    refine ⟨((x * (x % 12007 + 40013) + 21001 * (c + 1) + 9) % 2147483629 / 64) % m, pailC g ((x * (x % 12007 + 40013) + 21001 * (c + 1) + 9) % 2147483629) (c + 1), ?_, ?_, ?_, g, (x * (x % 12007 + 40013) + 21001 * (c + 1) + 9) % 2147483629, rfl, h1, Int.emod_nonneg _ (by omega), Int.le_of_lt (Int.emod_lt_of_pos _ (by omega))⟩
    · simp [pailC, setIx, lstOf, L2.ixN, L2.atI, view, hg, sThen, hm, m1, m2, d1, modOk_of, fin, closedC]
    · exact Int.emod_nonneg _ (by omega)
    · exact Int.emod_lt_of_pos _ hm
theorem callF_o {n : Nat} {F : Fn} {ps : List Da} {r : Da} {l l' : List Da} {S : List Cell} {j : Nat} (hj : S[j]? = some (.lst l)) (hn : ps.length + 1 = n) (h : F (.o 0 :: ps.map D.v) [.lst l] = .ok (.v r) [.lst l']) : callF n F (.o j :: ps.map D.v) S = .ok (.v r) (S.set j (.lst l')) := by
  unfold callF
  have e : splitA (.o j :: ps.map D.v) 0 = ([j], .o 0 :: ps.map D.v) := by
    show (j :: (splitA (ps.map D.v) 1).1, D.o 0 :: (splitA (ps.map D.v) 1).2) = _
    rw [splitA_plain]
  rw [e, if_pos ⟨by simp [hn], by simp⟩]
  simp only [cellsAt, hj, closedC, if_true, callR, h, List.all_cons, List.all_nil, Bool.and_true, putCells]
theorem dip {k : Nat} {S : List Cell} (h : PailOk k S) (hk : k ≤ 1000000) {m : Int} (hm : 0 < m) (hm2 : m < 1073741824) :
    ∃ r S', callF 2 F__law_dip [.o 0, .v (.int m)] S = .ok (.v (.int r)) S' ∧ 0 ≤ r ∧ r < m ∧ PailOk (k + 1) S' := by
  obtain ⟨g, x, c, rfl, h1, h2, h3, h4, h5⟩ := h
  obtain ⟨r, S', e, r1, r2, g', x', rfl, q1, q2, q3⟩ := F_dip (k := k) h1 h2 h3 h4 (by omega) hm hm2
  refine ⟨r, pailC g' x' (c + 1), ?_, r1, r2, g', x', c + 1, rfl, q1, q2, q3, by omega, by omega⟩
  exact callF_o (ps := [.int m]) (j := 0) rfl rfl e
def igcd (a b : Int) : Int := ((Int.gcd a b : Nat) : Int)
theorem gcd_loop : ∀ (n : Nat) (a b : Nat), b ≤ n → ∀ S, sWhile (eOpB gtP (eVar 1) (eC (.int 0))) (sPar 0 1 (aCons (eVar 1) (aCons (eOp2 modP (eVar 0) (eVar 1)) aNil))) [some (.v (.int (a : Nat))), some (.v (.int (b : Nat)))] S = .nx [some (.v (.int (Nat.gcd a b : Nat))), some (.v (.int 0))] S
  | n, a, 0, _, S => by
    rw [sWhile_end (S1 := S) (by simp)]
    simp
  | 0, a, b + 1, h, S => absurd h (by omega)
  | n + 1, a, b + 1, h, S => by
    have hlt : a % (b + 1) < b + 1 := Nat.mod_lt _ (by omega)
    rw [sWhile_step (S1 := S) (S2 := S) (ρ1 := [some (.v (.int ((b + 1 : Nat) : Int))), some (.v (.int ((a % (b + 1) : Nat) : Int)))]) (by simp <;> omega) (by
      have : modOk (a : Int) ((b : Int) + 1) = true := modOk_of (by omega)
      simp [this])]
    rw [gcd_loop n (b + 1) (a % (b + 1)) (by omega) S]
    rw [Nat.gcd_comm (b + 1), ← Nat.gcd_rec]
    first | rfl | rw [Nat.gcd_comm]
theorem common_i (i j : Int) {S} : callF 2 F_common_of [.v (.int i), .v (.int j)] S = .ok (.v (.int (igcd i j))) S := callF_2 (by
  have ab : ∀ i : Int, (if i < 0 then -i else i) = (i.natAbs : Int) := fun i => by split <;> omega
  unfold F_common_of sem_common_of
  simp only [s_run, s_seq, s_par, s_cons, s_cb, s_eVar, s_nil, s_vwC, s_vwN, b_ok, List.map_cons, List.map_nil, List.length_cons, List.length_nil, List.replicate, List.getElem?_cons_zero, List.getElem?_cons_succ, List.cons_append, List.nil_append, s_vw, o_abs, ab, List.append_nil, Nat.sub_self, if_true, List.set_cons_zero, List.set_cons_succ]
  rw [gcd_loop _ _ _ (Nat.le_refl _)]
  simp [igcd, Int.gcd])
def pd (p : Int × Int) : Da := .tup [.int p.1, .int p.2]
theorem small_of {i : Int} (h1 : -(2 ^ 62) ≤ i) (h2 : i < 2 ^ 62) : smallI i = true := by
  unfold smallI; rw [decide_eq_true h1, decide_eq_true h2] <;> rfl
theorem is_fact_i {a b : Int} (h1 : 1 ≤ b) (h2 : b ≤ 1000000000000000000000000000000) (h3 : 0 ≤ a) (h4 : a ≤ b - 1) {S} : callF 1 F_is_fact [.v (pd (a, b))] S = .ok (.v (.bl true)) S := callF_1 (by
  simp [F_is_fact, sem_is_fact, pd, o_isT, is_between_i, h1, h2, h3, h4, L2.atI, L2.ixN])
theorem does_fit_i {a b n : Int} (h : 0 < b) {S} : callF 2 F_does_fit [.v (pd (a, b)), .v (.int n)] S = .ok (.v (.bl (decide ((n - a) % b = 0)))) S := callF_2 (by
  simp [F_does_fit, sem_does_fit, pd, L2.atI, L2.ixN, modOk_of h, bD])
theorem dip2 {k : Nat} {S : List Cell} (h : PailOk k S) (hk : k ≤ 1000000) {m : Int} (hm : 0 < m) (hm2 : m < 1073741824) (T : List Cell) :
    ∃ r S', callF 2 F__law_dip [.o 0, .v (.int m)] (S ++ T) = .ok (.v (.int r)) (S' ++ T) ∧ 0 ≤ r ∧ r < m ∧ PailOk (k + 1) S' := by
  obtain ⟨g, x, c, rfl, h1, h2, h3, h4, h5⟩ := h
  obtain ⟨r, S', e, r1, r2, g', x', rfl, q1, q2, q3⟩ := F_dip (k := k) h1 h2 h3 h4 (by omega) hm hm2
  refine ⟨r, pailC g' x' (c + 1), ?_, r1, r2, g', x', c + 1, rfl, q1, q2, q3, by omega, by omega⟩
  exact callF_o (ps := [.int m]) (j := 0) rfl rfl e
theorem fin_pail2 {k : Nat} {S T : List Cell} (h : PailOk k S) {p : Da} : fin 1 (.v p) (S ++ T) = .ok (.v p) S := by
  obtain ⟨g, x, c, rfl, _⟩ := h
  simp [fin, pailC, closedC]
theorem pail_len {k : Nat} {S : List Cell} (h : PailOk k S) : S.length = 1 := by
  obtain ⟨g, x, c, rfl, _⟩ := h
  rfl
theorem run_pail {k k' n N : Nat} {sem : SM} {ds : List D} {S S' T : List Cell} {r : Da} (hS : PailOk k S) (hS' : PailOk k' S') (hn : ds.length = n) (h : sem (ds.map some ++ List.replicate (N - n) none) S = .rt (.v r) (S' ++ T)) : runDef n N sem ds S = .ok (.v r) S' := by
  rw [s_run, if_pos hn, h, pail_len hS]
  exact fin_pail2 hS'
theorem call_pail {k k' n : Nat} {F : Fn} {ps : List Da} {S S' T : List Cell} {r : Da} (hS : PailOk k S) (hS' : PailOk k' S') (hn : ps.length + 1 = n) (h : F (.o 0 :: ps.map D.v) S = .ok (.v r) S') : callF n F (.o 0 :: ps.map D.v) (S ++ T) = .ok (.v r) (S' ++ T) := by
  obtain ⟨g, x, c, rfl, _⟩ := hS
  obtain ⟨g', x', c', rfl, _⟩ := hS'
  exact callF_o (ps := ps) (j := 0) rfl hn h
theorem F_of {k : Nat} {S : List Cell} (h : PailOk k S) (hk : k ≤ 1000000) {ts : List Da} (hl : 0 < ts.length) (hl2 : ts.length < 1000) : ∃ x S', F__law_of [.o 0, .v (.lst ts)] S = .ok (.v x) S' ∧ x ∈ ts ∧ PailOk (k + 1) S' := by
  obtain ⟨r, S', e, h0, h1, ok⟩ := dip h hk (m := ts.length) (by omega) (by omega)
  have hi : r.toNat < ts.length := by omega
  have at1 : L2.atI ts r = some ts[r.toNat] := by
    unfold L2.atI L2.ixN
    rw [if_pos h0, if_pos h1]
    exact List.getElem?_eq_getElem hi
  refine ⟨ts[r.toNat], S', ?_, List.getElem_mem hi, ok⟩
  refine run_pail (T := []) (k := k) (k' := k + 1) h ok rfl ?_
  show sem__law_of [some (.o 0), some (.v (.lst ts))] S = _
  unfold sem__law_of
  rw [List.append_nil]
  simp only [s_ret, s_op2, s_call, s_cons, s_cb, s_nil, s_eVar, b_ok, List.getElem?_cons_zero, List.getElem?_cons_succ, s_vw, s_vwC, s_vwN, l_lst, e, s_rvv, o_ixL, at1]
theorem of2 {k : Nat} {S : List Cell} (h : PailOk k S) (hk : k ≤ 1000000) {ts : List Da} (hl : 0 < ts.length) (hl2 : ts.length < 1000) (T : List Cell) : ∃ x S', callF 2 F__law_of [.o 0, .v (.lst ts)] (S ++ T) = .ok (.v x) (S' ++ T) ∧ x ∈ ts ∧ PailOk (k + 1) S' := by
  obtain ⟨x, S', e, m, ok⟩ := F_of h hk hl hl2
  exact ⟨x, S', call_pail (ps := [.lst ts]) h ok rfl e, m, ok⟩
theorem dipc {k : Nat} {c : Cell} (h : PailOk k [c]) (hk : k ≤ 1000000) {m : Int} (hm : 0 < m) (hm2 : m < 1073741824) (T : List Cell) :
    ∃ r c', callF 2 F__law_dip [.o 0, .v (.int m)] (c :: T) = .ok (.v (.int r)) (c' :: T) ∧ 0 ≤ r ∧ r < m ∧ PailOk (k + 1) [c'] := by
  obtain ⟨r, S', e, h1, h2, o⟩ := dip2 h hk hm hm2 T
  obtain ⟨c', rfl⟩ : ∃ c', S' = [c'] := by
    obtain ⟨g, x, c, rfl, _⟩ := o
    exact ⟨_, rfl⟩
  exact ⟨r, c', e, h1, h2, o⟩
end M76
end
section
variable [FL.TabsOf]
namespace M76
open PySem FL RL
theorem divOk_of {i j : Int} (h : 0 < j) (h2 : j ≤ 2 ^ 200) : divOk i j = true := by
  unfold divOk
  have h0 : j.natAbs ≠ 0 := by omega
  have h3 : j.natAbs < 2 ^ 201 := by omega
  have := (Nat.log2_lt (n := j.natAbs) (k := 201) h0).mpr h3
  simp [h]; omega
noncomputable def cLoop : SM := sWhile (eOpB neP (eVar 3) (eC (.int 0))) (sSeq (sSet 6 (eOp2 divP (eVar 2) (eVar 3)))
  (sSeq (sPar 2 3 (aCons (eVar 3) (aCons (eOp2 subP (eVar 2) (eOp2 mulP (eVar 6) (eVar 3))) aNil)))
  (sPar 4 5 (aCons (eVar 5) (aCons (eTup (aCons (eOp2 subP (eOp2 ixP (eVar 4) (eC (.int 0))) (eOp2 mulP (eVar 6) (eOp2 ixP (eVar 5) (eC (.int 0))))) (aCons (eOp2 subP (eOp2 ixP (eVar 4) (eC (.int 1))) (eOp2 mulP (eVar 6) (eOp2 ixP (eVar 5) (eC (.int 1))))) aNil))) aNil)))))
@[simp] theorem at0 (x : Da) (l : List Da) : L2.atI (x :: l) 0 = some x := by
  unfold L2.atI L2.ixN
  rw [if_pos (by omega), if_pos (by simp only [List.length_cons]; omega)] <;> rfl
@[simp] theorem at1 (x y : Da) (l : List Da) : L2.atI (x :: y :: l) 1 = some y := by
  unfold L2.atI L2.ixN
  rw [if_pos (by omega), if_pos (by simp only [List.length_cons]; omega)] <;> rfl
@[simp] theorem at2 (x y z : Da) (l : List Da) : L2.atI (x :: y :: z :: l) 2 = some z := by
  unfold L2.atI L2.ixN
  rw [if_pos (by omega), if_pos (by simp only [List.length_cons]; omega)] <;> rfl
theorem comb_step {a b r0 r1 x0 y0 x1 y1 q : Int} (w : Option D) {S} (hr : 0 < r1) (hr2 : r1 ≤ 2 ^ 200) (hq : q = r0 / r1) (m1 : mulOk q r1 = true) (m2 : mulOk q x1 = true) (m3 : mulOk q y1 = true) :
    cLoop [some (.v (.int a)), some (.v (.int b)), some (.v (.int r0)), some (.v (.int r1)), some (.v (pd (x0, y0))), some (.v (pd (x1, y1))), w] S =
    cLoop [some (.v (.int a)), some (.v (.int b)), some (.v (.int r1)), some (.v (.int (r0 - q * r1))), some (.v (pd (x1, y1))), some (.v (pd (x0 - q * x1, y0 - q * y1))), some (.v (.int q))] S := by
  subst hq
  unfold cLoop
  have d1 : divOk r0 r1 = true := divOk_of hr hr2
  have n0 : ¬ r1 = 0 := by omega
  refine (sWhile_step (S1 := S) (S2 := S) (ρ1 := [some (.v (.int a)), some (.v (.int b)), some (.v (.int r1)), some (.v (.int (r0 - r0 / r1 * r1))), some (.v (pd (x1, y1))), some (.v (pd (x0 - r0 / r1 * x1, y0 - r0 / r1 * y1))), some (.v (.int (r0 / r1)))]) ?_ ?_).trans rfl
  · simp [n0]
  · simp [pd, d1, m1, m2, m3]
theorem comb_end {a b r0 : Int} {x z w : Option D} {S} : cLoop [some (.v (.int a)), some (.v (.int b)), some (.v (.int r0)), some (.v (.int 0)), x, z, w] S = .nx [some (.v (.int a)), some (.v (.int b)), some (.v (.int r0)), some (.v (.int 0)), x, z, w] S :=
  sWhile_end (S1 := S) (by simp)
structure CI (a b r0 r1 s X0 X1 Y0 Y1 : Int) : Prop where
  sg : s = 1 ∨ s = -1
  n : 0 ≤ r0 ∧ 0 ≤ r1 ∧ 0 ≤ X0 ∧ 0 ≤ X1 ∧ 0 ≤ Y0 ∧ 0 ≤ Y1
  c : r0 ≤ 2 ^ 150 ∧ r1 ≤ 2 ^ 150 ∧ X0 ≤ 2 ^ 150 ∧ X1 ≤ 2 ^ 150 ∧ Y0 ≤ 2 ^ 150 ∧ Y1 ≤ 2 ^ 150
  b1 : r0 * X1 + r1 * X0 = b
  a1 : r0 * Y1 + r1 * Y0 = a
  e0 : s * (a * X0 - b * Y0) = r0
  e1 : s * (b * Y1 - a * X1) = r1
theorem le_part {r x t b : Int} (hr : 1 ≤ r) (hx : 0 ≤ x) (ht : 0 ≤ t) (h : r * x + t = b) : x ≤ b := by
  have : 1 * x ≤ r * x := Int.mul_le_mul_of_nonneg_right hr hx
  omega
theorem CI.step {a b r0 r1 s X0 X1 Y0 Y1 : Int} (hb : b ≤ 2 ^ 150) (ha : a ≤ 2 ^ 150) (h : CI a b r0 r1 s X0 X1 Y0 Y1) (hr : 0 < r1) :
    CI a b r1 (r0 - r0 / r1 * r1) (-s) X1 (X0 + r0 / r1 * X1) Y1 (Y0 + r0 / r1 * Y1) ∧ r0 - r0 / r1 * r1 < r1 := by
  obtain ⟨h1, ⟨n1, n2, n3, n4, n5, n6⟩, ⟨c1, c2, c3, c4, c5, c6⟩, hb1, ha1, e0, e1⟩ := h
  have q0 : 0 ≤ r0 / r1 := Int.ediv_nonneg n1 n2
  have m0 : 0 ≤ r0 - r0 / r1 * r1 := by have e := Int.mul_ediv_add_emod r0 r1; have := Int.emod_nonneg r0 (by omega : r1 ≠ 0); rw [Int.mul_comm r1] at e; omega
  have m1 : r0 - r0 / r1 * r1 < r1 := by have e := Int.mul_ediv_add_emod r0 r1; have := Int.emod_lt_of_pos r0 hr; rw [Int.mul_comm r1] at e; omega
  generalize r0 / r1 = q at *
  have pX : 0 ≤ q * X1 := Int.mul_nonneg q0 n4
  have pY : 0 ≤ q * Y1 := Int.mul_nonneg q0 n6
  have B : r1 * (X0 + q * X1) + (r0 - q * r1) * X1 = b := by rw [← hb1]; grind
  have A : r1 * (Y0 + q * Y1) + (r0 - q * r1) * Y1 = a := by rw [← ha1]; grind
  have bX := le_part (by omega) (by omega) (Int.mul_nonneg m0 n4) B
  have bY := le_part (by omega) (by omega) (Int.mul_nonneg m0 n6) A
  refine ⟨⟨by omega, ⟨n2, m0, n4, by omega, n6, by omega⟩, ⟨c2, by omega, c4, by omega, c6, by omega⟩, B, A, by rw [← e1]; grind, by rw [← e0, ← e1]; grind⟩, m1⟩
theorem comb_loop {a b : Int} (hb : b ≤ 2 ^ 150) (ha : a ≤ 2 ^ 150) : ∀ (n : Nat) (r0 r1 s X0 X1 Y0 Y1 : Int) (w : Option D), r1 ≤ n → CI a b r0 r1 s X0 X1 Y0 Y1 →
    ∃ (g x y : Int) (z w' : Option D), (∀ S, cLoop [some (.v (.int a)), some (.v (.int b)), some (.v (.int r0)), some (.v (.int r1)), some (.v (pd (s * X0, - (s * Y0)))), some (.v (pd (-(s * X1), s * Y1))), w] S = .nx [some (.v (.int a)), some (.v (.int b)), some (.v (.int g)), some (.v (.int 0)), some (.v (pd (x, y))), z, w'] S) ∧ g = ((Int.gcd r0 r1 : Nat) : Int) ∧ a * x + b * y = g := by
  intro n
  induction n with
  | zero =>
    intro r0 r1 s X0 X1 Y0 Y1 w hn I
    have : r1 = 0 := by have := I.n.2.1; omega
    subst this
    refine ⟨r0, _, _, _, _, fun S => comb_end, ?_, ?_⟩
    · have := I.n.1; simp [Int.gcd]; omega
    · rw [← I.e0]; grind
  | succ n ih =>
    intro r0 r1 s X0 X1 Y0 Y1 w hn I
    by_cases h : r1 = 0
    · subst h
      refine ⟨r0, _, _, _, _, fun S => comb_end, ?_, ?_⟩
      · have := I.n.1; simp [Int.gcd]; omega
      · rw [← I.e0]; grind
    · have hr : 0 < r1 := by have := I.n.2.1; omega
      obtain ⟨I', lt⟩ := I.step hb ha hr
      have q0 : 0 ≤ r0 / r1 := Int.ediv_nonneg I.n.1 I.n.2.1
      have q1 : r0 / r1 ≤ 2 ^ 150 := Int.le_trans (Int.ediv_le_self _ I.n.1) I.c.1
      obtain ⟨g, x, y, z, w', e, g1, g2⟩ := ih r1 (r0 - r0 / r1 * r1) (-s) X1 (X0 + r0 / r1 * X1) Y1 (Y0 + r0 / r1 * Y1) (some (.v (.int (r0 / r1)))) (by omega) I'
      have sX : -(2 ^ 200) ≤ -(s * X1) ∧ -(s * X1) ≤ 2 ^ 200 := by have := I.n; have := I.c; rcases I.sg with rfl | rfl <;> omega
      have sY : -(2 ^ 200) ≤ s * Y1 ∧ s * Y1 ≤ 2 ^ 200 := by have := I.n; have := I.c; rcases I.sg with rfl | rfl <;> omega
      refine ⟨g, x, y, z, w', fun S => ?_, ?_, g2⟩
      · rw [comb_step w hr (by have := I.c.2.1; omega) rfl (mulOk_of (by omega) (by omega) (by have := I.c; omega) (by have := I.c; omega)) (mulOk_of (by omega) (by omega) sX.1 sX.2) (mulOk_of (by omega) (by omega) sY.1 sY.2), ← e S]
        have t1 : (-s * X1) = -(s * X1) := by grind
        have t2 : -(-s * Y1) = s * Y1 := by grind
        have t3 : -(-s * (X0 + r0 / r1 * X1)) = s * X0 - r0 / r1 * -(s * X1) := by grind
        have t4 : -s * (Y0 + r0 / r1 * Y1) = -(s * Y0) - r0 / r1 * (s * Y1) := by grind
        rw [t1, t2, t3, t4]
      · rw [g1]
        have : r0 - r0 / r1 * r1 = r0 % r1 := by have e := Int.mul_ediv_add_emod r0 r1; rw [Int.mul_comm r1] at e; omega
        rw [this]
        have h1 := I.n
        have : Int.gcd r1 (r0 % r1) = Int.gcd r0 r1 := by
          obtain ⟨m, hm⟩ := Int.eq_ofNat_of_zero_le h1.1
          obtain ⟨k, hk⟩ := Int.eq_ofNat_of_zero_le h1.2.1
          rw [hm, hk]
          show Nat.gcd k (m % k) = Nat.gcd m k
          rw [Nat.gcd_comm m k, Nat.gcd_rec k m, Nat.gcd_comm]
        rw [this]
theorem combined_i {a b : Int} (ha : 0 ≤ a ∧ a ≤ 2 ^ 150) (hb : 0 ≤ b ∧ b ≤ 2 ^ 150) : ∃ x y : Int, (∀ S, callF 2 F_combined_of [.v (.int a), .v (.int b)] S = .ok (.v (pd (x, y))) S) ∧ a * x + b * y = ((Int.gcd a b : Nat) : Int) := by
  obtain ⟨g, x, y, z, w', e, g1, g2⟩ := comb_loop hb.2 ha.2 b.toNat a b 1 1 0 0 1 none (by omega) ⟨.inl rfl, by omega, by omega, by grind, by grind, by grind, by grind⟩
  have g0 : 0 ≤ g := by rw [g1]; omega
  refine ⟨x, y, fun S => callF_2 ?_, by rw [g2, g1]⟩
  have e' := e []
  simp only [Int.one_mul, Int.neg_zero, Int.mul_zero, Int.mul_one] at e'
  unfold F_combined_of sem_combined_of
  rw [show sWhile (eOpB neP (eVar 3) (eC (.int 0))) _ = cLoop from rfl]
  have e2 : (sUnp (.tup [2, 3, 4, 5]) (eTup (aCons (eVar 0) (aCons (eVar 1) (aCons (eTup (aCons (eC (.int 1)) (aCons (eC (.int 0)) aNil))) (aCons (eTup (aCons (eC (.int 0)) (aCons (eC (.int 1)) aNil))) aNil)))))) [some (.v (.int a)), some (.v (.int b)), none, none, none, none, none] [] = .nx [some (.v (.int a)), some (.v (.int b)), some (.v (.int a)), some (.v (.int b)), some (.v (pd (1, 0))), some (.v (pd (0, 1))), none] [] := by
    simp [pd]
  refine run_rt rfl ?_
  show sSeq _ _ [some (.v (.int a)), some (.v (.int b)), none, none, none, none, none] [] = _
  rw [seq_nx e2, seq_nx e']
  simp [g0]
end M76
end
section
variable [FL.TabsOf]
namespace M76
open PySem FL RL
theorem igcd_eq (a b : Int) : igcd a b = ((Int.gcd a b : Nat) : Int) := rfl
theorem back_i {a b : Int} (ha : 0 ≤ a) (hb : 1 ≤ b ∧ b ≤ 2 ^ 150) (hg : Int.gcd a b = 1) : ∃ u : Int, (∀ S, callF 2 F_back_of [.v (.int a), .v (.int b)] S = .ok (.v (.int u)) S) ∧ 0 ≤ u ∧ u < b ∧ b ∣ a * u - 1 := by
  have m1 := Int.emod_nonneg a (by omega : b ≠ 0)
  have m2 := Int.emod_lt_of_pos a (by omega : 0 < b)
  obtain ⟨x, y, e, k⟩ := combined_i (a := a % b) (b := b) (by omega) (by omega)
  refine ⟨x % b, fun S => callF_2 ?_, Int.emod_nonneg _ (by omega), Int.emod_lt_of_pos _ (by omega), ?_⟩
  · have : modOk a b = true := modOk_of (by omega)
    have h2 : modOk x b = true := modOk_of (by omega)
    simp [F_back_of, sem_back_of, this, e, pd, h2]
  · have g1 : Int.gcd (a % b) b = 1 := by
      rw [← hg]
      obtain ⟨m, hm⟩ := Int.eq_ofNat_of_zero_le ha
      obtain ⟨k, hk⟩ := Int.eq_ofNat_of_zero_le (show 0 ≤ b by omega)
      rw [hm, hk]
      show Nat.gcd (m % k) k = Nat.gcd m k
      rw [Nat.gcd_comm m k, Nat.gcd_rec k m]
    rw [g1] at k
    have e1 := Int.mul_ediv_add_emod a b
    have e2 := Int.mul_ediv_add_emod x b
    generalize a % b = a' at *
    generalize x % b = x' at *
    generalize a / b = p at *
    generalize x / b = q at *
    refine ⟨p * x' - a' * q - y, ?_⟩
    rw [← e1]
    have : a' * x' = a' * x - a' * (b * q) := by rw [← e2]; grind
    have k' : a' * x = 1 - b * y := by omega
    grind
theorem quarrel_i {a b : Fa} (ha : 0 < a.2) {S} : callF 2 F_do_quarrel [.v (pd a), .v (pd b)] S = .ok (.v (.bl (decide (qr a b)))) S := callF_2 (by
  have gp : 0 < igcd a.2 b.2 := gcd_pos' ha
  have h : modOk (a.1 - b.1) (igcd a.2 b.2) = true := modOk_of gp
  have e : (!decide ((a.1 - b.1) % igcd a.2 b.2 = 0)) = decide (qr a b) := by
    rw [← decide_not]
    refine decide_eq_decide.mpr ?_
    unfold qr
    rw [igcd_eq]
    exact not_congr ⟨Int.dvd_of_emod_eq_zero, Int.emod_eq_zero_of_dvd⟩
  simp [F_do_quarrel, sem_do_quarrel, pd, common_i, h, bD, e])
theorem gcd_cop {a b : Int} (ha : 0 < a) : Int.gcd (a / ((Int.gcd a b : Nat) : Int)) (b / ((Int.gcd a b : Nat) : Int)) = 1 := by
  obtain ⟨u, hu⟩ := inv_ex (a := a) (b := b) ha
  have pp : 1 ≤ a / ((Int.gcd a b : Nat) : Int) := (Int.le_ediv_iff_mul_le (gcd_pos' ha)).mpr (by have := Int.le_of_dvd ha (gcd_l a b); omega)
  generalize a / ((Int.gcd a b : Nat) : Int) = p at *
  generalize b / ((Int.gcd a b : Nat) : Int) = q at *
  have h1 := gcd_l p q
  have h2 := gcd_r p q
  have : ((Int.gcd p q : Nat) : Int) ∣ 1 := by
    have h3 := Int.dvd_sub (Int.dvd_mul_of_dvd_left h1 : _ ∣ p * u) (Int.dvd_trans h2 hu)
    have e : p * u - (p * u - 1) = 1 := by omega
    rwa [e] at h3
  have := Int.le_of_dvd (by omega) this
  have := gcd_pos' (a := p) (b := q) (by omega)
  omega
theorem put_i {a b : Fa} (ga : Gd a) (gb : Gd b) (sa : a.2 ≤ 2 ^ 60) (sb : b.2 ≤ 2 ^ 60) (hq : ¬ qr a b) {S} : callF 2 F_put_together [.v (pd a), .v (pd b)] S = .ok (.v (pd (pt a b))) S := callF_2 (by
  have gp : 0 < igcd a.2 b.2 := gcd_pos' ga.pos
  have ap := ga.pos
  have bp := gb.pos
  have gle : igcd a.2 b.2 ≤ a.2 := Int.le_of_dvd ap (gcd_l a.2 b.2)
  have gleb : igcd a.2 b.2 ≤ b.2 := Int.le_of_dvd bp (gcd_r a.2 b.2)
  have d0 : ∀ i, divOk i (igcd a.2 b.2) = true := fun i => divOk_of gp (by omega)
  have q1 : 1 ≤ b.2 / igcd a.2 b.2 := (Int.le_ediv_iff_mul_le gp).mpr (by omega)
  have q2 : b.2 / igcd a.2 b.2 ≤ b.2 := Int.ediv_le_self _ (by omega)
  have p1 : 1 ≤ a.2 / igcd a.2 b.2 := (Int.le_ediv_iff_mul_le gp).mpr (by omega)
  have p2 : a.2 / igcd a.2 b.2 ≤ a.2 := Int.ediv_le_self _ (by omega)
  obtain ⟨u, eu, u0, u1, hu⟩ := back_i (a := a.2 / igcd a.2 b.2) (b := b.2 / igcd a.2 b.2) (by omega) ⟨q1, by omega⟩ (gcd_cop ap)
  have B := both_put ap bp hq hu
  rw [pt_eq B]
  have a1 := ga.1; have a2 := ga.2; have b1 := gb.1; have b2 := gb.2
  have r1 : -(2 ^ 200) ≤ (b.1 - a.1) / igcd a.2 b.2 ∧ (b.1 - a.1) / igcd a.2 b.2 ≤ 2 ^ 200 := by
    have hd := Classical.byContradiction hq
    obtain ⟨c, hc⟩ := hd
    have hc' : b.1 - a.1 = igcd a.2 b.2 * (-c) := by rw [Int.mul_neg, igcd_eq, ← hc]; omega
    have : (b.1 - a.1) / igcd a.2 b.2 = -c := by rw [hc']; exact Int.mul_ediv_cancel_left _ (by omega)
    rw [this]
    generalize igcd a.2 b.2 = g at *
    have l1 : -c ≤ 2 ^ 60 := by
      rcases Int.lt_or_le 0 (-c) with h | h
      · have : 1 * (-c) ≤ g * (-c) := Int.mul_le_mul_of_nonneg_right (by omega) (by omega)
        omega
      · omega
    have l2 : c ≤ 2 ^ 60 := by
      rcases Int.lt_or_le 0 c with h | h
      · have : 1 * c ≤ g * c := Int.mul_le_mul_of_nonneg_right (by omega) (by omega)
        have : g * (-c) = -(g * c) := Int.mul_neg _ _
        omega
      · omega
    omega
  have m1 : mulOk ((b.1 - a.1) / igcd a.2 b.2) u = true := mulOk_of r1.1 r1.2 (by omega) (by omega)
  have m2 : mulOk (a.2 / igcd a.2 b.2) b.2 = true := mulOk_of (by omega) (by omega) (by omega) (by omega)
  have o1 : ∀ i, modOk i (b.2 / igcd a.2 b.2) = true := fun i => modOk_of (by omega)
  have s0 := Int.emod_nonneg ((b.1 - a.1) / igcd a.2 b.2 * u) (by omega : b.2 / igcd a.2 b.2 ≠ 0)
  have s1 := Int.emod_lt_of_pos ((b.1 - a.1) / igcd a.2 b.2 * u) (by omega : 0 < b.2 / igcd a.2 b.2)
  have m3 : mulOk a.2 ((b.1 - a.1) / igcd a.2 b.2 * u % (b.2 / igcd a.2 b.2)) = true := mulOk_of (by omega) (by omega) (by omega) (by omega)
  have wp : 0 < a.2 / igcd a.2 b.2 * b.2 := Int.mul_pos (by omega) bp
  have o2 : ∀ i, modOk i (a.2 / igcd a.2 b.2 * b.2) = true := fun i => modOk_of wp
  simp [F_put_together, sem_put_together, pd, common_i, d0, eu, m1, m2, m3, o1, o2]
  exact ⟨rfl, rfl⟩)
def jD : Option Fa → Da
  | none => .non
  | some f => pd f
structure OkF (N : Int) (f : Fa) : Prop where
  gd : Gd f
  dv : f.2 ∣ N
theorem OkF.le {N : Int} {f : Fa} (h : OkF N f) (hN : 0 < N ∧ N ≤ 2 ^ 60) : f.2 ≤ 2 ^ 60 := Int.le_trans (Int.le_of_dvd hN.1 h.dv) hN.2
theorem OkF.pt {N : Int} {a b : Fa} (h : OkF N a) (k : OkF N b) (q : ¬ qr a b) : OkF N (RL.pt a b) := by
  have B := pt_both h.gd.pos k.gd.pos q
  exact ⟨B.gd, B.dvd h.dv k.dv⟩
theorem joined_loop {N : Int} (hN : 0 < N ∧ N ≤ 2 ^ 60) {p : Option D} {S} : ∀ (l : List Fa) (g : Fa) (w : Option D), OkF N g → (∀ f ∈ l, OkF N f) →
    (∃ h w', jn g l = some h ∧ fLoop (.nm 2) (sSeq (sIf (eTru (eCall 2 F_do_quarrel (aCons (eVar 1) (aCons (eVar 2) aNil)))) (sRet (eC .non)) sNext) (sSet 1 (eCall 2 F_put_together (aCons (eVar 1) (aCons (eVar 2) aNil))))) (l.map pd) [p, some (.v (pd g)), w] S = .nx [p, some (.v (pd h)), w'] S) ∨
    (jn g l = none ∧ fLoop (.nm 2) (sSeq (sIf (eTru (eCall 2 F_do_quarrel (aCons (eVar 1) (aCons (eVar 2) aNil)))) (sRet (eC .non)) sNext) (sSet 1 (eCall 2 F_put_together (aCons (eVar 1) (aCons (eVar 2) aNil))))) (l.map pd) [p, some (.v (pd g)), w] S = .rt (.v .non) S) := by
  intro l
  induction l with
  | nil => intro g w hg hl; exact .inl ⟨g, w, rfl, rfl⟩
  | cons f l ih =>
    intro g w hg hl
    have hf := hl f List.mem_cons_self
    by_cases q : qr g f
    · refine .inr ⟨by unfold jn; rw [if_pos q], ?_⟩
      simp [fLoop, quarrel_i hg.gd.pos, q]
    · have st : ∀ (r : List Da) (B : SM), B = (sSeq (sIf (eTru (eCall 2 F_do_quarrel (aCons (eVar 1) (aCons (eVar 2) aNil)))) (sRet (eC .non)) sNext) (sSet 1 (eCall 2 F_put_together (aCons (eVar 1) (aCons (eVar 2) aNil))))) → fLoop (.nm 2) B (pd f :: r) [p, some (.v (pd g)), w] S = fLoop (.nm 2) B r [p, some (.v (pd (pt g f))), some (.v (pd f))] S := by
        intro r B hB
        have : B [p, some (.v (pd g)), some (.v (pd f))] S = .nx [p, some (.v (pd (pt g f))), some (.v (pd f))] S := by
          subst hB
          simp [quarrel_i hg.gd.pos, q, put_i hg.gd hf.gd (hg.le hN) (hf.le hN) q]
        conv => lhs; unfold fLoop
        simp [this]
      have e : jn g (f :: l) = jn (pt g f) l := by
        show (if qr g f then none else jn (pt g f) l) = _
        rw [if_neg q]
      rw [e, List.map_cons, st _ _ rfl]
      exact ih (pt g f) _ (hg.pt hf q) fun f h => hl f (List.mem_cons_of_mem _ h)
theorem all_okF (N : Int) : OkF N (0, 1) := ⟨all_gd, Int.one_dvd _⟩
theorem joined_of_i {N : Int} (hN : 0 < N ∧ N ≤ 2 ^ 60) {l : List Fa} {p : Da} (hp : seqP p = some (l.map pd)) (hl : ∀ f ∈ l, OkF N f) {S} : callF 1 F_joined_of [.v p] S = .ok (.v (jD (jn (0, 1) l))) S := callF_1 (by
  rcases joined_loop hN (p := some (.v p)) (S := []) l (0, 1) none (all_okF N) hl with ⟨h, w', e, k⟩ | ⟨e, k⟩
  · have k' : fLoop _ _ (l.map pd) [some (.v p), some (.v (.tup [.int 0, .int 1])), none] [] = _ := k
    rw [e]
    simp [F_joined_of, sem_joined_of, hp, jD, k']
  · have k' : fLoop _ _ (l.map pd) [some (.v p), some (.v (.tup [.int 0, .int 1])), none] [] = _ := k
    rw [e]
    simp [F_joined_of, sem_joined_of, hp, jD, k'])
theorem count_of_i {f : Fa} (hf : 0 < f.2) (h2 : f.2 ≤ 2 ^ 150) {lo hi : Int} {S} : callF 3 F_count_of [.v (pd f), .v (.int lo), .v (.int hi)] S = .ok (.v (.int ((hi - f.1) / f.2 - (lo - 1 - f.1) / f.2))) S := callF_3 (by
  have d : ∀ i, divOk i f.2 = true := fun i => divOk_of hf (by omega)
  simp [F_count_of, sem_count_of, pd, d])
end M76
end
section
variable [FL.TabsOf]
namespace FL
open PySem
@[simp] theorem s_sl {f : EM D} {l h : EM (Option Int)} {ρ S} : eSl f l h ρ S = (f ρ S).bind fun d S1 => (l ρ S1).bind fun lo S2 => (h ρ S2).bind fun hi S3 => match view S3 d with
  | some p => (match slP p lo hi with
    | some r => .ok (.v r) S3
    | none => .bad)
  | none => .bad := rfl
@[simp] theorem s_oN {ρ S} : oNone ρ S = .ok none S := rfl
@[simp] theorem s_oS {f : EM D} {ρ S} : oSome f ρ S = (f ρ S).bind fun d S1 => match d with
  | .v (.int i) => .ok (some i) S1
  | _ => .bad := rfl
@[simp] theorem sl_t (l : List Da) (lo hi : Option Int) : slP (.tup l) lo hi = some (.tup (cutD l lo hi)) := rfl
@[simp] theorem sl_l (l : List Da) (lo hi : Option Int) : slP (.lst l) lo hi = some (.lst (cutD l lo hi)) := rfl
@[simp] theorem sl_f (l : List Da) (lo hi : Option Int) : slP (.flst l) lo hi = some (.lst (cutD l lo hi)) := rfl
@[simp] theorem cut2 (l : List Da) : cutD l none (some 2) = l.take 2 := cut_n 2
@[simp] theorem int_b (b : Bool) : intP [.bl b] = some (.int (if b then 1 else 0)) := rfl
@[simp] theorem s_callN {a : EM (List D)} {n : Nat} {F : Fn} {ρ S} : eCallN n F a ρ S = (a ρ S).bind fun ds S1 => (callF n F ds S1).bind fun r S2 => match r with
  | .nl l => .ok (.o S2.length) (S2 ++ [.lst l])
  | .nd _ _ => .bad
  | r => .ok (rvD r) S2 := rfl
theorem callF_nd {n : Nat} {F : Fn} {ps : List Da} {ks vs : List Da} {S : List Cell} (hn : ps.length = n) (h : F (ps.map D.v) [] = .ok (.nd ks vs) []) : callF n F (ps.map D.v) S = .ok (.nd ks vs) S := by
  unfold callF
  rw [splitA_plain, if_pos ⟨by rw [List.length_map]; exact hn, List.nodup_nil⟩]
  simp only [cellsAt, callR, h, List.all_nil, if_true, putCells]
end FL
namespace M76
open PySem FL RL
theorem isB_b (b : Bool) : isiP [.bl b, .ty "bool"] = some (.bl true) := by simp [isiP, tyName]; rfl
theorem check_span_i {lo hi : Int} (h1 : -10000000000000000000000000000000000000000 ≤ lo) (h2 : lo ≤ hi) (h3 : hi ≤ 10000000000000000000000000000000000000000) {S} : callF 2 F_check_span [.v (.int lo), .v (.int hi)] S = .ok (.v .non) S := callF_2 (by
  simp [F_check_span, sem_check_span, check_number_i h1 (Int.le_trans h2 h3), check_between_i h2 h3])
/-- a fact that is let -/
structure LF (f : Fa) : Prop where
  gd : Gd f
  le : f.2 ≤ 1000000000000000000000000000000
theorem fact_i {f : Fa} (h : LF f) {S} : callF 1 F_is_fact [.v (pd f)] S = .ok (.v (.bl true)) S := is_fact_i (by have := h.gd.pos; omega) h.le h.gd.1 (by have := h.gd.2; omega)
theorem facts_fault_i {l : List Fa} (hl : l.length ≤ 40) (h : ∀ f ∈ l, LF f) {S} : callF 2 F_facts_fault [.v (.tup (l.map pd)), .v (.int 40)] S = .ok (.v (.int (-1))) S := callF_2 (by
  obtain ⟨ρ', e, x, y, rfl⟩ := fL (S := []) (T := .tup [2, 3]) (body := sIf (eOrT (eOpB eqP (eVar 2) (eVar 1)) (eNotT (eTru (eCall 1 F_is_fact (aCons (eVar 3) aNil))))) (sRet (eVar 2)) sNext) (l := enD (l.map pd))
    (fun i ρ => ∃ x y, ρ = [some (.v (.tup (l.map pd))), some (.v (.int 40)), x, y]) (fun i d ρ hd ⟨x, y, hρ⟩ => by
      subst hρ
      obtain ⟨z, hz, rfl, hi⟩ := enD_at hd
      rw [List.getElem?_map] at hz
      rw [List.length_map] at hi
      rw [List.getElem?_eq_getElem hi] at hz
      have hz' : pd l[i] = z := by simpa using hz
      subst hz'
      have ni : ¬ ((i : Int) = 40) := by omega
      have e := fact_i (h _ (List.getElem_mem hi)) (S := [])
      refine ⟨_, [_, _, some (.v (.int (i : Nat))), some (.v (pd l[i]))], rfl, ?_, _, _, rfl⟩
      simp [ni, e]) (ρ := [some (.v (.tup (l.map pd))), some (.v (.int 40)), none, none]) ⟨_, _, rfl⟩
  simp [F_facts_fault, sem_facts_fault, o_isT, e])
theorem check_facts_i {l : List Fa} (hl : l.length ≤ 40) (h : ∀ f ∈ l, LF f) {S} : callF 1 F_check_facts [.v (.tup (l.map pd))] S = .ok (.v .non) S := callF_1 (by
  simp [F_check_facts, sem_check_facts, facts_fault_i hl h])
def kd (a : Fa × Bool) : Da := .tup [.int a.1.1, .int a.1.2, .bl a.2]
theorem is_ask_i {a : Fa × Bool} (h : LF a.1) {S} : callF 1 F_is_ask [.v (kd a)] S = .ok (.v (.bl true)) S := callF_1 (by
  have e := fact_i h (S := [])
  have p : pd a.1 = .tup [.int a.1.1, .int a.1.2] := rfl
  rw [p] at e
  simp [F_is_ask, sem_is_ask, kd, o_isT, isB_b, bD, e])
def offs (l : List (Fa × Bool)) : Nat := (l.filter fun a => !a.2).length
theorem asks_fault_i {l : List (Fa × Bool)} (hl : l.length ≤ 40) (h12 : offs l ≤ 12) (h : ∀ a ∈ l, LF a.1) {S} : callF 1 F_asks_fault [.v (.tup (l.map kd))] S = .ok (.v (.int (-1))) S := callF_1 (by
  obtain ⟨ρ', e, w, x, y, rfl, _⟩ := fL (S := []) (T := .tup [2, 3]) (body := sSeq (sIf (eOrT (eOpB eqP (eVar 2) (eC (.int 40))) (eNotT (eTru (eCall 1 F_is_ask (aCons (eVar 3) aNil))))) (sRet (eVar 2)) sNext)
  (sSeq (sSet 1 (eOp2 addP (eVar 1) (eCB intP (aCons (eNotV (eOp2 ixP (eVar 3) (eC (.int 2)))) aNil))))
  (sIf (eOpB gtP (eVar 1) (eC (.int 12))) (sRet (eVar 2)) sNext))) (l := enD (l.map kd))
    (fun i ρ => ∃ w x y, ρ = [some (.v (.tup (l.map kd))), some (.v (.int w)), x, y] ∧ w = offs (l.take i)) (fun i d ρ hd ⟨w, x, y, hρ, hw⟩ => by
      subst hρ
      obtain ⟨z, hz, rfl, hi⟩ := enD_at hd
      rw [List.getElem?_map] at hz
      rw [List.length_map] at hi
      rw [List.getElem?_eq_getElem hi] at hz
      have hz' : kd l[i] = z := by simpa using hz
      subst hz'
      have ni : ¬ ((i : Int) = 40) := by omega
      have e := is_ask_i (h _ (List.getElem_mem hi)) (S := [])
      have nx : w + (if (!l[i].2) = true then 1 else 0) = offs (l.take (i + 1)) := by
        rw [hw, List.take_add_one, List.getElem?_eq_getElem hi]
        unfold offs
        rw [List.filter_append, List.length_append]
        cases hb : l[i].2 <;> simp [hb]
      have le : offs (l.take (i + 1)) ≤ 12 := Nat.le_trans (((List.take_sublist _ _).filter _).length_le) h12
      have nl : ¬ (12 < w + (if (!l[i].2) = true then (1 : Int) else 0)) := by omega
      refine ⟨_, [_, some (.v (.int (w + if (!l[i].2) = true then 1 else 0))), some (.v (.int (i : Nat))), some (.v (kd l[i]))], rfl, ?_, _, _, _, rfl, nx⟩
      have k : kd l[i] = .tup [.int l[i].1.1, .int l[i].1.2, .bl l[i].2] := rfl
      rw [k] at e
      simp only [k]
      simp [ni, e] 
      simpa using nl) (ρ := [some (.v (.tup (l.map kd))), some (.v (.int 0)), none, none]) ⟨_, _, _, rfl, by simp [offs]⟩
  simp [F_asks_fault, sem_asks_fault, o_isT, e])
theorem check_looked_i {l : List (Fa × Bool)} (hl : l.length ≤ 40) (h12 : offs l ≤ 12) (h : ∀ a ∈ l, LF a.1) {lo hi : Int} (h1 : -10000000000000000000000000000000000000000 ≤ lo) (h2 : lo ≤ hi) (h3 : hi ≤ 10000000000000000000000000000000000000000) {S} :
    callF 3 F_check_looked [.v (.tup (l.map kd)), .v (.int lo), .v (.int hi)] S = .ok (.v .non) S := callF_3 (by
  have e : ∀ S, callF 1 F_check_asks [.v (.tup (l.map kd))] S = .ok (.v .non) S := fun S => callF_1 (by
    simp [F_check_asks, sem_check_asks, asks_fault_i hl h12 h])
  simp [F_check_looked, sem_check_looked, e, check_span_i h1 h2 h3])
theorem check_joined_i {N : Int} (hN : 0 < N ∧ N ≤ 2 ^ 60) {l : List Fa} (hl : ∀ f ∈ l, OkF N f) {g : Fa} (hg : jn (0, 1) l = some g) {S} : callF 1 F_check_joined [.v (.tup (l.map pd))] S = .ok (.v (pd g)) S := callF_1 (by
  have e := fun S => joined_of_i hN (p := .tup (l.map pd)) rfl hl (S := S)
  have n : isNoneP (pd g) .non = some false := rfl
  rw [hg] at e
  simp [F_check_joined, sem_check_joined, e, jD, n])
end M76
end
section
variable [FL.TabsOf]
namespace FL
open PySem
@[simp] theorem s_dctN {ρ S} : eDctN ρ S = .ok (.o S.length) (S ++ [.dct [] []]) := rfl
@[simp] theorem s_dct0 {ρ S} : eDct0 ρ S = .ok (.v (.dct [] [])) S := rfl
@[simp] theorem s_dct1 {f g : EM D} {ρ S} : eDct1 f g ρ S = (f ρ S).bind fun d S1 => (g ρ S1).bind fun e S2 => match d, e with
  | .v p, .v q => (match keyT p with
    | some _ => .ok (.v (.dct [p] [q])) S2
    | none => .bad)
  | _, _ => .bad := rfl
@[simp] theorem s_get2 {o f g : EM D} {ρ S} : eGet2 o f g ρ S = (o ρ S).bind fun d S1 => match view S1 d with
  | some (.dct _ _) => (f ρ S1).bind fun p S2 => (g ρ S2).bind fun x S3 => (match view S3 d, view S3 p with
    | some (.dct ks vs), some q => (match keysT ks, keyT q with
      | some kk, some k => (match lookK k kk vs with
        | some r => .ok (.v r) S3
        | none => .ok x S3)
      | _, _ => .bad)
    | _, _ => .bad)
  | _ => .bad := rfl
@[simp] theorem s_dput {f o i : EM D} {ρ S} : sDput f o i ρ S = match f ρ S with
  | .ok d S1 => (match o ρ S1 with
    | .ok od S2 => (match i ρ S2 with
      | .ok id S3 => (match d with
        | .v p => (match dputS S3 od id p with
          | some S' => .nx ρ S'
          | none => .bad)
        | _ => .bad)
      | .err C fs S3 => .err ρ C fs S3
      | .bad => .bad)
    | .err C fs S2 => .err ρ C fs S2
    | .bad => .bad)
  | .err C fs S1 => .err ρ C fs S1
  | .bad => .bad := by
  unfold sDput sThen
  cases f ρ S <;> simp only []
  rename_i d S1
  cases o ρ S1 <;> simp only []
  rename_i od S2
  cases i ρ S2 <;> rfl
@[simp] theorem s_items {f : EM D} {ρ S} : iItems f ρ S = (f ρ S).bind fun d S1 => match d with
  | .v (.dct ks vs) => .ok (zipKV ks vs) S1
  | _ => .bad := rfl
@[simp] theorem s_take {f : EM D} {ρ S} : eTake f ρ S = (f ρ S).bind fun d S1 => match d with
  | .o n => (match S1[n]? with
    | some (.dct ks vs) => .ok (.v (.dct ks vs)) (S1.set n .gone)
    | _ => .bad)
  | _ => .bad := rfl
end FL
namespace M76
open PySem FL RL L2
def kk (f : Fa) : List Key := [.inl f.1, .inl f.2]
theorem kk_inj {f g : Fa} : kk f = kk g ↔ f = g := by
  unfold kk
  constructor
  · intro h
    simp only [List.cons.injEq, Sum.inl.injEq, and_true] at h
    exact Prod.ext h.1 h.2
  · rintro rfl; rfl
def wks (W : Wt) : List Da := W.map fun p => pd p.1
def wvs (W : Wt) : List Da := W.map fun p => Da.int p.2
abbrev wd (W : Wt) : Da := .dct (wks W) (wvs W)
def itD (p : Fa × Int) : Da := .tup [pd p.1, .int p.2]
@[simp] theorem keyT_pd (f : Fa) : keyT (pd f) = some (kk f) := rfl
theorem keysT_w : ∀ W : Wt, keysT (wks W) = some (W.map fun p => kk p.1)
  | [] => rfl
  | p :: W => by
    have := keysT_w W
    unfold wks at *
    simp only [List.map_cons, keysT, keyT_pd, this]
theorem lookK_w (f : Fa) : ∀ W : Wt, lookK (kk f) (W.map fun p => kk p.1) (wvs W) = (gw W f).map Da.int
  | [] => rfl
  | p :: W => by
    have ih := lookK_w f W
    unfold wvs at *
    simp only [List.map_cons, lookK, gw, kk_inj, ih]
    split <;> rfl
theorem storK_w (f : Fa) (w : Int) : ∀ W : Wt, storK (kk f) (.int w) (W.map fun p => kk p.1) (wvs W) = wvs (W.map fun p => if p.1 = f then (p.1, w) else p)
  | [] => rfl
  | p :: W => by
    have ih := storK_w f w W
    unfold wvs at *
    simp only [List.map_cons, storK, kk_inj, ih]
    congr 1
    split <;> rfl
theorem keys_map (f : Fa) (w : Int) (W : Wt) : wks (W.map fun p => if p.1 = f then (p.1, w) else p) = wks W := by
  unfold wks
  rw [List.map_map]
  refine List.map_congr_left fun p _ => ?_
  show pd (if p.1 = f then (p.1, w) else p).1 = _
  split <;> rfl
theorem putD_w (W : Wt) (f : Fa) (w : Int) (h : W.length ≤ 1000000) : putD (wks W) (wvs W) (pd f) (.int w) = some (wks (sw W f w), wvs (sw W f w)) := by
  unfold putD
  rw [keysT_w, keyT_pd]
  have hl : (wks W).length ≤ 1000000 := by unfold wks; rw [List.length_map]; exact h
  simp only [if_pos hl, lookK_w]
  unfold sw
  cases c : gw W f with
  | none => simp [wks, wvs]
  | some v => simp [storK_w, keys_map]
theorem zip_w : ∀ W : Wt, zipKV (wks W) (wvs W) = W.map itD
  | [] => rfl
  | p :: W => by
    have ih := zip_w W
    unfold wks wvs at *
    simp only [List.map_cons, zipKV, ih]
    rfl
theorem get_w {W : Wt} {f : Fa} {S : List Cell} : (match lookK (kk f) (W.map fun p => kk p.1) (wvs W) with
        | some r => (ER.ok (D.v r) S : ER D)
        | none => .ok (.v (.int 0)) S) = .ok (.v (.int ((gw W f).getD 0))) S := by
  rw [lookK_w]
  cases gw W f <;> rfl
noncomputable abbrev wfB : SM := sIf (eNotT (eTru (eCall 2 F_do_quarrel (aCons (eVar 3) (aCons (eVar 1) aNil))))) (sSeq (sSet 5 (eCall 2 F_put_together (aCons (eVar 3) (aCons (eVar 1) aNil))))
  (sDput (eOp2 addP (eGet2 (eVar 2) (eVar 5) (eC (.int 0))) (eVar 4)) (eVar 2) (eVar 5))) sNext
theorem wf_step {f : Fa} (hf : Gd f ∧ f.2 ≤ 2 ^ 60) {p : Fa × Int} (hp : Gd p.1 ∧ p.1.2 ≤ 2 ^ 60) {A : Wt} (hA : A.length ≤ 1000000) {d0 z : Option D} : ∃ z', wfB [d0, some (.v (pd f)), some (.o 0), some (.v (pd p.1)), some (.v (.int p.2)), z] [.dct (wks A) (wvs A)] = .nx [d0, some (.v (pd f)), some (.o 0), some (.v (pd p.1)), some (.v (.int p.2)), z'] [.dct (wks (wf1 f A p)) (wvs (wf1 f A p))] := by
  unfold wf1
  by_cases q : qr p.1 f
  · exact ⟨z, by simp [quarrel_i hp.1.pos, q]⟩
  · refine ⟨some (.v (pd (pt p.1 f))), ?_⟩
    have e := put_i hp.1 hf.1 hp.2 hf.2 q (S := [.dct (wks A) (wvs A)])
    have g := get_w (W := A) (f := pt p.1 f) (S := [.dct (wks A) (wvs A)])
    simp only [if_neg q]
    simp [quarrel_i hp.1.pos, q, e, view, keysT_w, dputS, g, putD_w A _ _ hA, ad]
theorem wf_loop {f : Fa} (hf : Gd f ∧ f.2 ≤ 2 ^ 60) {d0 : Option D} : ∀ (V : Wt) (A : Wt) (x y z : Option D), (∀ p ∈ V, Gd p.1 ∧ p.1.2 ≤ 2 ^ 60) → A.length + V.length ≤ 1000000 →
    ∃ x' y' z', fLoop (.tup [3, 4]) wfB (V.map itD) [d0, some (.v (pd f)), some (.o 0), x, y, z] [.dct (wks A) (wvs A)] = .nx [d0, some (.v (pd f)), some (.o 0), x', y', z'] [.dct (wks (V.foldl (wf1 f) A)) (wvs (V.foldl (wf1 f) A))]
  | [], A, x, y, z, _, _ => ⟨x, y, z, rfl⟩
  | p :: V, A, x, y, z, hV, hl => by
    rw [List.length_cons] at hl
    obtain ⟨z1, e⟩ := wf_step hf (hV p List.mem_cons_self) (A := A) (by omega) (d0 := d0) (z := z)
    have l1 : (wf1 f A p).length ≤ A.length + 1 := by
      unfold wf1
      split
      · omega
      · exact len_sw _ _ _
    obtain ⟨x', y', z', e2⟩ := wf_loop hf V (wf1 f A p) (some (.v (pd p.1))) (some (.v (.int p.2))) z1 (fun q hq => hV q (List.mem_cons_of_mem _ hq)) (by omega)
    refine ⟨x', y', z', ?_⟩
    rw [List.map_cons, List.foldl_cons, ← e2]
    conv => lhs; unfold fLoop
    have t : tgSet (.tup [3, 4]) (itD p) [d0, some (.v (pd f)), some (.o 0), x, y, z] = some [d0, some (.v (pd f)), some (.o 0), some (.v (pd p.1)), some (.v (.int p.2)), z] := rfl
    simp only [t, e]
theorem with_fact_i {W : Wt} {f : Fa} (hf : Gd f ∧ f.2 ≤ 2 ^ 60) (hW : ∀ p ∈ W, Gd p.1 ∧ p.1.2 ≤ 2 ^ 60) (hl : W.length ≤ 1000000) {S} : callF 2 F_with_fact [.v (wd W), .v (pd f)] S = .ok (.nd (wks (wf W f)) (wvs (wf W f))) S := callF_nd (ps := [wd W, pd f]) rfl (by
  obtain ⟨x', y', z', e⟩ := wf_loop hf W [] none none none hW (by simpa using hl) (d0 := some (.v (wd W)))
  have e' : fLoop (.tup [3, 4]) wfB (W.map itD) [some (.v (wd W)), some (.v (pd f)), some (.o 0), none, none, none] [.dct [] []] = _ := e
  unfold F_with_fact sem_with_fact
  simp [zip_w, e', fin]
  exact ⟨rfl, rfl⟩)
abbrev woB : SM := sDput (eOp2 subP (eGet2 (eVar 2) (eVar 3) (eC (.int 0))) (eVar 4)) (eVar 2) (eVar 3)
theorem wo_loop {d0 d1 : Option D} : ∀ (V : Wt) (A : Wt) (x y : Option D), A.length + V.length ≤ 1000000 →
    ∃ x' y', fLoop (.tup [3, 4]) woB (V.map itD) [d0, d1, some (.o 0), x, y] [.dct (wks A) (wvs A)] = .nx [d0, d1, some (.o 0), x', y'] [.dct (wks (V.foldl wo1 A)) (wvs (V.foldl wo1 A))]
  | [], A, x, y, _ => ⟨x, y, rfl⟩
  | p :: V, A, x, y, hl => by
    rw [List.length_cons] at hl
    have l1 : (wo1 A p).length ≤ A.length + 1 := len_sw _ _ _
    obtain ⟨x', y', e2⟩ := wo_loop V (wo1 A p) (some (.v (pd p.1))) (some (.v (.int p.2))) (by omega) (d0 := d0) (d1 := d1)
    refine ⟨x', y', ?_⟩
    rw [List.map_cons, List.foldl_cons, ← e2]
    conv => lhs; unfold fLoop
    have t : tgSet (.tup [3, 4]) (itD p) [d0, d1, some (.o 0), x, y] = some [d0, d1, some (.o 0), some (.v (pd p.1)), some (.v (.int p.2))] := rfl
    have g := get_w (W := A) (f := p.1) (S := [.dct (wks A) (wvs A)])
    have s : woB [d0, d1, some (.o 0), some (.v (pd p.1)), some (.v (.int p.2))] [.dct (wks A) (wvs A)] = .nx [d0, d1, some (.o 0), some (.v (pd p.1)), some (.v (.int p.2))] [.dct (wks (wo1 A p)) (wvs (wo1 A p))] := by
      unfold wo1 ad
      have e : (gw A p.1).getD 0 + -p.2 = (gw A p.1).getD 0 - p.2 := by omega
      rw [e]
      simp [view, keysT_w, dputS, g, putD_w A _ _ (by omega : A.length ≤ 1000000)]
    simp only [t, s]
theorem dc_loop {ρ ρ' : Rho} {S} (hρ : ∀ p : Fa × Int, tgSet (.tup [3, 4]) (itD p) ρ = some [ρ'.getD 0 none, ρ'.getD 1 none, ρ'.getD 2 none, some (.v (pd p.1)), some (.v (.int p.2))]) : ∀ (V A : Wt), nd (A ++ V) → A.length + V.length ≤ 1000000 →
    dcLoop (.tup [3, 4]) (eOpB neP (eVar 4) (eC (.int 0))) (eVar 3) (eVar 4) (V.map itD) ρ S (wks A, wvs A) = .ok (wks (A ++ V.filter fun p => p.2 != 0), wvs (A ++ V.filter fun p => p.2 != 0)) S
  | [], A, _, _ => by simp [dcLoop]
  | p :: V, A, hn, hl => by
    rw [List.length_cons] at hl
    rw [List.map_cons]
    unfold dcLoop
    simp only [hρ]
    by_cases h : p.2 = 0
    · have hn' : nd (A ++ V) := by
        unfold nd at hn ⊢
        exact hn.sublist (List.Sublist.map _ (List.Sublist.append (List.Sublist.refl _) (List.sublist_cons_self _ _)))
      simp [h]
      exact dc_loop hρ V A hn' (by omega)
    · have no : gw A p.1 = none := gw_none.mpr fun m => by
        unfold nd at hn
        rw [List.map_append, List.nodup_append] at hn
        exact hn.2.2 _ m _ (List.mem_map_of_mem List.mem_cons_self) rfl
      have sA : sw A p.1 p.2 = A ++ [p] := by unfold sw; rw [no]
      have ih := dc_loop hρ V (A ++ [p]) (by simpa using hn) (by simp; omega) (S := S)
      have pp := putD_w A p.1 p.2 (by omega)
      rw [sA] at pp
      have fl : (p :: V).filter (fun p => p.2 != 0) = p :: V.filter fun p => p.2 != 0 := List.filter_cons_of_pos (by simp [h])
      rw [fl]
      have as : A ++ p :: V.filter (fun p => p.2 != 0) = A ++ [p] ++ V.filter fun p => p.2 != 0 := by simp
      rw [as, ← ih]
      simp [h, pp]
theorem run_rt' {n N : Nat} {sem : SM} {ds : List D} {r : Da} {S' : List Cell} (hn : ds.length = n) (h : sem (ds.map some ++ List.replicate (N - n) none) [] = .rt (.v r) S') : runDef n N sem ds [] = .ok (.v r) [] := by
  rw [s_run, if_pos hn, h]
  simp [fin]
theorem without_fact_i {W : Wt} {f : Fa} (hf : Gd f ∧ f.2 ≤ 2 ^ 60) (hW : ∀ p ∈ W, Gd p.1 ∧ p.1.2 ≤ 2 ^ 60) (hl : 2 * W.length ≤ 1000000) (hlf : (wf W f).length ≤ W.length) (hlo : ((wf W f).foldl wo1 W).length ≤ 1000000) (hn : nd ((wf W f).foldl wo1 W)) (ha : apartK (wks W)) {S} :
    callF 2 F_without_fact [.v (wd W), .v (pd f)] S = .ok (.v (wd (wo W f))) S := callF_2 (by
  obtain ⟨x', y', e⟩ := wo_loop (wf W f) W none none (by omega) (d0 := some (.v (wd W))) (d1 := some (.v (pd f)))
  have w := fun S => with_fact_i hf hW (by omega) (S := S)
  have dc := dc_loop (ρ := [some (.v (wd W)), some (.v (pd f)), some (.o 0), none, none]) (ρ' := [some (.v (wd W)), some (.v (pd f)), some (.o 0)]) (S := [Cell.gone]) (fun p => rfl) ((wf W f).foldl wo1 W) [] (by simpa using hn) (by simpa using hlo)
  have dc' : dcLoop (.tup [3, 4]) (eOpB neP (eVar 4) (eC (.int 0))) (eVar 3) (eVar 4) (((wf W f).foldl wo1 W).map itD) [some (.v (wd W)), some (.v (pd f)), some (.o 0), none, none] [.gone] ([], []) = .ok (wks (wo W f), wvs (wo W f)) [.gone] := dc
  have cp : eDcopyN (eVar 0) [some (.v (wd W)), some (.v (pd f)), none, none, none] [] = .ok (.o 0) [.dct (wks W) (wvs W)] := by
    unfold eDcopyN
    simp [ha]
  have s1 : sSet 2 (eDcopyN (eVar 0)) [some (.v (wd W)), some (.v (pd f)), none, none, none] [] = .nx [some (.v (wd W)), some (.v (pd f)), some (.o 0), none, none] [.dct (wks W) (wvs W)] := by
    simp [cp]
  have s2 : sFor (iItems (eCall 2 F_with_fact (aCons (eVar 0) (aCons (eVar 1) aNil)))) (.tup [3, 4]) woB [some (.v (wd W)), some (.v (pd f)), some (.o 0), none, none] [.dct (wks W) (wvs W)] = .nx [some (.v (wd W)), some (.v (pd f)), some (.o 0), x', y'] [.dct (wks ((wf W f).foldl wo1 W)) (wvs ((wf W f).foldl wo1 W))] := by
    simp [w, rvD, zip_w, e]
  have s3 : eDc (iItems (eTake (eVar 2))) (.tup [3, 4]) (eOpB neP (eVar 4) (eC (.int 0))) (eVar 3) (eVar 4) [3, 4] [some (.v (wd W)), some (.v (pd f)), some (.o 0), x', y'] [.dct (wks ((wf W f).foldl wo1 W)) (wvs ((wf W f).foldl wo1 W))] = .ok (.v (wd (wo W f))) [.gone] := by
    unfold eDc
    simp [zip_w, wipeR, dc']
  refine run_rt' (S' := [.gone]) rfl ?_
  show sSeq _ _ [some (.v (wd W)), some (.v (pd f)), none, none, none] [] = _
  rw [seq_nx s1, seq_nx s2, s_ret, s3])
end M76
end
section
variable [FL.TabsOf]
namespace FL
open PySem
@[simp] theorem b_err {α β : Type} (C : Str) (fs : List (Str × D)) (S : List Cell) (k : α → List Cell → ER β) : (ER.err C fs S : ER α).bind k = .err C fs S := rfl
@[simp] theorem s_raise0 {x : Str} {ρ S} : sRaise0 x ρ S = .err ρ x [] S := rfl
theorem callF_err {n : Nat} {F : Fn} {ps : List Da} {C : Str} {S : List Cell} (hn : ps.length = n) (h : F (ps.map D.v) [] = .err C [] []) : callF n F (ps.map D.v) S = .err C [] S := by
  unfold callF
  rw [splitA_plain, if_pos ⟨by rw [List.length_map]; exact hn, List.nodup_nil⟩]
  simp only [cellsAt, callR, h, List.all_nil, if_true, putCells, closedF, Bool.and_self]
theorem run_err {n N : Nat} {sem : SM} {ds : List D} {C : Str} {ρ' : Rho} (hn : ds.length = n) (h : sem (ds.map some ++ List.replicate (N - n) none) [] = .err ρ' C [] []) : runDef n N sem ds [] = .err C [] [] := by
  rw [s_run, if_pos hn, h]
  simp [closedF]
end FL
namespace M76
open PySem FL RL L2
noncomputable def wg1 (W : Wt) (a : Fa × Bool) : Wt := if a.2 = true then W else wo W a.1
def tru (l : As) : List Fa := (l.filter (·.2)).map (·.1)
def wbase : Option Fa → Wt
  | none => []
  | some g => [(g, 1)]
noncomputable def wgh (l : As) : Wt := l.foldl wg1 (wbase (jn (0, 1) (tru l)))
theorem wg_step {N : Int} {W : Wt} (h : Wk (OkF N) W) {f : Fa} (hf : OkF N f) : Wk (OkF N) ((wf W f).foldl wo1 W) ∧ Wk (OkF N) (wo W f) ∧ (∀ x, wt (wo W f) x = if ft f x then 0 else wt W x) ∧ (wo W f).length ≤ 2 * W.length ∧ ab (wo W f) ≤ 2 * ab W ∧ ((wf W f).foldl wo1 W).length ≤ 2 * W.length :=
  wo_ok hf.gd (fun g hg => ⟨hg.gd, fun q => hg.pt hf q⟩) h
theorem wg_go {N : Int} : ∀ (l : As) (W : Wt), (∀ a ∈ l, OkF N a.1) → Wk (OkF N) W → Wk (OkF N) (l.foldl wg1 W) ∧ (∀ x, wt (l.foldl wg1 W) x = if (l.all fun a => a.2 || !decide (ft a.1 x)) = true then wt W x else 0) ∧ (l.foldl wg1 W).length ≤ 2 ^ offs l * W.length ∧ ab (l.foldl wg1 W) ≤ 2 ^ offs l * ab W
  | [], W, _, h => ⟨h, fun x => by simp, by simp [offs], by simp [offs]⟩
  | a :: l, W, hl, h => by
    have ha := hl a List.mem_cons_self
    cases c : a.2 with
    | true =>
      have e : wg1 W a = W := by unfold wg1; rw [if_pos c]
      obtain ⟨h1, h2, h3, h4⟩ := wg_go l W (fun q hq => hl q (List.mem_cons_of_mem _ hq)) h
      have eo : offs (a :: l) = offs l := by unfold offs; rw [List.filter_cons_of_neg (by simp [c])]
      rw [List.foldl_cons, e, eo]
      refine ⟨h1, fun x => ?_, h3, h4⟩
      rw [h2 x, List.all_cons, c, Bool.true_or, Bool.true_and]
    | false =>
      have e : wg1 W a = wo W a.1 := by unfold wg1; rw [if_neg (by rw [c]; exact Bool.false_ne_true)]
      obtain ⟨_, s1, s2, s3, s4, _⟩ := wg_step h ha
      obtain ⟨h1, h2, h3, h4⟩ := wg_go l (wo W a.1) (fun q hq => hl q (List.mem_cons_of_mem _ hq)) s1
      have eo : offs (a :: l) = offs l + 1 := by unfold offs; rw [List.filter_cons_of_pos (by simp [c])]; rfl
      rw [List.foldl_cons, e, eo]
      refine ⟨h1, fun x => ?_, ?_, ?_⟩
      · rw [h2 x, List.all_cons, c, s2 x]
        by_cases k : ft a.1 x
        · rw [decide_eq_true k, Bool.not_true, Bool.or_false, Bool.false_and, if_pos k, if_neg Bool.false_ne_true, ite_self]
        · rw [decide_eq_false k, Bool.not_false, Bool.or_true, Bool.true_and, if_neg k]
      · rw [Nat.pow_succ, Nat.mul_assoc]; exact Nat.le_trans h3 (Nat.mul_le_mul_left _ s3)
      · rw [Nat.pow_succ, Nat.mul_assoc]; exact Nat.le_trans h4 (Nat.mul_le_mul_left _ s4)
theorem base_ok {N : Int} {l : List Fa} (hl : ∀ f ∈ l, OkF N f) : Wk (OkF N) (wbase (jn (0, 1) l)) ∧ (∀ x, wt (wbase (jn (0, 1) l)) x = if (l.all fun f => decide (ft f x)) = true then 1 else 0) ∧ (wbase (jn (0, 1) l)).length ≤ 1 ∧ ab (wbase (jn (0, 1) l)) ≤ 1 := by
  cases c : jn (0, 1) l with
  | none =>
    refine ⟨Wk.nil, fun x => ?_, by simp [wbase], by simp [wbase, ab]⟩
    have := jn_none all_gd (fun f hf => (hl f hf).gd) c x (all_ft x)
    rw [if_neg]
    · rfl
    · intro z
      exact this fun f hf => of_decide_eq_true (List.all_eq_true.mp z f hf)
  | some g =>
    obtain ⟨g1, g2, g3⟩ := jn_some all_gd (fun f hf => (hl f hf).gd) c
    refine ⟨⟨by simp [wbase, nd], fun p hp => ?_⟩, fun x => ?_, by simp [wbase], by simp [wbase, ab]⟩
    · simp only [wbase, List.mem_cons, List.not_mem_nil, or_false] at hp
      subst hp
      exact ⟨g1, g3 N (Int.one_dvd _) fun f hf => (hl f hf).dv⟩
    · have e : ft g x ↔ (l.all fun f => decide (ft f x)) = true := by
        rw [g2 x, List.all_eq_true]
        exact ⟨fun h f hf => decide_eq_true (h.2 f hf), fun h => ⟨all_ft x, fun f hf => of_decide_eq_true (h f hf)⟩⟩
      simp only [wbase, wt, List.map_cons, List.map_nil, List.sum_cons, List.sum_nil]
      by_cases k : ft g x
      · rw [if_pos k, if_pos (e.mp k)]; rfl
      · rw [if_neg k, if_neg (fun z => k (e.mpr z))]; rfl
theorem left_split (l : As) (x : Int) : left l x = ((l.all fun a => a.2 || !decide (ft a.1 x)) && ((tru l).all fun f => decide (ft f x))) := by
  unfold left tru
  induction l with
  | nil => rfl
  | cons a l ih =>
    rw [List.all_cons, ih, List.all_cons]
    cases c : a.2 with
    | true =>
      rw [List.filter_cons_of_pos (by simp [c]), List.map_cons, List.all_cons]
      simp only [okA, c, Bool.true_or, Bool.true_and, beq_true]
      cases decide (ft a.1 x) <;> simp
    | false =>
      rw [List.filter_cons_of_neg (by simp [c])]
      simp only [okA, c, Bool.false_or, beq_false]
      cases decide (ft a.1 x) <;> simp
/-- asks that are weighed right -/
structure OkA (N : Int) (l : As) : Prop where
  n : 0 < N ∧ N ≤ 2 ^ 30
  ap : ∀ W : Wt, Wk (OkF N) W → apartK (wks W)
  len : l.length ≤ 40
  off : offs l ≤ 12
  ok : ∀ a ∈ l, OkF N a.1
theorem OkA.n60 {N : Int} {l : As} (h : OkA N l) : 0 < N ∧ N ≤ 2 ^ 60 := ⟨h.n.1, by have := h.n.2; omega⟩
theorem OkA.lf {N : Int} {l : As} (h : OkA N l) : ∀ a ∈ l, LF a.1 := fun a ha => ⟨(h.ok a ha).gd, by have := Int.le_of_dvd h.n.1 (h.ok a ha).dv; have := h.n.2; omega⟩
theorem OkA.tru {N : Int} {l : As} (h : OkA N l) : ∀ f ∈ tru l, OkF N f := fun f hf => by
  obtain ⟨a, ha, rfl⟩ := List.mem_map.mp hf
  exact h.ok a (List.mem_filter.mp ha).1
theorem pow12 {k : Nat} (h : k ≤ 12) : 2 ^ k ≤ 4096 := Nat.pow_le_pow_right (by decide) h
theorem wgh_ok {N : Int} {l : As} (h : OkA N l) : Wk (OkF N) (wgh l) ∧ (∀ x, wt (wgh l) x = if left l x = true then 1 else 0) ∧ (wgh l).length ≤ 4096 ∧ ab (wgh l) ≤ 4096 := by
  obtain ⟨b1, b2, b3, b4⟩ := base_ok h.tru
  obtain ⟨g1, g2, g3, g4⟩ := wg_go l (wbase (jn (0, 1) (tru l))) h.ok b1
  have p := pow12 h.off
  refine ⟨g1, fun x => ?_, ?_, ?_⟩
  · unfold wgh
    rw [g2 x, b2 x, left_split]
    cases (l.all fun a => a.2 || !decide (ft a.1 x)) with
    | true => rw [Bool.true_and, if_pos rfl]
    | false => rw [Bool.false_and, if_neg Bool.false_ne_true, if_neg Bool.false_ne_true]
  · exact Nat.le_trans g3 (Nat.le_trans (Nat.mul_le_mul p b3) (by omega))
  · exact Nat.le_trans g4 (Nat.le_trans (Nat.mul_le_mul p b4) (by omega))
def kB : Da → Bool
  | .tup [_, _, .bl b] => b
  | _ => false
def kF : Da → Da
  | .tup (a :: b :: _) => .tup [a, b]
  | _ => .non
noncomputable abbrev wgB : SM := sIf (eNotT (eTru (eOp2 ixP (eVar 3) (eC (.int 2))))) (sSet 2 (eCall 2 F_without_fact (aCons (eVar 2) (aCons (eSl (eVar 3) oNone (oSome (eC (.int 2)))) aNil)))) sNext
theorem kd_take (a : Fa × Bool) : (slP (kd a) none (some 2)) = some (pd a.1) := by simp [kd, pd]
theorem OkF.s {N : Int} (hN : 0 < N ∧ N ≤ 2 ^ 30) {f : Fa} (h : OkF N f) : Gd f ∧ f.2 ≤ 2 ^ 60 := ⟨h.gd, by have := Int.le_of_dvd hN.1 h.dv; have := hN.2; omega⟩
theorem wg_loop {N : Int} (hN : 0 < N ∧ N ≤ 2 ^ 30) (ap : ∀ W : Wt, Wk (OkF N) W → apartK (wks W)) {d0 d1 : Option D} {S} : ∀ (l : As) (W : Wt) (x : Option D), (∀ a ∈ l, OkF N a.1) → Wk (OkF N) W → 2 ^ offs l * W.length ≤ 400000 →
    ∃ x', fLoop (.nm 3) wgB (l.map kd) [d0, d1, some (.v (wd W)), x] S = .nx [d0, d1, some (.v (wd (l.foldl wg1 W))), x'] S
  | [], W, x, _, _, _ => ⟨x, rfl⟩
  | a :: l, W, x, hl, h, hb => by
    have ha := hl a List.mem_cons_self
    have t : tgSet (.nm 3) (kd a) [d0, d1, some (.v (wd W)), x] = some [d0, d1, some (.v (wd W)), some (.v (kd a))] := rfl
    cases c : a.2 with
    | true =>
      have e : wg1 W a = W := by unfold wg1; rw [if_pos c]
      have eo : offs (a :: l) = offs l := by unfold offs; rw [List.filter_cons_of_neg (by simp [c])]
      rw [eo] at hb
      obtain ⟨x', g⟩ := wg_loop hN ap l W (some (.v (kd a))) (fun q hq => hl q (List.mem_cons_of_mem _ hq)) h hb (d0 := d0) (d1 := d1) (S := S)
      refine ⟨x', ?_⟩
      rw [List.foldl_cons, e, ← g, List.map_cons]
      conv => lhs; unfold fLoop
      have s : wgB [d0, d1, some (.v (wd W)), some (.v (kd a))] S = .nx [d0, d1, some (.v (wd W)), some (.v (kd a))] S := by
        simp [kd, c]
      simp only [t, s]
    | false =>
      have e : wg1 W a = wo W a.1 := by unfold wg1; rw [if_neg (by rw [c]; exact Bool.false_ne_true)]
      have eo : offs (a :: l) = offs l + 1 := by unfold offs; rw [List.filter_cons_of_pos (by simp [c])]; rfl
      obtain ⟨s0, s1, s2, s3, s4, s5⟩ := wg_step h ha
      have fl := (wf_ok ha.gd (P := OkF N) (Q := OkF N) (fun g hg => ⟨hg.gd, fun q => hg.pt ha q⟩) h).2.2.1
      rw [eo, Nat.pow_succ, Nat.mul_assoc] at hb
      have p1 : 1 ≤ 2 ^ offs l := Nat.one_le_two_pow
      have hb1 : 1 * (2 * W.length) ≤ 2 ^ offs l * (2 * W.length) := Nat.mul_le_mul_right _ p1
      obtain ⟨x', g⟩ := wg_loop hN ap l (wo W a.1) (some (.v (kd a))) (fun q hq => hl q (List.mem_cons_of_mem _ hq)) s1 (Nat.le_trans (Nat.mul_le_mul_left _ s3) hb) (d0 := d0) (d1 := d1) (S := S)
      refine ⟨x', ?_⟩
      rw [List.foldl_cons, e, ← g, List.map_cons]
      conv => lhs; unfold fLoop
      have w := without_fact_i (W := W) (f := a.1) (ha.s hN) (fun p hp => (h.keys p hp).s hN) (by omega) fl (by omega) s0.nd (ap W h) (S := S)
      have s : wgB [d0, d1, some (.v (wd W)), some (.v (kd a))] S = .nx [d0, d1, some (.v (wd (wo W a.1))), some (.v (kd a))] S := by
        have pe : pd a.1 = .tup [.int a.1.1, .int a.1.2] := rfl
        rw [pe] at w
        simp [kd, c, w]
      simp only [t, s]
theorem weighed_i {N : Int} {l : As} (h : OkA N l) {S} : callF 1 F_weighed [.v (.tup (l.map kd))] S = .ok (.v (wd (wgh l))) S := callF_1 (by
  obtain ⟨b1, b2, b3, b4⟩ := base_ok h.tru
  have p := pow12 h.off
  have j := joined_of_i h.n60 (p := .lst ((tru l).map pd)) rfl h.tru (S := [])
  have lc : eLc (iSeq (eVar 0)) (.nm 3) (eTru (eOp2 ixP (eVar 3) (eC (.int 2)))) (eSl (eVar 3) oNone (oSome (eC (.int 2)))) [3] [some (.v (.tup (l.map kd))), none, none, none] [] = .ok (.v (.lst ((tru l).map pd))) [] := by
    rw [lc_pure (S1 := []) (l := l.map kd) kB kF (by simp) (by rw [List.length_map]; have := h.len; omega) (fun d hd => ?_)]
    · congr 3
      unfold tru
      rw [List.filter_map, List.map_map, List.map_map]
      rfl
    · obtain ⟨a, ha, rfl⟩ := List.mem_map.mp hd
      refine ⟨[some (.v (.tup (l.map kd))), none, none, some (.v (kd a))], rfl, ?_, fun _ => ?_⟩
      · simp [kd, kB]
      · simp [kd, kF]
  have s1 : sSet 1 (eCall 1 F_joined_of (aCons (eLc (iSeq (eVar 0)) (.nm 3) (eTru (eOp2 ixP (eVar 3) (eC (.int 2)))) (eSl (eVar 3) oNone (oSome (eC (.int 2)))) [3]) aNil)) [some (.v (.tup (l.map kd))), none, none, none] [] = .nx [some (.v (.tup (l.map kd))), some (.v (jD (jn (0, 1) (tru l)))), none, none] [] := by
    simp [lc, j]
  have s2 : sSet 2 (eIf (eOpB isNoneP (eVar 1) (eC .non)) eDct0 (eDct1 (eVar 1) (eC (.int 1)))) [some (.v (.tup (l.map kd))), some (.v (jD (jn (0, 1) (tru l)))), none, none] [] = .nx [some (.v (.tup (l.map kd))), some (.v (jD (jn (0, 1) (tru l)))), some (.v (wd (wbase (jn (0, 1) (tru l))))), none] [] := by
    cases jn (0, 1) (tru l) with
    | none => simp [jD, isNoneP, wbase, wd, wks, wvs]
    | some g =>
      have n : isNoneP (pd g) .non = some false := rfl
      simp [jD, n, wbase, wd, wks, wvs]
  obtain ⟨x', g⟩ := wg_loop h.n h.ap l (wbase (jn (0, 1) (tru l))) none h.ok b1 (Nat.le_trans (Nat.mul_le_mul p b3) (by omega)) (d0 := some (.v (.tup (l.map kd)))) (d1 := some (.v (jD (jn (0, 1) (tru l))))) (S := [])
  have s3 : sFor (iSeq (eVar 0)) (.nm 3) wgB [some (.v (.tup (l.map kd))), some (.v (jD (jn (0, 1) (tru l)))), some (.v (wd (wbase (jn (0, 1) (tru l))))), none] [] = .nx [some (.v (.tup (l.map kd))), some (.v (jD (jn (0, 1) (tru l)))), some (.v (wd (wgh l))), x'] [] := by
    simp only [s_for, s_seqI, s_eVar, List.getElem?_cons_zero, b_ok, q_tup, g]
    rfl
  unfold F_weighed sem_weighed
  refine run_rt rfl ?_
  show sSeq _ _ [some (.v (.tup (l.map kd))), none, none, none] [] = _
  rw [seq_nx s1, seq_nx s2, seq_nx s3]
  simp)
end M76
end
section
variable [FL.TabsOf]
namespace M76
open PySem FL RL L2
theorem hashTs_map : ∀ l : List Fa, hashTs (l.map kk) = some (l.map hF)
  | [] => rfl
  | f :: l => by
    rw [List.map_cons]
    unfold hashTs
    rw [hashTs_map l]
    rfl
theorem ap2520 : ∀ W : Wt, Wk (OkF 2520) W → apartK (wks W) := fun W h => by
  refine ⟨W.map fun p => kk p.1, (W.map (·.1)).map hF, keysT_w W, ?_, ?_⟩
  · rw [← hashTs_map, List.map_map]; rfl
  · refine map_nodup h.nd fun x hx y hy e => ?_
    obtain ⟨p, hp, rfl⟩ := List.mem_map.mp hx
    obtain ⟨q, hq, rfl⟩ := List.mem_map.mp hy
    exact tab_inj _ (tab_mem (h.keys p hp).gd (h.keys p hp).dv) _ (tab_mem (h.keys q hq).gd (h.keys q hq).dv) e
def sB (i : Int) : Prop := -100000000000000000000000000000000000000000 ≤ i ∧ i ≤ 100000000000000000000000000000000000000000
def cE (lo hi : Int) : Da → Da
  | .tup [.tup [.int a, .int b], .int w] => .int (w * cnt (a, b) lo hi)
  | _ => .non
theorem ab_mem : ∀ {W : Wt} {p : Fa × Int}, p ∈ W → p.2.natAbs ≤ ab W
  | q :: W, p, h => by
    unfold ab
    rw [List.map_cons, List.sum_cons]
    rcases List.mem_cons.mp h with rfl | h
    · omega
    · have := ab_mem h
      unfold ab at this
      omega
theorem cnt_bd {f : Fa} (hf : Gd f ∧ f.2 ≤ 2 ^ 60) {lo hi : Int} (h1 : sB lo) (h2 : sB hi) : -(2 ^ 150) ≤ cnt f lo hi ∧ cnt f lo hi ≤ 2 ^ 150 := by
  have a := hf.1.1; have b := hf.1.2; have c := hf.2
  unfold sB at h1 h2
  have d1 := div_bd (x := hi - f.1) (n := f.2) (B := 2 ^ 145) hf.1.pos (by omega) (by omega) (by omega)
  have d2 := div_bd (x := lo - 1 - f.1) (n := f.2) (B := 2 ^ 145) hf.1.pos (by omega) (by omega) (by omega)
  unfold cnt
  omega
theorem count_weighed_i {W : Wt} (hW : ∀ p ∈ W, Gd p.1 ∧ p.1.2 ≤ 2 ^ 60) (hl : W.length ≤ 1000000) (ha : ab W ≤ 2 ^ 40) {lo hi : Int} (h1 : sB lo) (h2 : sB hi) {S} : callF 3 F_count_weighed [.v (wd W), .v (.int lo), .v (.int hi)] S = .ok (.v (.int (cw W lo hi))) S := callF_3 (by
  have lc : eLc (iItems (eVar 0)) (.tup [3, 4]) eYes (eOp2 mulP (eVar 4) (eCall 3 F_count_of (aCons (eVar 3) (aCons (eVar 1) (aCons (eVar 2) aNil))))) [3, 4] [some (.v (wd W)), some (.v (.int lo)), some (.v (.int hi)), none, none] [] = .ok (.v (.lst ((W.map fun p => p.2 * cnt p.1 lo hi).map Da.int))) [] := by
    rw [lc_pure (S1 := []) (l := W.map itD) (fun _ => true) (cE lo hi) (by simp [zip_w]) (by rw [List.length_map]; exact hl) (fun d hd => ?_)]
    · congr 3
      rw [List.filter_eq_self.mpr (fun _ _ => rfl), List.map_map, List.map_map]
      rfl
    · obtain ⟨p, hp, rfl⟩ := List.mem_map.mp hd
      have hp' := hW p hp
      refine ⟨[some (.v (wd W)), some (.v (.int lo)), some (.v (.int hi)), some (.v (pd p.1)), some (.v (.int p.2))], rfl, rfl, fun _ => ?_⟩
      have m := ab_mem hp
      have cb := cnt_bd hp' h1 h2
      have mo : mulOk p.2 (cnt p.1 lo hi) = true := mulOk_of (by omega) (by omega) (by omega) (by omega)
      have c := count_of_i (f := p.1) hp'.1.pos (by have := hp'.2; omega) (lo := lo) (hi := hi) (S := [])
      have e : ((hi - p.1.1) / p.1.2 - (lo - 1 - p.1.1) / p.1.2) = cnt p.1 lo hi := rfl
      rw [e] at c
      simp [c, mo]
      rfl
  simp only [F_count_weighed, sem_count_weighed]
  refine run_rt rfl ?_
  show sRet _ [some (.v (wd W)), some (.v (.int lo)), some (.v (.int hi)), none, none] [] = _
  have sm : sumP [.lst ((W.map fun p => p.2 * cnt p.1 lo hi).map Da.int)] = some (.int (cw W lo hi)) := by
    unfold sumP
    simp only [intsOf_map]
    rfl
  simp only [s_ret, s_cb, s_cons, s_nil, lc, b_ok, s_vwC, s_vwN, s_vw, sm])
theorem check_left_i {W : Wt} (hW : ∀ p ∈ W, Gd p.1 ∧ p.1.2 ≤ 2 ^ 60) (hl : W.length ≤ 1000000) (ha : ab W ≤ 2 ^ 40) {lo hi : Int} (h1 : sB lo) (h2 : sB hi) (hn : ¬ cw W lo hi = 0) {S} : callF 3 F_check_left [.v (wd W), .v (.int lo), .v (.int hi)] S = .ok (.v (.int (cw W lo hi))) S := callF_3 (by
  have c := fun S => count_weighed_i hW hl ha h1 h2 (S := S)
  simp [F_check_left, sem_check_left, c, hn])
theorem check_left_e {W : Wt} (hW : ∀ p ∈ W, Gd p.1 ∧ p.1.2 ≤ 2 ^ 60) (hl : W.length ≤ 1000000) (ha : ab W ≤ 2 ^ 40) {lo hi : Int} (h1 : sB lo) (h2 : sB hi) (hn : cw W lo hi = 0) {S} : callF 3 F_check_left [.v (wd W), .v (.int lo), .v (.int hi)] S = .err "NoNumber" [] S := callF_err (ps := [wd W, .int lo, .int hi]) rfl (by
  have c := fun S => count_weighed_i hW hl ha h1 h2 (S := S)
  simp [F_check_left, sem_check_left, c, hn, closedF])
theorem wh_ok {N : Int} {l : As} (h : OkA N l) : (∀ p ∈ wgh l, Gd p.1 ∧ p.1.2 ≤ 2 ^ 60) ∧ (wgh l).length ≤ 1000000 ∧ ab (wgh l) ≤ 2 ^ 40 := by
  obtain ⟨a, b, c, d⟩ := wgh_ok h
  exact ⟨fun p hp => (a.keys p hp).s h.n, by omega, by omega⟩
theorem cw_wh {N : Int} {l : As} (h : OkA N l) {lo hi : Int} (hl : lo ≤ hi + 1) : cw (wgh l) lo hi = ((lfs l lo hi).length : Int) :=
  cw_len (fun p hp => ((wh_ok h).1 p hp).1.pos) (wgh_ok h).2.1 hl
/-- a span that is let -/
structure Sp (lo hi : Int) : Prop where
  a : -10000000000000000000000000000000000000000 ≤ lo
  b : lo ≤ hi
  c : hi ≤ 10000000000000000000000000000000000000000
theorem Sp.s {lo hi : Int} (h : Sp lo hi) : sB lo ∧ sB hi := by have := h.a; have := h.b; have := h.c; unfold sB; omega
theorem count_left_i {N : Int} {l : As} (h : OkA N l) {lo hi : Int} (s : Sp lo hi) {S} : callF 3 F_count_left [.v (.tup (l.map kd)), .v (.int lo), .v (.int hi)] S = .ok (.v (.int (lfs l lo hi).length)) S := callF_3 (by
  obtain ⟨a, b, c⟩ := wh_ok h
  have hl : lo ≤ hi + 1 := by have := s.b; omega
  have e1 := cw_wh h hl
  have k1 := fun S => check_looked_i h.len h.off h.lf s.a s.b s.c (S := S)
  have k3 := fun S => weighed_i h (S := S)
  have k6 := fun S => count_weighed_i a b c s.s.1 s.s.2 (S := S)
  rw [e1] at k6
  simp [F_count_left, sem_count_left, k1, k3, k6])
end M76
end
section
variable [FL.TabsOf]
namespace FL
open PySem
mutual
def pl : Da → Bool
  | .non => true
  | .bl _ => true
  | .int _ => true
  | .str s => PyData.canLay0 (.str s)
  | .lst l => pls l
  | .tup l => pls l
  | _ => false
def pls : List Da → Bool
  | [] => true
  | p :: r => pl p && pls r
end
structure Pln (p : Da) (d : PyData) : Prop where
  py : toPy p = some d
  lay : d.canLay0 = true
  dp : d.depth = dpD p
structure Plns (p : List Da) (d : List PyData) : Prop where
  py : toPys p = some d
  lay : PyData.canLayAll0 d = true
  dp : PyData.depthAll d = dpDs p
mutual
theorem pln : ∀ p : Da, pl p = true → ∃ d, Pln p d
  | .non, _ => ⟨.none, rfl, by simp [PyData.canLay0], by simp [PyData.depth, dpD]⟩
  | .bl b, _ => ⟨.bool b, rfl, by simp [PyData.canLay0], by simp [PyData.depth, dpD]⟩
  | .int i, _ => ⟨.int i, rfl, by simp [PyData.canLay0], by simp [PyData.depth, dpD]⟩
  | .str s, h => ⟨.str s, rfl, by simpa [pl] using h, by simp [PyData.depth, dpD]⟩
  | .lst l, h => by
    obtain ⟨ds, n⟩ := plns l (by simpa [pl] using h)
    exact ⟨.list ds, by simp only [toPy, n.py], by simp only [PyData.canLay0, n.lay], by simp only [PyData.depth, n.dp, dpD]⟩
  | .tup l, h => by
    obtain ⟨ds, n⟩ := plns l (by simpa [pl] using h)
    exact ⟨.tuple ds, by simp only [toPy, n.py], by simp only [PyData.canLay0, n.lay], by simp only [PyData.depth, n.dp, dpD]⟩
  | .flst _, h => by simp [pl] at h
  | .dct _ _, h => by simp [pl] at h
  | .dck _ _, h => by simp [pl] at h
  | .ref _, h => by simp [pl] at h
  | .ty _, h => by simp [pl] at h
theorem plns : ∀ p : List Da, pls p = true → ∃ d, Plns p d
  | [], _ => ⟨[], rfl, by simp [PyData.canLayAll0], by simp [PyData.depthAll, dpDs]⟩
  | p :: r, h => by
    have h' : pl p = true ∧ pls r = true := by simpa [pls] using h
    obtain ⟨d, n⟩ := pln p h'.1
    obtain ⟨ds, m⟩ := plns r h'.2
    exact ⟨d :: ds, by simp only [toPys, n.py, m.py], by simp only [PyData.canLayAll0, n.lay, m.lay, Bool.and_self], by simp only [PyData.depthAll, dpDs, n.dp, m.dp]⟩
end
theorem Pln.sh {p : Da} {d : PyData} (n : Pln p d) (h : dpD p ≤ 64) : SeqAt.shaped d = true := by
  unfold SeqAt.shaped
  rw [n.lay, n.dp, decide_eq_true h] <;> rfl
theorem eq_selfP {p : Da} (h : pl p = true) (h2 : dpD p ≤ 64) : eqP p p = some true := by
  obtain ⟨d, n⟩ := pln p h
  simp only [eqP, n.py]
  rw [if_pos ⟨n.sh h2, n.sh h2⟩, SeqAt.eqv_refl d n.lay]
theorem ne_selfP {p : Da} (h : pl p = true) (h2 : dpD p ≤ 64) : neP p p = some false := by
  unfold neP; rw [eq_selfP h h2] <;> rfl
theorem eq_nilL {l : List Da} (h : pls l = true) (h2 : dpDs l < 60) : eqP (.lst l) (.lst []) = some l.isEmpty := by
  obtain ⟨ds, n⟩ := plns l h
  have e : toPy (.lst l) = some (.list ds) := by simp only [toPy, n.py]
  have s : SeqAt.shaped (.list ds) = true := by
    unfold SeqAt.shaped; simp only [PyData.canLay0, n.lay, PyData.depth, n.dp, Bool.true_and, decide_eq_true_eq]; omega
  have s0 : SeqAt.shaped (.list []) = true := by simp [SeqAt.shaped, PyData.canLay0, PyData.canLayAll0, PyData.depth, PyData.depthAll]
  have e0 : toPy (.lst []) = some (.list []) := rfl
  have hd : PyData.eqvAll ds [] = l.isEmpty := by
    have := n.py
    cases l with
    | nil => simp only [toPys] at this; cases this; simp [PyData.eqvAll]
    | cons x l =>
      simp only [toPys] at this
      split at this
      · cases this; simp [PyData.eqvAll]
      · cases this
  simp only [eqP, e, e0, s, s0, and_self, if_true, PyData.eqv, hd]
theorem eq_nilT {l : List Da} (h : pls l = true) (h2 : dpDs l < 60) : eqP (.tup l) (.tup []) = some l.isEmpty := by
  obtain ⟨ds, n⟩ := plns l h
  have e : toPy (.tup l) = some (.tuple ds) := by simp only [toPy, n.py]
  have s : SeqAt.shaped (.tuple ds) = true := by
    unfold SeqAt.shaped; simp only [PyData.canLay0, n.lay, PyData.depth, n.dp, Bool.true_and, decide_eq_true_eq]; omega
  have s0 : SeqAt.shaped (.tuple []) = true := by simp [SeqAt.shaped, PyData.canLay0, PyData.canLayAll0, PyData.depth, PyData.depthAll]
  have e0 : toPy (.tup []) = some (.tuple []) := rfl
  have hd : PyData.eqvAll ds [] = l.isEmpty := by
    have := n.py
    cases l with
    | nil => simp only [toPys] at this; cases this; simp [PyData.eqvAll]
    | cons x l =>
      simp only [toPys] at this
      split at this
      · cases this; simp [PyData.eqvAll]
      · cases this
  simp only [eqP, e, e0, s, s0, and_self, if_true, PyData.eqv, hd]
theorem ne_nilL {l : List Da} (h : pls l = true) (h2 : dpDs l < 60) : neP (.lst l) (.lst []) = some (!l.isEmpty) := by
  unfold neP; rw [eq_nilL h h2] <;> rfl
theorem ne_nilT {l : List Da} (h : pls l = true) (h2 : dpDs l < 60) : neP (.tup l) (.tup []) = some (!l.isEmpty) := by
  unfold neP; rw [eq_nilT h h2] <;> rfl
@[simp] theorem eq_bb (a b : Bool) : eqP (.bl a) (.bl b) = some (a == b) := by
  simp only [eqP, toPy]
  have : ∀ c : Bool, SeqAt.shaped (.bool c) = true := fun c => by simp [SeqAt.shaped, PyData.canLay0, PyData.depth]
  rw [if_pos ⟨this a, this b⟩]
  simp [PyData.eqv]
@[simp] theorem ne_bb (a b : Bool) : neP (.bl a) (.bl b) = some (!(a == b)) := by
  unfold neP; rw [eq_bb]
theorem pls_all : ∀ {l : List Da}, (∀ x ∈ l, pl x = true) → pls l = true
  | [], _ => rfl
  | p :: l, h => by
    unfold pls
    rw [h p List.mem_cons_self, pls_all fun x hx => h x (List.mem_cons_of_mem _ hx)]; rfl
theorem dps_all {k : Nat} : ∀ {l : List Da}, (∀ x ∈ l, dpD x ≤ k) → dpDs l ≤ k
  | [], _ => by simp [dpDs]
  | p :: l, h => by
    have a := h p List.mem_cons_self
    have b := dps_all fun x hx => h x (List.mem_cons_of_mem _ hx)
    simp only [dpDs]; omega
theorem pls_ints (l : List Int) : pls (l.map Da.int) = true := pls_all fun x hx => by
  obtain ⟨i, _, rfl⟩ := List.mem_map.mp hx; rfl
theorem dps_ints (l : List Int) : dpDs (l.map Da.int) ≤ 0 := dps_all fun x hx => by
  obtain ⟨i, _, rfl⟩ := List.mem_map.mp hx; simp [dpD]
end FL
namespace M76
open PySem FL RL L2
theorem kd_pl (a : Fa × Bool) : pl (kd a) = true := by simp [kd, pl, pls]
theorem kd_dp (a : Fa × Bool) : dpD (kd a) ≤ 1 := by simp [kd, dpD, dpDs]
def kB2 (x : Int) : Da → Bool
  | .tup [.int r, .int n, .bl b] => !(decide ((x - r) % n = 0) == b)
  | _ => false
theorem is_left_i {l : As} (hl : l.length ≤ 1000000) (h : ∀ a ∈ l, Gd a.1) {x : Int} {S} : callF 2 F__law_is_left [.v (.tup (l.map kd)), .v (.int x)] S = .ok (.v (.bl (left l x))) S := callF_2 (by
  have lc : eLc (iSeq (eVar 0)) (.nm 2) (eOpB neP (eOp2 (bD eqP) (eOp2 modP (eCB intP (aCons (eOp2 subP (eVar 1) (eOp2 ixP (eVar 2) (eC (.int 0)))) aNil)) (eOp2 ixP (eVar 2) (eC (.int 1)))) (eC (.int 0))) (eOp2 ixP (eVar 2) (eC (.int 2)))) (eVar 2) [2] [some (.v (.tup (l.map kd))), some (.v (.int x)), none] [] = .ok (.v (.lst ((l.filter fun a => !okA a x).map kd))) [] := by
    rw [lc_pure (S1 := []) (l := l.map kd) (kB2 x) id (by simp) (by rw [List.length_map]; exact hl) (fun d hd => ?_)]
    · congr 3
      rw [List.map_id, List.filter_map]
      congr 1
      refine List.filter_congr fun a _ => ?_
      show (!(decide ((x - a.1.1) % a.1.2 = 0) == a.2)) = !okA a x
      unfold okA
      rw [decide_eq_decide.mpr (ft_mod (f := a.1) (x := x))]
    · obtain ⟨a, ha, rfl⟩ := List.mem_map.mp hd
      refine ⟨[some (.v (.tup (l.map kd))), some (.v (.int x)), some (.v (kd a))], rfl, ?_, fun _ => ?_⟩
      · have m : modOk (x - a.1.1) a.1.2 = true := modOk_of (h a ha).pos
        simp [kd, kB2, m, bD]
      · simp
  have pf : pls ((l.filter fun a => !okA a x).map kd) = true := pls_all fun y hy => by
    obtain ⟨a, _, rfl⟩ := List.mem_map.mp hy; exact kd_pl a
  have df : dpDs ((l.filter fun a => !okA a x).map kd) ≤ 1 := dps_all fun y hy => by
    obtain ⟨a, _, rfl⟩ := List.mem_map.mp hy; exact kd_dp a
  have e := eq_nilL pf (by omega)
  have k : ((l.filter fun a => !okA a x).map kd).isEmpty = left l x := by
    rw [Bool.eq_iff_iff, List.isEmpty_iff, List.map_eq_nil_iff, List.filter_eq_nil_iff]
    unfold left
    rw [List.all_eq_true]
    refine forall_congr' fun a => imp_congr_right fun _ => ?_
    cases okA a x <;> simp
  rw [k] at e
  simp only [F__law_is_left, sem__law_is_left]
  refine run_rt rfl ?_
  show sRet _ [some (.v (.tup (l.map kd))), some (.v (.int x)), none] [] = _
  simp [lc, bD, e])
def kB3 (l : As) : Da → Bool
  | .int x => left l x
  | _ => false
theorem lefts_i {l : As} (hl : l.length ≤ 1000000) (h : ∀ a ∈ l, Gd a.1) {lo hi : Int} (h1 : -(2 ^ 61) ≤ lo) (h2 : hi < 2 ^ 61) (h3 : hi - lo ≤ 900000) (hb : lo ≤ hi + 1) {S} : callF 3 F__law_lefts [.v (.tup (l.map kd)), .v (.int lo), .v (.int hi)] S = .ok (.v (.lst ((lfs l lo hi).map Da.int))) S := callF_3 (by
  have s1 : smallI lo = true := small_of (by omega) (by omega)
  have s2 : smallI (hi + 1) = true := small_of (by omega) (by omega)
  have lc : eLc (iRange2 (aCons (eVar 1) (aCons (eOp2 addP (eVar 2) (eC (.int 1))) aNil))) (.nm 3) (eTru (eCall 2 F__law_is_left (aCons (eVar 0) (aCons (eVar 3) aNil)))) (eVar 3) [3] [some (.v (.tup (l.map kd))), some (.v (.int lo)), some (.v (.int hi)), none] [] = .ok (.v (.lst ((lfs l lo hi).map Da.int))) [] := by
    rw [lc_pure (S1 := []) (l := (spn lo hi).map Da.int) (kB3 l) id (by simp [s1, s2, rngD_I, spn]) (by rw [List.length_map]; unfold spn; rw [rngI_len]; omega) (fun d hd => ?_)]
    · congr 3
      rw [List.map_id, List.filter_map]
      rfl
    · obtain ⟨x, _, rfl⟩ := List.mem_map.mp hd
      have e := is_left_i hl h (x := x) (S := [])
      refine ⟨[some (.v (.tup (l.map kd))), some (.v (.int lo)), some (.v (.int hi)), some (.v (.int x))], rfl, ?_, fun _ => ?_⟩
      · simp [e, kB3]
      · simp
  simp only [F__law_lefts, sem__law_lefts]
  refine run_rt rfl ?_
  show sRet _ [some (.v (.tup (l.map kd))), some (.v (.int lo)), some (.v (.int hi)), none] [] = _
  simp [lc])
end M76
end
section
variable [FL.TabsOf]
namespace M76
open PySem FL RL L2
@[simp] theorem eq_nn : eqP (.lst []) (.lst []) = some true := eq_nilL (l := []) rfl (by decide)
end M76
end
section
variable [FL.TabsOf]
namespace M76
open PySem FL RL L2
abbrev qElt : EM D := eTup (aCons (eVar 2) (aCons (eVar 3) aNil))
def fat (l : List Fa) (i : Int) : Fa := (l[i.toNat]?).getD (0, 1)
theorem at_fat {l : List Fa} {i : Int} (h : 0 ≤ i) (h2 : i < l.length) : L2.atI (l.map pd) i = some (pd (fat l i)) := by
  unfold L2.atI L2.ixN
  have hi : i.toNat < l.length := by omega
  rw [if_pos h, if_pos (by rw [List.length_map]; exact h2)]
  show (l.map pd)[i.toNat]? = _
  rw [List.getElem?_map, fat, List.getElem?_eq_getElem hi]
  rfl
def qrow (l : List Fa) (i : Int) : List Int := (rngI (i + 1) ((l.length : Int) - (i + 1)).toNat).filter fun j => decide (qr (fat l i) (fat l j))
def qD (i : Int) (j : Int) : Da := .tup [.int i, .int j]
theorem fat_mem {l : List Fa} {i : Int} (h : 0 ≤ i) (h2 : i < l.length) : fat l i ∈ l := by
  have hi : i.toNat < l.length := by omega
  unfold fat
  rw [List.getElem?_eq_getElem hi]
  exact List.getElem_mem hi
theorem q_inner {l : List Fa} (hg : ∀ f ∈ l, Gd f) {i : Int} (h0 : 0 ≤ i) (h1 : i < l.length) {m : Option D} : ∀ (js : List Int) (acc : List Da), (∀ j ∈ js, 0 ≤ j ∧ j < l.length) → acc.length + js.length ≤ 900000 →
    lc1S 0 (.nm 3) (eTru (eCall 2 F_do_quarrel (aCons (eOp2 ixP (eVar 0) (eVar 2)) (aCons (eOp2 ixP (eVar 0) (eVar 3)) aNil)))) qElt (js.map Da.int) [some (.v (.tup (l.map pd))), m, some (.v (.int i)), none] [.lst acc] = .ok () [.lst (acc ++ (js.filter fun j => decide (qr (fat l i) (fat l j))).map (qD i))]
  | [], acc, _, _ => by simp [lc1S]
  | j :: js, acc, hj, hl => by
    rw [List.length_cons] at hl
    have hj' := hj j List.mem_cons_self
    have a1 := at_fat (l := l) h0 h1
    have a2 := at_fat (l := l) hj'.1 hj'.2
    have q := quarrel_i (a := fat l i) (b := fat l j) (hg _ (fat_mem h0 h1)).pos (S := [.lst acc])
    rw [List.map_cons]
    unfold lc1S
    by_cases c : qr (fat l i) (fat l j)
    · have ih := q_inner hg h0 h1 js (acc ++ [qD i j]) (fun k hk => hj k (List.mem_cons_of_mem _ hk)) (by simp; omega) (m := m)
      have fl : (j :: js).filter (fun j => decide (qr (fat l i) (fat l j))) = j :: js.filter fun j => decide (qr (fat l i) (fat l j)) := List.filter_cons_of_pos (by simp [c])
      rw [fl]
      have as : acc ++ (j :: js.filter fun j => decide (qr (fat l i) (fat l j))).map (qD i) = acc ++ [qD i j] ++ (js.filter fun j => decide (qr (fat l i) (fat l j))).map (qD i) := by simp
      rw [as, ← ih]
      have ln : acc.length < 1000000 := by omega
      simp [a1, a2, q, c, ln]
      rfl
    · have ih := q_inner hg h0 h1 js acc (fun k hk => hj k (List.mem_cons_of_mem _ hk)) (by omega) (m := m)
      have fl : (j :: js).filter (fun j => decide (qr (fat l i) (fat l j))) = js.filter fun j => decide (qr (fat l i) (fat l j)) := List.filter_cons_of_neg (by simp [c])
      rw [fl, ← ih]
      simp [a1, a2, q, c]
theorem q_outer {l : List Fa} (hn : l.length ≤ 40) (hg : ∀ f ∈ l, Gd f) : ∀ (is : List Int) (acc : List Da), (∀ i ∈ is, 0 ≤ i ∧ i < l.length) → acc.length + is.length * 40 ≤ 800000 →
    lc2S 0 (.nm 2) (iRange2 (aCons (eOp2 addP (eVar 2) (eC (.int 1))) (aCons (eVar 1) aNil))) (.nm 3) (eTru (eCall 2 F_do_quarrel (aCons (eOp2 ixP (eVar 0) (eVar 2)) (aCons (eOp2 ixP (eVar 0) (eVar 3)) aNil)))) qElt (Tg.slots (.nm 3)) (is.map Da.int) [some (.v (.tup (l.map pd))), some (.v (.int l.length)), none, none] [.lst acc] = .ok () [.lst (acc ++ is.flatMap fun i => (qrow l i).map (qD i))]
  | [], acc, _, _ => by simp [lc2S]
  | i :: is, acc, hi, hl => by
    rw [List.length_cons] at hl
    have hi' := hi i List.mem_cons_self
    have ln : (rngI (i + 1) ((l.length : Int) - (i + 1)).toNat).length ≤ 40 := by rw [rngI_len]; omega
    have qi := q_inner hg hi'.1 hi'.2 (rngI (i + 1) ((l.length : Int) - (i + 1)).toNat) acc (fun j hj => by have := rngI_mem.mp hj; omega) (by omega) (m := some (.v (.int l.length)))
    have le : ((qrow l i).map (qD i)).length ≤ 40 := by
      rw [List.length_map]; exact Nat.le_trans (List.length_filter_le _ _) ln
    have ih := q_outer hn hg is (acc ++ (qrow l i).map (qD i)) (fun k hk => hi k (List.mem_cons_of_mem _ hk)) (by rw [List.length_append]; omega)
    rw [List.map_cons]
    unfold lc2S
    have s1 : smallI (i + 1) = true := small_of (by omega) (by omega)
    have s2 : smallI (l.length : Int) = true := small_of (by omega) (by omega)
    have it : iRange2 (aCons (eOp2 addP (eVar 2) (eC (.int 1))) (aCons (eVar 1) aNil)) [some (.v (.tup (l.map pd))), some (.v (.int l.length)), some (.v (.int i)), none] [.lst acc] = .ok ((rngI (i + 1) ((l.length : Int) - (i + 1)).toNat).map Da.int) [.lst acc] := by
      simp [s1, s2, rngD_I]
    have t : tgSet (.nm 2) (.int i) [some (.v (.tup (l.map pd))), some (.v (.int l.length)), none, none] = some [some (.v (.tup (l.map pd))), some (.v (.int l.length)), some (.v (.int i)), none] := rfl
    have w : wipeR [some (.v (.tup (l.map pd))), some (.v (.int l.length)), some (.v (.int i)), none] (Tg.slots (.nm 3)) = [some (.v (.tup (l.map pd))), some (.v (.int l.length)), some (.v (.int i)), none] := rfl
    simp only [t, it, w, qi]
    rw [List.flatMap_cons, ← List.append_assoc, ← ih]
    rfl
def qps (l : List Fa) : List Da := (rngI 0 l.length).flatMap fun i => (qrow l i).map (qD i)
theorem lc2_end {it : EM (List Da)} {T : Tg} {it1 : EM (List Da)} {T1 : Tg} {test : EM Bool} {elt : EM D} {ws ws1 : List Nat} {ρ ρ' : Rho} {l acc : List Da} (h0 : it ρ [] = .ok l []) (hw : wipeR ρ ws = ρ') (h : lc2S 0 T it1 T1 test elt ws1 l ρ' [.lst []] = .ok () [.lst acc]) : eLc2 it T it1 T1 test elt ws ws1 ρ [] = .ok (.v (.lst acc)) [] := by
  unfold eLc2
  rw [h0, b_ok, hw]
  show endS 0 (lc2S 0 T it1 T1 test elt ws1 l ρ' [.lst []]) = _
  rw [h]
  simp [endS]
theorem qps_lc {l : List Fa} (hn : l.length ≤ 40) (hg : ∀ f ∈ l, Gd f) : lc2S 0 (.nm 2) (iRange2 (aCons (eOp2 addP (eVar 2) (eC (.int 1))) (aCons (eVar 1) aNil))) (.nm 3) (eTru (eCall 2 F_do_quarrel (aCons (eOp2 ixP (eVar 0) (eVar 2)) (aCons (eOp2 ixP (eVar 0) (eVar 3)) aNil)))) qElt (Tg.slots (.nm 3)) ((rngI 0 l.length).map Da.int) [some (.v (.tup (l.map pd))), some (.v (.int l.length)), none, none] [.lst []] = .ok () [.lst (qps l)] := by
  have qo := q_outer hn hg (rngI 0 l.length) [] (fun i hi => by have := rngI_mem.mp hi; omega) (by rw [rngI_len, List.length_nil]; omega)
  rw [List.nil_append] at qo
  exact qo
theorem qps_it {l : List Fa} (hn : l.length ≤ 40) : iRange1 (aCons (eVar 1) aNil) [some (.v (.tup (l.map pd))), some (.v (.int l.length)), none, none] [] = .ok ((rngI 0 l.length).map Da.int) [] := by
  have s2 : smallI (l.length : Int) = true := small_of (by omega) (by omega)
  have h : (aCons (eVar 1) aNil) [some (.v (.tup (l.map pd))), some (.v (.int l.length)), none, none] [] = .ok [.v (.int l.length)] [] := rfl
  show ((aCons (eVar 1) aNil) [some (.v (.tup (l.map pd))), some (.v (.int l.length)), none, none] []).bind _ = _
  rw [h, b_ok]
  show (if smallI (l.length : Int) = true then (ER.ok (rngD 0 ((l.length : Int)).toNat) [] : ER (List Da)) else .bad) = _
  rw [if_pos s2, rngD_I, Int.toNat_natCast]
theorem qps_el {l : List Fa} (hn : l.length ≤ 40) (hg : ∀ f ∈ l, Gd f) : eLc2 (iRange1 (aCons (eVar 1) aNil)) (.nm 2) (iRange2 (aCons (eOp2 addP (eVar 2) (eC (.int 1))) (aCons (eVar 1) aNil))) (.nm 3) (eTru (eCall 2 F_do_quarrel (aCons (eOp2 ixP (eVar 0) (eVar 2)) (aCons (eOp2 ixP (eVar 0) (eVar 3)) aNil)))) (eTup (aCons (eVar 2) (aCons (eVar 3) aNil))) [2, 3] (Tg.slots (.nm 3)) [some (.v (.tup (l.map pd))), some (.v (.int l.length)), none, none] [] = .ok (.v (.lst (qps l))) [] :=
  lc2_end (qps_it hn) rfl (qps_lc hn hg)
theorem all_quarrels_i {l : List Fa} (hn : l.length ≤ 40) (hg : ∀ f ∈ l, Gd f) {S} : callF 1 F_all_quarrels [.v (.tup (l.map pd))] S = .ok (.v (.lst (qps l))) S := callF_1 (by
  unfold F_all_quarrels sem_all_quarrels
  refine run_rt rfl ?_
  show sSeq _ _ [some (.v (.tup (l.map pd))), none, none, none] [] = _
  have s1 : sSet 1 (eCB lenP (aCons (eVar 0) aNil)) [some (.v (.tup (l.map pd))), none, none, none] [] = .nx [some (.v (.tup (l.map pd))), some (.v (.int l.length)), none, none] [] := by simp
  rw [seq_nx s1, s_ret, qps_el hn hg])
theorem tq1 {l : List Fa} (hn : l.length ≤ 40) (hf : ∀ f ∈ l, LF f) {S} : callF 1 F_all_quarrels [.v (.tup (l.map pd))] S = .ok (.v (.lst (qps l))) S :=
  all_quarrels_i hn (fun f h => (hf f h).gd) (S := S)
theorem tq2 {C G : Fn} {p : Da} {q : List Da} (ck : ∀ S, callF 1 C [.v p] S = .ok (.v .non) S) (aq : ∀ S, callF 1 G [.v p] S = .ok (.v (.lst q)) S) : runDef 1 1 (sSeq (sDrop (eCall 1 C (aCons (eVar 0) aNil)))
  (sRet (eCB tupleP (aCons (eCall 1 G (aCons (eVar 0) aNil)) aNil)))) [.v p] [] = .ok (.v (.tup q)) [] := by
  simp [ck, aq]
theorem tq3 {l : List Fa} (hn : l.length ≤ 40) (hf : ∀ f ∈ l, LF f) : F_quarrels [.v (.tup (l.map pd))] [] = .ok (.v (.tup (qps l))) [] := tq2 (fun S => check_facts_i hn hf) (fun S => tq1 hn hf)
theorem quarrels_i {l : List Fa} (hn : l.length ≤ 40) (hf : ∀ f ∈ l, LF f) {S} : callF 1 F_quarrels [.v (.tup (l.map pd))] S = .ok (.v (.tup (qps l))) S := callF_1 (tq3 hn hf)
theorem qps_pl (l : List Fa) : pls (qps l) = true ∧ dpDs (qps l) ≤ 1 := by
  have h : ∀ x ∈ qps l, ∃ i j, x = qD i j := fun x hx => by
    obtain ⟨i, _, hi⟩ := List.mem_flatMap.mp hx
    obtain ⟨j, _, rfl⟩ := List.mem_map.mp hi
    exact ⟨i, j, rfl⟩
  refine ⟨pls_all fun x hx => ?_, dps_all fun x hx => ?_⟩
  · obtain ⟨i, j, rfl⟩ := h x hx; simp [qD, pl, pls]
  · obtain ⟨i, j, rfl⟩ := h x hx; simp [qD, dpD, dpDs]
theorem qps_nil {l : List Fa} : qps l = [] ↔ l.Pairwise fun a b => ¬ qr a b := by
  unfold qps
  rw [List.flatMap_eq_nil_iff, List.pairwise_iff_getElem]
  constructor
  · intro h i j hi hj lt q
    have := h (i : Int) (rngI_mem.mpr (by omega))
    rw [List.map_eq_nil_iff] at this
    unfold qrow at this
    rw [List.filter_eq_nil_iff] at this
    refine this (j : Int) (rngI_mem.mpr (by omega)) (decide_eq_true ?_)
    unfold fat
    simpa [List.getElem?_eq_getElem hi, List.getElem?_eq_getElem hj] using q
  · intro h i hi
    rw [List.map_eq_nil_iff]
    unfold qrow
    rw [List.filter_eq_nil_iff]
    intro j hj
    have a := rngI_mem.mp hi
    have b := rngI_mem.mp hj
    have hi' : i.toNat < l.length := by omega
    have hj' : j.toNat < l.length := by omega
    have := h i.toNat j.toNat hi' hj' (by omega)
    unfold fat
    simpa [List.getElem?_eq_getElem hi', List.getElem?_eq_getElem hj'] using this
end M76
end
section
namespace RL
def evl (E : List (Int × Int)) (t : Nat) : Int := (E.map fun c => c.1 * c.2 ^ t).sum
theorem evl_shift (b : Int) (t : Nat) : ∀ E : List (Int × Int), evl E (t + 1) - b * evl E t = evl (E.map fun c => (c.1 * (c.2 - b), c.2)) t
  | [] => by simp [evl]
  | c :: E => by
    have ih := evl_shift b t E
    unfold evl at ih ⊢
    simp only [List.map_cons, List.sum_cons] at ih ⊢
    rw [← ih, Int.pow_succ, Int.mul_add, Int.mul_sub, Int.sub_mul]
    have e1 : c.1 * (c.2 ^ t * c.2) = c.1 * c.2 * c.2 ^ t := by rw [Int.mul_comm (c.2 ^ t), Int.mul_assoc]
    have e2 : b * (c.1 * c.2 ^ t) = c.1 * b * c.2 ^ t := by rw [← Int.mul_assoc, Int.mul_comm b]
    rw [e1, e2]
    omega
theorem evl_all {p : Int} : ∀ (k : Nat) (E : List (Int × Int)), E.length = k → (∀ t, t < k → p ∣ evl E t) → ∀ t, p ∣ evl E t
  | 0, E, hk, _, t => by
    have : E = [] := List.length_eq_zero_iff.mp hk
    subst this
    exact ⟨0, by simp [evl]⟩
  | k + 1, [], hk, _, t => by simp at hk
  | k + 1, c :: E, hk, h, t => by
    have len : (E.map fun d => (d.1 * (d.2 - c.2), d.2)).length = k := by simpa using hk
    have sh : ∀ t, evl (c :: E) (t + 1) - c.2 * evl (c :: E) t = evl (E.map fun d => (d.1 * (d.2 - c.2), d.2)) t := fun t => by
      rw [evl_shift]
      unfold evl
      simp
    have ih := evl_all k _ len fun t ht => by
      rw [← sh t]
      exact Int.dvd_sub (h _ (by omega)) (Int.dvd_mul_of_dvd_right (h t (by omega)))
    induction t with
    | zero => exact h 0 (by omega)
    | succ t it =>
      have := ih t
      rw [← sh t] at this
      have e : evl (c :: E) (t + 1) = (evl (c :: E) (t + 1) - c.2 * evl (c :: E) t) + c.2 * evl (c :: E) t := by omega
      rw [e]
      exact Int.dvd_add this (Int.dvd_mul_of_dvd_right it)
/-- times 1 - c b^t -/
def mlE (E : List (Int × Int)) (c b : Int) : List (Int × Int) := E ++ E.map fun d => (-(d.1 * c), d.2 * b)
theorem evl_append (E F : List (Int × Int)) (t : Nat) : evl (E ++ F) t = evl E t + evl F t := by unfold evl; rw [List.map_append, List.sum_append]
theorem evl_scale (c b : Int) (t : Nat) : ∀ E : List (Int × Int), evl (E.map fun d => (-(d.1 * c), d.2 * b)) t = -(evl E t * (c * b ^ t))
  | [] => by simp [evl]
  | d :: E => by
    have ih := evl_scale c b t E
    unfold evl at ih ⊢
    simp only [List.map_cons, List.sum_cons] at ih ⊢
    rw [ih, Int.mul_pow, Int.add_mul]
    have : -(d.1 * c) * (d.2 ^ t * b ^ t) = -(d.1 * d.2 ^ t * (c * b ^ t)) := by
      rw [Int.neg_mul]
      congr 1
      rw [Int.mul_assoc, Int.mul_assoc, ← Int.mul_assoc c, ← Int.mul_assoc (d.2 ^ t), Int.mul_comm c (d.2 ^ t)]
    rw [this]
    omega
theorem evl_ml (E : List (Int × Int)) (c b : Int) (t : Nat) : evl (mlE E c b) t = evl E t * (1 - c * b ^ t) := by
  unfold mlE
  rw [evl_append, evl_scale, Int.mul_sub, Int.mul_one]
  omega
theorem ml_len (E : List (Int × Int)) (c b : Int) : (mlE E c b).length = 2 * E.length := by unfold mlE; simp; omega
theorem root_unit : ((List.range 360).all fun e => e == 0 || ((1801 + 1 - 22 ^ e % 1801) % 1801) * (((1801 + 1 - 22 ^ e % 1801) % 1801) ^ 1799 % 1801) % 1801 == 1) = true := by decide +kernel
theorem one_all : ∀ q : Nat, (1801 : Int) ∣ (22 : Int) ^ (360 * q) - 1
  | 0 => by simp
  | q + 1 => by
    have ih := one_all q
    have base : (1801 : Int) ∣ (22 : Int) ^ 360 - 1 := by decide +kernel
    have e : (22 : Int) ^ (360 * (q + 1)) - 1 = (22 : Int) ^ (360 * q) * ((22 : Int) ^ 360 - 1) + ((22 : Int) ^ (360 * q) - 1) := by
      rw [Nat.mul_add, Nat.mul_one, Int.pow_add]
      generalize (22 : Int) ^ (360 * q) = x
      generalize (22 : Int) ^ 360 = y
      rw [Int.mul_sub]
      omega
    rw [e]
    exact Int.dvd_add (Int.dvd_mul_of_dvd_right base) ih
theorem pw_mod (e : Nat) : (1801 : Int) ∣ (22 : Int) ^ e - (22 : Int) ^ (e % 360) := by
  have h := one_all (e / 360)
  have q : (22 : Int) ^ e = (22 : Int) ^ (360 * (e / 360)) * (22 : Int) ^ (e % 360) := by rw [← Int.pow_add, Nat.div_add_mod]
  have e2 : (22 : Int) ^ e - (22 : Int) ^ (e % 360) = ((22 : Int) ^ (360 * (e / 360)) - 1) * (22 : Int) ^ (e % 360) := by
    rw [Int.sub_mul, ← q]
    omega
  rw [e2]
  exact Int.dvd_mul_of_dvd_left h
theorem pw_zero {e : Nat} (h : e % 360 = 0) : (1801 : Int) ∣ 1 - (22 : Int) ^ e := by
  have := pw_mod e
  rw [h] at this
  have e2 : 1 - (22 : Int) ^ e = -((22 : Int) ^ e - (22 : Int) ^ 0) := by simp; omega
  rw [e2]
  exact Int.dvd_neg.mpr this
theorem pw_unit {e : Nat} (h : e % 360 ≠ 0) : ∃ v : Int, (1801 : Int) ∣ (1 - (22 : Int) ^ e) * v - 1 := by
  have hm : e % 360 < 360 := Nat.mod_lt _ (by decide)
  have r := List.all_eq_true.mp root_unit (e % 360) (List.mem_range.mpr hm)
  have r2 : ((1801 + 1 - 22 ^ (e % 360) % 1801) % 1801) * (((1801 + 1 - 22 ^ (e % 360) % 1801) % 1801) ^ 1799 % 1801) % 1801 = 1 := by
    simpa [h] using r
  have big := pw_mod e
  generalize e % 360 = k at *
  have red : (1801 : Int) ∣ (22 : Int) ^ k - ((22 ^ k % 1801 : Nat) : Int) := by
    have c : ((22 ^ k : Nat) : Int) = (22 : Int) ^ k := by simp
    rw [← c]
    have := Nat.mod_add_div (22 ^ k) 1801
    exact ⟨((22 ^ k / 1801 : Nat) : Int), by omega⟩
  generalize hx : 22 ^ k % 1801 = x at *
  have hx2 : x < 1801 := by rw [← hx]; exact Nat.mod_lt _ (by decide)
  generalize (((1801 + 1 - x) % 1801) ^ 1799 % 1801) = v at *
  generalize hd : (1801 + 1 - x) % 1801 = d at *
  refine ⟨(v : Int), ?_⟩
  have hd2 : (1801 : Int) ∣ 1 - (x : Int) - d := by
    have := Nat.mod_add_div (1801 + 1 - x) 1801
    rw [hd] at this
    exact ⟨((1801 + 1 - x) / 1801 : Nat) - 1, by omega⟩
  have hv : (1801 : Int) ∣ (d : Int) * v - 1 := by
    have := Nat.mod_add_div (d * v) 1801
    rw [r2] at this
    refine ⟨((d * v / 1801 : Nat) : Int), ?_⟩
    have c : ((d * v : Nat) : Int) = (d : Int) * v := by simp
    rw [← c]
    omega
  have e1 : (1 - (22 : Int) ^ e) * v - 1 = (1 - (x : Int) - d) * v - (((22 : Int) ^ e - (22 : Int) ^ k) + ((22 : Int) ^ k - (x : Int))) * v + ((d : Int) * v - 1) := by
    generalize (22 : Int) ^ e = A
    generalize (22 : Int) ^ k = B
    rw [Int.sub_mul, Int.sub_mul, Int.sub_mul, Int.add_mul, Int.sub_mul, Int.sub_mul]
    omega
  rw [e1]
  exact Int.dvd_add (Int.dvd_sub (Int.dvd_mul_of_dvd_left hd2) (Int.dvd_mul_of_dvd_left (Int.dvd_add big red))) hv
def stepF (f : Fa) : Nat := 360 / f.2.toNat
def restF (f : Fa) (x : Int) : Nat := ((x - f.1) % f.2).toNat
def prE (x : Int) : List Fa → List (Int × Int)
  | [] => [(1, 1)]
  | f :: l => mlE (prE x l) ((22 : Int) ^ (stepF f * restF f x)) ((22 : Int) ^ stepF f)
theorem prE_len (x : Int) : ∀ l : List Fa, (prE x l).length = 2 ^ l.length
  | [] => rfl
  | f :: l => by
    unfold prE
    rw [ml_len, prE_len x l, List.length_cons, Nat.pow_succ, Nat.mul_comm]
theorem fac_eq (f : Fa) (x : Int) (t : Nat) : (22 : Int) ^ (stepF f * restF f x) * ((22 : Int) ^ stepF f) ^ t = (22 : Int) ^ (stepF f * (restF f x + t)) := by
  rw [← Int.pow_mul, ← Int.pow_add, Nat.mul_add]
theorem fac_lit {f : Fa} (h0 : 0 < f.2) (h : f.2 ∣ 360) (x : Int) (t : Nat) : (stepF f * (restF f x + t)) % 360 = 0 ↔ ft f (x + t) := by
  obtain ⟨n, hn⟩ : ∃ n : Nat, f.2 = n := ⟨f.2.toNat, by omega⟩
  have n0 : 0 < n := by omega
  have nd : n ∣ 360 := by
    rw [hn] at h
    exact Int.ofNat_dvd.mp h
  obtain ⟨k, hk⟩ := nd
  have sk : stepF f = k := by
    unfold stepF
    rw [hn, Int.toNat_natCast, hk, Nat.mul_div_cancel_left _ n0]
  have k0 : 0 < k := by
    rcases Nat.eq_zero_or_pos k with z | z
    · rw [z] at hk; omega
    · exact z
  have hr : ((restF f x : Nat) : Int) = (x - f.1) % n := by
    unfold restF
    rw [hn]
    exact Int.toNat_of_nonneg (Int.emod_nonneg _ (by omega))
  rw [sk]
  generalize restF f x = r at *
  have e1 : k * (r + t) % 360 = k * ((r + t) % n) := by rw [hk, Nat.mul_comm n k, Nat.mul_mod_mul_left]
  rw [e1, Nat.mul_eq_zero]
  unfold ft
  rw [hn]
  have e2 : ((r + t : Nat) : Int) % n = (x + t - f.1) % n := by
    have : ((r + t : Nat) : Int) = (x - f.1) % n + t := by omega
    rw [this, Int.emod_add_emod]
    congr 1
    omega
  constructor
  · intro z
    have z2 : (r + t) % n = 0 := by omega
    refine Int.dvd_of_emod_eq_zero ?_
    rw [← e2]
    omega
  · intro z
    right
    have := Int.emod_eq_zero_of_dvd z
    rw [← e2] at this
    omega
theorem prE_lit {x : Int} {t : Nat} : ∀ {l : List Fa}, (∀ f ∈ l, 0 < f.2 ∧ f.2 ∣ 360) → (∃ f ∈ l, ft f (x + t)) → (1801 : Int) ∣ evl (prE x l) t
  | [], _, ⟨_, hf, _⟩ => absurd hf (by simp)
  | f :: l, h, ⟨g, hg, lit⟩ => by
    unfold prE
    rw [evl_ml, fac_eq]
    rcases List.mem_cons.mp hg with e | hg
    · subst e
      have := h g List.mem_cons_self
      exact Int.dvd_mul_of_dvd_right (pw_zero ((fac_lit this.1 this.2 x t).mpr lit))
    · exact Int.dvd_mul_of_dvd_left (prE_lit (fun f hf => h f (List.mem_cons_of_mem _ hf)) ⟨g, hg, lit⟩)
theorem prE_dark {x : Int} {t : Nat} : ∀ {l : List Fa}, (∀ f ∈ l, 0 < f.2 ∧ f.2 ∣ 360) → (∀ f ∈ l, ¬ ft f (x + t)) → ∃ v : Int, (1801 : Int) ∣ evl (prE x l) t * v - 1
  | [], _, _ => ⟨1, ⟨0, by simp [prE, evl, Int.one_pow]⟩⟩
  | f :: l, h, dark => by
    have hf := h f List.mem_cons_self
    obtain ⟨v, hv⟩ := prE_dark (fun f hf => h f (List.mem_cons_of_mem _ hf)) fun f hf => dark f (List.mem_cons_of_mem _ hf)
    obtain ⟨u, hu⟩ := pw_unit (e := stepF f * (restF f x + t)) fun z => dark f List.mem_cons_self ((fac_lit hf.1 hf.2 x t).mp z)
    unfold prE
    rw [evl_ml, fac_eq]
    generalize evl (prE x l) t = A at *
    generalize 1 - (22 : Int) ^ (stepF f * (restF f x + t)) = B at *
    refine ⟨v * u, ?_⟩
    have e : A * B * (v * u) - 1 = (A * v - 1) * (B * u) + (B * u - 1) := by
      rw [Int.sub_mul, Int.one_mul]
      have : A * B * (v * u) = A * v * (B * u) := by rw [Int.mul_assoc, Int.mul_assoc, ← Int.mul_assoc B, ← Int.mul_assoc v, Int.mul_comm B v]
      rw [this]
      omega
    rw [e]
    exact Int.dvd_add (Int.dvd_mul_of_dvd_left hv) hu
/-- n lamps that light 2 ^ n numbers in a row light all behind -/
theorem all_lit {l : List Fa} (h : ∀ f ∈ l, 0 < f.2 ∧ f.2 ∣ 360) {x : Int} (row : ∀ t : Nat, t < 2 ^ l.length → ∃ f ∈ l, ft f (x + t)) (t : Nat) : ∃ f ∈ l, ft f (x + t) := by
  have all := evl_all (p := 1801) _ (prE x l) (prE_len x l) fun t ht => prE_lit h (row t ht)
  refine Classical.byContradiction fun no => ?_
  obtain ⟨v, hv⟩ := prE_dark (x := x) (t := t) h fun f hf lit => no ⟨f, hf, lit⟩
  have one : (1801 : Int) ∣ 1 := by
    have e : (1 : Int) = evl (prE x l) t * v - (evl (prE x l) t * v - 1) := by omega
    rw [e]
    exact Int.dvd_sub (Int.dvd_mul_of_dvd_left (all t)) hv
  exact absurd one (by decide)
end RL
end
section
variable [FL.TabsOf]
namespace RL
section
variable {P : Int → Bool}
def sat (P : Int → Bool) (lo hi : Int) : List Int := (spn lo hi).filter P
theorem sat_mem {lo hi x : Int} : x ∈ sat P lo hi ↔ (lo ≤ x ∧ x ≤ hi) ∧ P x = true := by unfold sat; rw [List.mem_filter, spn_mem]
theorem spn_cut {lo mid hi : Int} (h1 : lo ≤ mid + 1) (h2 : mid ≤ hi) : spn lo hi = spn lo mid ++ spn (mid + 1) hi := by
  unfold spn
  have e : (hi + 1 - lo).toNat = (mid + 1 - lo).toNat + (hi + 1 - (mid + 1)).toNat := by omega
  have e2 : lo + ((mid + 1 - lo).toNat : Int) = mid + 1 := by omega
  rw [e, FL.rngI_add, e2]
theorem sat_cut {lo mid hi : Int} (h1 : lo ≤ mid + 1) (h2 : mid ≤ hi) : sat P lo hi = sat P lo mid ++ sat P (mid + 1) hi := by
  unfold sat
  rw [spn_cut h1 h2, List.filter_append]
theorem sat_none {lo hi : Int} (h : hi < lo) : sat P lo hi = [] := by
  unfold sat spn
  have : (hi + 1 - lo).toNat = 0 := by omega
  rw [this]
  rfl
theorem sat_one {x : Int} (h : P x = true) : sat P x x = [x] := by
  unfold sat spn
  have : (x + 1 - x).toNat = 1 := by omega
  rw [this]
  simp [FL.rngI, h]
theorem sat_pw (lo hi : Int) : (sat P lo hi).Pairwise (· < ·) := List.Pairwise.filter P (FL.rngI_pw _ _)
/-- moved by a round -/
theorem sat_move {M : Int} (hM : ∀ x, P (x + M) = P x) (lo hi : Int) : sat P (lo + M) (hi + M) = (sat P lo hi).map (· + M) := by
  unfold sat spn
  have e : (hi + M + 1 - (lo + M)).toNat = (hi + 1 - lo).toNat := by omega
  rw [e]
  unfold FL.rngI
  rw [List.filter_map, List.filter_map, List.map_map]
  have e1 : (fun i : Nat => lo + M + (i : Int)) = (fun x => x + M) ∘ fun i : Nat => lo + (i : Int) := by
    funext i
    show lo + M + (i : Int) = lo + i + M
    omega
  have e2 : P ∘ (fun i : Nat => lo + M + (i : Int)) = P ∘ fun i : Nat => lo + (i : Int) := by
    funext i
    show P (lo + M + i) = P (lo + i)
    rw [show lo + M + (i : Int) = lo + i + M by omega, hM]
  rw [e2, e1]
theorem sat_move_len {M : Int} (hM : ∀ x, P (x + M) = P x) (lo hi : Int) : (sat P (lo + M) (hi + M)).length = (sat P lo hi).length := by rw [sat_move hM, List.length_map]
theorem per_mul {M : Int} (hM : ∀ x, P (x + M) = P x) : ∀ (t : Nat) (x : Int), P (x + M * t) = P x
  | 0, x => by rw [show x + M * ((0 : Nat) : Int) = x by simp]
  | t + 1, x => by
    have e : x + M * ((t + 1 : Nat) : Int) = x + M * t + M := by
      have : M * ((t + 1 : Nat) : Int) = M * t + M := by rw [Int.natCast_add, Int.mul_add]; simp
      omega
    rw [e, hM, per_mul hM t x]
/-- t rounds -/
theorem sat_rounds {M : Int} (h0 : 0 < M) (hM : ∀ x, P (x + M) = P x) (lo : Int) : ∀ t : Nat, (sat P lo (lo + M * t - 1)).length = t * (sat P lo (lo + M - 1)).length
  | 0 => by rw [sat_none (by simp; omega)]; simp
  | t + 1 => by
    have e : M * ((t + 1 : Nat) : Int) = M * t + M := by rw [Int.natCast_add, Int.mul_add]; simp
    have p0 : 0 ≤ M * (t : Int) := Int.mul_nonneg (by omega) (by omega)
    have cut := sat_cut (P := P) (lo := lo) (mid := lo + M * t - 1) (hi := lo + M * ((t + 1 : Nat) : Int) - 1) (by omega) (by omega)
    have mv := sat_move_len (P := P) (M := M * t) (fun x => per_mul hM t x) lo (lo + M - 1)
    have e2 : lo + M * (t : Int) - 1 + 1 = lo + M * t := by omega
    have e3 : lo + M * ((t + 1 : Nat) : Int) - 1 = lo + M - 1 + M * t := by omega
    rw [cut, List.length_append, sat_rounds h0 hM lo t, e2, e3, mv, Nat.succ_mul]
/-- t rounds and a piece -/
theorem sat_far {M m : Int} (h0 : 0 < M) (hM : ∀ x, P (x + M) = P x) (lo : Int) (t : Nat) (m0 : 0 ≤ m) (m1 : m ≤ M) :
    (sat P lo (lo + M * t + m - 1)).length = t * (sat P lo (lo + M - 1)).length + ((sat P lo (lo + M - 1)).filter fun x => decide (x < lo + m)).length := by
  have p0 : 0 ≤ M * (t : Int) := Int.mul_nonneg (by omega) (by omega)
  have cut := sat_cut (P := P) (lo := lo) (mid := lo + M * t - 1) (hi := lo + M * t + m - 1) (by omega) (by omega)
  have mv := sat_move_len (P := P) (M := M * t) (fun x => per_mul hM t x) lo (lo + m - 1)
  have e2 : lo + M * (t : Int) - 1 + 1 = lo + M * t := by omega
  have e3 : lo + M * (t : Int) + m - 1 = lo + m - 1 + M * t := by omega
  have fl : (sat P lo (lo + M - 1)).filter (fun x => decide (x < lo + m)) = sat P lo (lo + m - 1) := by
    rw [sat_cut (P := P) (lo := lo) (mid := lo + m - 1) (hi := lo + M - 1) (by omega) (by omega), List.filter_append]
    have a : (sat P lo (lo + m - 1)).filter (fun x => decide (x < lo + m)) = sat P lo (lo + m - 1) := List.filter_eq_self.mpr fun x hx => by
      have := (sat_mem.mp hx).1.2
      exact decide_eq_true (by omega)
    have b : (sat P (lo + m - 1 + 1) (lo + M - 1)).filter (fun x => decide (x < lo + m)) = [] := List.filter_eq_nil_iff.mpr fun x hx => by
      have := (sat_mem.mp hx).1.1
      simp
      omega
    rw [a, b, List.append_nil]
  rw [cut, List.length_append, sat_rounds h0 hM lo t, e2, e3, mv, fl]
/-- x is the i-th one -/
structure Ith (P : Int → Bool) (lo : Int) (i : Nat) (x : Int) : Prop where
  ge : lo ≤ x
  ok : P x = true
  below : (sat P lo (x - 1)).length = i
theorem ith_get {lo hi x : Int} {i : Nat} (h : Ith P lo i x) (hx : x ≤ hi) : (sat P lo hi)[i]? = some x := by
  rw [sat_cut (P := P) (lo := lo) (mid := x - 1) (hi := hi) (by have := h.ge; omega) (by omega), show x - 1 + 1 = x by omega, sat_cut (P := P) (lo := x) (mid := x) (hi := hi) (by omega) hx, sat_one h.ok]
  rw [List.getElem?_append_right (by rw [h.below]; exact Nat.le_refl _), h.below, Nat.sub_self]
  rfl
theorem ith_of {lo hi x : Int} {i : Nat} (h : (sat P lo hi)[i]? = some x) : Ith P lo i x ∧ x ≤ hi := by
  have mem := sat_mem.mp (List.mem_of_getElem? h)
  have here : Ith P lo (sat P lo (x - 1)).length x := ⟨mem.1.1, mem.2, rfl⟩
  have g := ith_get here mem.1.2
  have ps := sat_pw (P := P) lo hi
  have l1 := (List.getElem?_eq_some_iff.mp h).1
  have e : (sat P lo (x - 1)).length = i := by
    obtain ⟨a, ha⟩ := List.getElem?_eq_some_iff.mp g
    obtain ⟨b, hb⟩ := List.getElem?_eq_some_iff.mp h
    have q := List.pairwise_iff_getElem.mp ps
    rcases Nat.lt_trichotomy (sat P lo (x - 1)).length i with z | z | z
    · have := q _ _ a b z
      omega
    · exact z
    · have := q _ _ b a z
      omega
  exact ⟨⟨mem.1.1, mem.2, e⟩, mem.1.2⟩
theorem sat_mono {lo a b : Int} (h : a ≤ b) : (sat P lo a).length ≤ (sat P lo b).length := by
  by_cases c : lo ≤ a + 1
  · rw [sat_cut (P := P) c h, List.length_append]; omega
  · rw [sat_none (by omega)]; simp
/-- the count up to y passes i just if y reaches the i-th one -/
theorem ith_le {lo x y : Int} {i : Nat} (h : Ith P lo i x) : i < (sat P lo y).length ↔ x ≤ y := by
  constructor
  · intro l
    refine Int.not_lt.mp fun c => ?_
    have := sat_mono (P := P) (lo := lo) (a := y) (b := x - 1) (by omega)
    rw [h.below] at this
    omega
  · intro c
    have := sat_mono (P := P) (lo := lo) c
    have e : (sat P lo x).length = i + 1 := by
      rw [sat_cut (P := P) (lo := lo) (mid := x - 1) (hi := x) (by have := h.ge; omega) (by omega), List.length_append, h.below, show x - 1 + 1 = x by omega, sat_one h.ok]
      rfl
    omega
/-- .. some rounds later -/
theorem ith_far {M : Int} (h0 : 0 < M) (hM : ∀ x, P (x + M) = P x) {lo x : Int} {i : Nat} (h : Ith P lo i x) (hx : x ≤ lo + M - 1) (t : Nat) : Ith P lo (t * (sat P lo (lo + M - 1)).length + i) (x + M * t) := by
  have p0 : 0 ≤ M * (t : Int) := Int.mul_nonneg (by omega) (by omega)
  have ge := h.ge
  refine ⟨by omega, (per_mul hM t x).trans h.ok, ?_⟩
  have cut := sat_cut (P := P) (lo := lo) (mid := lo + M * t - 1) (hi := x + M * t - 1) (by omega) (by omega)
  have mv := sat_move_len (P := P) (M := M * t) (fun x => per_mul hM t x) lo (x - 1)
  have e2 : lo + M * (t : Int) - 1 + 1 = lo + M * t := by omega
  have e3 : x + M * (t : Int) - 1 = x - 1 + M * t := by omega
  rw [cut, List.length_append, sat_rounds h0 hM lo t, e2, e3, mv, h.below]
end
end RL
end
section
variable [FL.TabsOf]
namespace RL
abbrev Tm := List (Nat × Fa)
def sgn (m : Nat) : Int := 1 - 2 * (((m % 2 : Nat)) : Int)
theorem sgn_succ (m : Nat) : sgn (m + 1) = - sgn m := by unfold sgn; omega
theorem sgn_ab (m : Nat) : (sgn m).natAbs = 1 := by unfold sgn; omega
noncomputable def tmN (E : Tm) (f : Fa) : Tm := (E.filter fun p => !decide (qr p.2 f)).map fun p => (p.1 + 1, pt p.2 f)
noncomputable def tm1 (E : Tm) (f : Fa) : Tm := E ++ tmN E f
noncomputable def tms (l : List Fa) : Tm := l.foldl tm1 [(0, (0, 1))]
def tw (E : Tm) : Wt := E.map fun p => (p.2, sgn p.1)
def dk (l : List Fa) (x : Int) : Bool := l.all fun f => !decide (ft f x)
theorem wt_cons (p : Fa × Int) (W : Wt) (x : Int) : wt (p :: W) x = (if ft p.1 x then p.2 else 0) + wt W x := by unfold wt; rw [List.map_cons, List.sum_cons]
theorem tmN_wt {f : Fa} (hf : 0 < f.2) {x : Int} : ∀ {E : Tm}, (∀ p ∈ E, 0 < p.2.2) → wt (tw (tmN E f)) x = if ft f x then - wt (tw E) x else 0
  | [], _ => by simp [tmN, tw, wt]
  | p :: E, h => by
    have ih := tmN_wt hf (x := x) (E := E) fun p hp => h p (List.mem_cons_of_mem _ hp)
    have hp := h p List.mem_cons_self
    have e2 : wt (tw (p :: E)) x = (if ft p.2 x then sgn p.1 else 0) + wt (tw E) x := wt_cons (p.2, sgn p.1) (tw E) x
    by_cases q : qr p.2 f
    · have e : tmN (p :: E) f = tmN E f := by unfold tmN; rw [List.filter_cons_of_neg (by simp [q])]
      rw [e, ih, e2]
      by_cases c : ft f x
      · rw [if_pos c, if_pos c, if_neg (fun z => qr_none z c q)]
        omega
      · rw [if_neg c, if_neg c]
    · have e : tmN (p :: E) f = (p.1 + 1, pt p.2 f) :: tmN E f := by unfold tmN; rw [List.filter_cons_of_pos (by simp [q])]; rfl
      have e3 : wt (tw ((p.1 + 1, pt p.2 f) :: tmN E f)) x = (if ft (pt p.2 f) x then sgn (p.1 + 1) else 0) + wt (tw (tmN E f)) x := wt_cons (pt p.2 f, sgn (p.1 + 1)) (tw (tmN E f)) x
      rw [e, e3, ih, e2, sgn_succ]
      have b := (pt_both hp hf q).ft x
      by_cases c : ft f x
      · rw [if_pos c, if_pos c]
        by_cases c2 : ft p.2 x
        · rw [if_pos (b.mpr ⟨c2, c⟩), if_pos c2]; omega
        · rw [if_neg (fun z => c2 (b.mp z).1), if_neg c2]; omega
      · rw [if_neg c, if_neg c, if_neg (fun z => c (b.mp z).2)]; omega
/-- what the terms have: of facts that P tells of -/
theorem tm1_ok {P : Fa → Prop} {f : Fa} (hf : Gd f) (hP : ∀ g, P g → Gd g ∧ (¬ qr g f → P (pt g f))) {E : Tm} (h : ∀ p ∈ E, P p.2) : (∀ p ∈ tm1 E f, P p.2) ∧ (∀ x, wt (tw (tm1 E f)) x = if ft f x then 0 else wt (tw E) x) ∧ (tm1 E f).length ≤ 2 * E.length := by
  refine ⟨fun p hp => ?_, fun x => ?_, ?_⟩
  · unfold tm1 at hp
    rcases List.mem_append.mp hp with hp' | hp'
    · exact h p hp'
    · unfold tmN at hp'
      obtain ⟨q, hq, rfl⟩ := List.mem_map.mp hp'
      obtain ⟨h1, h2⟩ := List.mem_filter.mp hq
      exact (hP _ (h q h1)).2 (by simpa using h2)
  · unfold tm1
    have e : tw (E ++ tmN E f) = tw E ++ tw (tmN E f) := by unfold tw; rw [List.map_append]
    rw [e, wt_append, tmN_wt hf.pos fun p hp => (hP _ (h p hp)).1.pos]
    by_cases c : ft f x
    · rw [if_pos c, if_pos c]; omega
    · rw [if_neg c, if_neg c]; omega
  · unfold tm1 tmN
    rw [List.length_append, List.length_map]
    have := List.length_filter_le (fun p : Nat × Fa => !decide (qr p.2 f)) E
    omega
theorem tms_go {P : Fa → Prop} (hP : ∀ g f, P g → P f → Gd g ∧ Gd f ∧ (¬ qr g f → P (pt g f))) : ∀ (l : List Fa) (E : Tm), (∀ f ∈ l, P f) → (∀ p ∈ E, P p.2) →
    (∀ p ∈ l.foldl tm1 E, P p.2) ∧ (∀ x, wt (tw (l.foldl tm1 E)) x = if dk l x = true then wt (tw E) x else 0) ∧ (l.foldl tm1 E).length ≤ 2 ^ l.length * E.length
  | [], E, _, h => ⟨h, fun x => by simp [dk], by simp⟩
  | f :: l, E, hl, h => by
    have pf := hl f List.mem_cons_self
    have s : (∀ p ∈ tm1 E f, P p.2) ∧ (∀ x, wt (tw (tm1 E f)) x = if ft f x then 0 else wt (tw E) x) ∧ (tm1 E f).length ≤ 2 * E.length := by
      cases E with
      | nil => exact ⟨fun p hp => absurd hp (by simp [tm1, tmN]), fun x => by simp [tm1, tmN, tw, wt], by simp [tm1, tmN]⟩
      | cons q E => exact tm1_ok (hP _ _ (h q List.mem_cons_self) pf).2.1 (fun g hg => ⟨(hP _ _ hg pf).1, (hP _ _ hg pf).2.2⟩) h
    obtain ⟨a, b, c⟩ := tms_go hP l (tm1 E f) (fun f hf => hl f (List.mem_cons_of_mem _ hf)) s.1
    refine ⟨a, fun x => ?_, ?_⟩
    · rw [List.foldl_cons, b x, s.2.1 x]
      unfold dk
      rw [List.all_cons]
      by_cases z : ft f x
      · rw [decide_eq_true z, if_pos z]; simp
      · rw [decide_eq_false z, if_neg z]; rfl
    · rw [List.foldl_cons, List.length_cons, Nat.pow_succ]
      refine Nat.le_trans c ?_
      rw [Nat.mul_assoc]
      exact Nat.mul_le_mul_left _ s.2.2
end RL
end
section
variable [FL.TabsOf]
namespace FL
open PySem
@[simp] theorem s_raise1 {x f : Str} {e : EM D} {ρ S} : sRaise1 x f e ρ S = match e ρ S with
  | .ok d S => .err ρ x [(f, d)] S
  | .err C fs S1 => .err ρ C fs S1
  | .bad => .bad := by unfold sRaise1 sThen; cases e ρ S <;> rfl
theorem callF_errI {n : Nat} {F : Fn} {ps : List Da} {C f : Str} {i : Int} {S : List Cell} (hn : ps.length = n) (h : F (ps.map D.v) [] = .err C [(f, .v (.int i))] []) : callF n F (ps.map D.v) S = .err C [(f, .v (.int i))] S := by
  unfold callF
  rw [splitA_plain, if_pos ⟨by rw [List.length_map]; exact hn, List.nodup_nil⟩]
  simp [cellsAt, callR, h, putCells, closedF]
theorem run_errI {n N : Nat} {sem : SM} {ds : List D} {C f : Str} {i : Int} {ρ' : Rho} (hn : ds.length = n) (h : sem (ds.map some ++ List.replicate (N - n) none) [] = .err ρ' C [(f, .v (.int i))] []) : runDef n N sem ds [] = .err C [(f, .v (.int i))] [] := by
  rw [s_run, if_pos hn, h]
  simp [closedF]
end FL
namespace M76
open PySem FL RL
theorem facts_fault_m (m : Nat) {l : List Fa} (hl : l.length ≤ m) (h : ∀ f ∈ l, LF f) {S} : callF 2 F_facts_fault [.v (.tup (l.map pd)), .v (.int m)] S = .ok (.v (.int (-1))) S := callF_2 (by
  obtain ⟨ρ', e, x, y, rfl⟩ := fL (S := []) (T := .tup [2, 3]) (body := sIf (eOrT (eOpB eqP (eVar 2) (eVar 1)) (eNotT (eTru (eCall 1 F_is_fact (aCons (eVar 3) aNil))))) (sRet (eVar 2)) sNext) (l := enD (l.map pd))
    (fun i ρ => ∃ x y, ρ = [some (.v (.tup (l.map pd))), some (.v (.int m)), x, y]) (fun i d ρ hd ⟨x, y, hρ⟩ => by
      subst hρ
      obtain ⟨z, hz, rfl, hi⟩ := enD_at hd
      rw [List.getElem?_map] at hz
      rw [List.length_map] at hi
      rw [List.getElem?_eq_getElem hi] at hz
      have hz' : pd l[i] = z := by simpa using hz
      subst hz'
      have ni : ¬ ((i : Int) = (m : Int)) := by omega
      have e := fact_i (h _ (List.getElem_mem hi)) (S := [])
      refine ⟨_, [_, _, some (.v (.int (i : Nat))), some (.v (pd l[i]))], rfl, ?_, _, _, rfl⟩
      simp [ni, e]) (ρ := [some (.v (.tup (l.map pd))), some (.v (.int m)), none, none]) ⟨_, _, rfl⟩
  simp [F_facts_fault, sem_facts_fault, o_isT, e])
theorem check_lamps_i {l : List Fa} (hl : l.length ≤ 12) (h : ∀ f ∈ l, LF f) {S} : callF 1 F_check_lamps [.v (.tup (l.map pd))] S = .ok (.v .non) S := callF_1 (by
  have e := fun S => facts_fault_m 12 hl h (S := S)
  have c : ((12 : Nat) : Int) = 12 := rfl
  rw [c] at e
  simp [F_check_lamps, sem_check_lamps, e])
theorem check_index_i {i : Int} (h1 : 0 ≤ i) (h2 : i ≤ 10000000000000000000000000000000000000000) {S} : callF 1 F_check_index [.v (.int i)] S = .ok (.v .non) S := callF_1 (by
  have e := fun S => is_between_i i 0 10000000000000000000000000000000000000000 (S := S)
  have d : decide (0 ≤ i ∧ i ≤ 10000000000000000000000000000000000000000) = true := decide_eq_true ⟨h1, h2⟩
  rw [d] at e
  simp [F_check_index, sem_check_index, e])
theorem first_from_i {f : Fa} (hf : 0 < f.2) {n : Int} {S} : callF 2 F_first_from [.v (pd f), .v (.int n)] S = .ok (.v (.int (n + (f.1 - n) % f.2))) S := callF_2 (by
  have mo : modOk (f.1 - n) f.2 = true := modOk_of hf
  simp [F_first_from, sem_first_from, pd, mo])
theorem joined_N {N : Int} {l : List Fa} (hl : ∀ f ∈ l, OkF N f) {g : Fa} (hg : jn (0, 1) l = some g) : OkF N g ∧ ∀ x, ft g x ↔ ∀ f ∈ l, ft f x := by
  obtain ⟨a, b, c⟩ := jn_some all_gd (fun f hf => (hl f hf).gd) hg
  exact ⟨⟨a, c N (Int.one_dvd _) fun f hf => (hl f hf).dv⟩, fun x => (b x).trans ⟨fun h => h.2, fun h => ⟨all_ft x, h⟩⟩⟩
theorem count_i {N : Int} (hN : 0 < N ∧ N ≤ 2 ^ 60) {l : List Fa} (hn : l.length ≤ 40) (hl : ∀ f ∈ l, OkF N f) (hf : ∀ f ∈ l, LF f) {g : Fa} (hg : jn (0, 1) l = some g) {lo hi : Int} (s : Sp lo hi) {S} :
    callF 3 F_count [.v (.tup (l.map pd)), .v (.int lo), .v (.int hi)] S = .ok (.v (.int (cnt g lo hi))) S := callF_3 (by
  have o := (joined_N hl hg).1
  have k1 := fun S => check_facts_i hn hf (S := S)
  have k2 := fun S => check_span_i s.a s.b s.c (S := S)
  have k3 := fun S => check_joined_i hN hl hg (S := S)
  have k4 := fun S => count_of_i (f := g) o.gd.pos (by have := o.le hN; omega) (lo := lo) (hi := hi) (S := S)
  simp [F_count, sem_count, k1, k2, k3, k4, cnt])
theorem nth_i {N : Int} (hN : 0 < N ∧ N ≤ 2 ^ 60) {l : List Fa} (hn : l.length ≤ 40) (hl : ∀ f ∈ l, OkF N f) (hf : ∀ f ∈ l, LF f) {g : Fa} (hg : jn (0, 1) l = some g) {lo i : Int}
    (h1 : -10000000000000000000000000000000000000000 ≤ lo) (h2 : lo ≤ 10000000000000000000000000000000000000000) (i1 : 0 ≤ i) (i2 : i ≤ 10000000000000000000000000000000000000000) {S} :
    callF 3 F_nth [.v (.tup (l.map pd)), .v (.int lo), .v (.int i)] S = .ok (.v (.int (lo + (g.1 - lo) % g.2 + i * g.2))) S := callF_3 (by
  have o := (joined_N hl hg).1
  have k1 := fun S => check_facts_i hn hf (S := S)
  have k2 := fun S => check_number_i h1 h2 (S := S)
  have k3 := fun S => check_index_i i1 i2 (S := S)
  have k4 := fun S => check_joined_i hN hl hg (S := S)
  have k5 := fun S => first_from_i (f := g) o.gd.pos (n := lo) (S := S)
  have le := o.le hN
  have ps := o.gd.pos
  have mo : mulOk i g.2 = true := mulOk_of (by omega) (by omega) (by omega) (by omega)
  have at1' : L2.atI [Da.int g.1, Da.int g.2] 1 = some (.int g.2) := at1 _ _ _
  simp only [F_nth, sem_nth]
  refine run_rt rfl ?_
  show sSeq _ _ [some (.v (.tup (l.map pd))), some (.v (.int lo)), some (.v (.int i)), none] [] = _
  simp [k1, k2, k3, k4, k5]
  simp [pd, mo])
noncomputable def pLoop : SM := sWhile (eOpB ltP (eVar 4) (eVar 5)) (sSeq (sSet 6 (eOp2 divP (eOp2 addP (eVar 4) (eVar 5)) (eC (.int 2)))) (sIf (eOpB gtP (eCall 3 F_count_weighed (aCons (eVar 0) (aCons (eVar 1) (aCons (eVar 6) aNil)))) (eVar 3)) (sSet 5 (eVar 6)) (sSet 4 (eOp2 addP (eVar 6) (eC (.int 1))))))
theorem place_loop {W : Wt} (hW : ∀ p ∈ W, Gd p.1 ∧ p.1.2 ≤ 2 ^ 60) (hl : W.length ≤ 1000000) (ha : ab W ≤ 2 ^ 40) {lo hi i x : Int} (b1 : sB lo) (b2 : sB hi) (hc : ∀ y, lo ≤ y → y ≤ hi → (i < cw W lo y ↔ x ≤ y)) {S} :
    ∀ (n : Nat) (a b : Int) (w : Option D), b - a ≤ n → lo ≤ a → b ≤ hi → a ≤ x → x ≤ b →
      ∃ w', pLoop [some (.v (wd W)), some (.v (.int lo)), some (.v (.int hi)), some (.v (.int i)), some (.v (.int a)), some (.v (.int b)), w] S = .nx [some (.v (wd W)), some (.v (.int lo)), some (.v (.int hi)), some (.v (.int i)), some (.v (.int x)), some (.v (.int x)), w'] S := by
  intro n
  induction n with
  | zero =>
    intro a b w hn h1 h2 h3 h4
    have e1 : a = x := by omega
    have e2 : b = x := by omega
    subst e1 e2
    exact ⟨w, sWhile_end (S1 := S) (by simp)⟩
  | succ n ih =>
    intro a b w hn h1 h2 h3 h4
    by_cases e : a < b
    · have m1 : a ≤ (a + b) / 2 := by omega
      have m2 : (a + b) / 2 < b := by omega
      have dv : divOk (a + b) 2 = true := divOk_of (by omega) (by omega)
      have c := fun S => count_weighed_i hW hl ha b1 (hi := (a + b) / 2) (by unfold sB at *; omega) (S := S)
      have t := hc ((a + b) / 2) (by omega) (by omega)
      by_cases q : x ≤ (a + b) / 2
      · have q' := t.mpr q
        obtain ⟨w', k⟩ := ih a ((a + b) / 2) (some (.v (.int ((a + b) / 2)))) (by omega) h1 (by omega) h3 q
        refine ⟨w', ?_⟩
        rw [← k]
        unfold pLoop
        refine (sWhile_step (S1 := S) (S2 := S) (ρ1 := [some (.v (wd W)), some (.v (.int lo)), some (.v (.int hi)), some (.v (.int i)), some (.v (.int a)), some (.v (.int ((a + b) / 2))), some (.v (.int ((a + b) / 2)))]) ?_ ?_).trans rfl
        · simp [e]
        · simp [dv, c, q']
      · have q' : ¬ i < cw W lo ((a + b) / 2) := fun z => q (t.mp z)
        obtain ⟨w', k⟩ := ih ((a + b) / 2 + 1) b (some (.v (.int ((a + b) / 2)))) (by omega) (by omega) h2 (by omega) h4
        refine ⟨w', ?_⟩
        rw [← k]
        unfold pLoop
        refine (sWhile_step (S1 := S) (S2 := S) (ρ1 := [some (.v (wd W)), some (.v (.int lo)), some (.v (.int hi)), some (.v (.int i)), some (.v (.int ((a + b) / 2 + 1))), some (.v (.int b)), some (.v (.int ((a + b) / 2)))]) ?_ ?_).trans rfl
        · simp [e]
        · simp [dv, c, q']
    · have e1 : a = x := by omega
      have e2 : b = x := by omega
      subst e1 e2
      exact ⟨w, sWhile_end (S1 := S) (by simp)⟩
theorem place_i {W : Wt} (hW : ∀ p ∈ W, Gd p.1 ∧ p.1.2 ≤ 2 ^ 60) (hl : W.length ≤ 1000000) (ha : ab W ≤ 2 ^ 40) {lo hi i x : Int} (b1 : sB lo) (b2 : sB hi) (hc : ∀ y, lo ≤ y → y ≤ hi → (i < cw W lo y ↔ x ≤ y)) (x1 : lo ≤ x) (x2 : x ≤ hi) {S} :
    callF 4 F_place_weighed [.v (wd W), .v (.int lo), .v (.int hi), .v (.int i)] S = .ok (.v (.int x)) S := callF_4 (by
  obtain ⟨w', k⟩ := place_loop hW hl ha b1 b2 hc (S := []) (hi - lo).toNat lo hi none (by omega) (by omega) (by omega) x1 x2
  unfold F_place_weighed sem_place_weighed
  rw [show sWhile (eOpB ltP (eVar 4) (eVar 5)) _ = pLoop from rfl]
  refine run_rt rfl ?_
  show sSeq _ _ [some (.v (wd W)), some (.v (.int lo)), some (.v (.int hi)), some (.v (.int i)), none, none, none] [] = _
  have e2 : (sPar 4 5 (aCons (eVar 1) (aCons (eVar 2) aNil))) [some (.v (wd W)), some (.v (.int lo)), some (.v (.int hi)), some (.v (.int i)), none, none, none] [] = .nx [some (.v (wd W)), some (.v (.int lo)), some (.v (.int hi)), some (.v (.int i)), some (.v (.int lo)), some (.v (.int hi)), none] [] := by
    simp
  rw [seq_nx e2, seq_nx k]
  simp)
theorem lfs_sat (l : As) (lo hi : Int) : lfs l lo hi = sat (left l) lo hi := rfl
theorem cw_ith {N : Int} {l : As} (h : OkA N l) {lo x : Int} {i : Nat} (hx : Ith (left l) lo i x) (y : Int) (hy : lo ≤ y) : (i : Int) < cw (wgh l) lo y ↔ x ≤ y := by
  rw [cw_wh h (by omega), lfs_sat]
  have := ith_le hx (y := y)
  omega
theorem least_left_i {N : Int} {l : As} (h : OkA N l) {lo hi x : Int} (s : Sp lo hi) (hx : Ith (left l) lo 0 x) (x2 : x ≤ hi) {S} : callF 3 F_least_left [.v (.tup (l.map kd)), .v (.int lo), .v (.int hi)] S = .ok (.v (.int x)) S := callF_3 (by
  obtain ⟨a, b, c⟩ := wh_ok h
  have hc := fun y hy (_ : y ≤ hi) => cw_ith h hx y hy
  have n0 : ¬ cw (wgh l) lo hi = 0 := by have := (hc hi (by have := s.b; omega) (Int.le_refl _)).mpr x2; omega
  have k1 := fun S => check_looked_i h.len h.off h.lf s.a s.b s.c (S := S)
  have k3 := fun S => weighed_i h (S := S)
  have k4 := fun S => check_left_i a b c s.s.1 s.s.2 n0 (S := S)
  have k5 := fun S => place_i a b c (i := ((0 : Nat) : Int)) s.s.1 s.s.2 hc hx.ge x2 (S := S)
  have z : ((0 : Nat) : Int) = 0 := rfl
  rw [z] at k5
  simp [F_least_left, sem_least_left, k1, k3, k4, k5])
theorem least_left_e {N : Int} {l : As} (h : OkA N l) {lo hi : Int} (s : Sp lo hi) (hn : lfs l lo hi = []) {S} : callF 3 F_least_left [.v (.tup (l.map kd)), .v (.int lo), .v (.int hi)] S = .err "NoNumber" [] S := callF_err (ps := [.tup (l.map kd), .int lo, .int hi]) rfl (by
  obtain ⟨a, b, c⟩ := wh_ok h
  have hl : lo ≤ hi + 1 := by have := s.b; omega
  have n0 : cw (wgh l) lo hi = 0 := by rw [cw_wh h hl, hn]; rfl
  have k1 := fun S => check_looked_i h.len h.off h.lf s.a s.b s.c (S := S)
  have k3 := fun S => weighed_i h (S := S)
  have k4 := fun S => check_left_e a b c s.s.1 s.s.2 n0 (S := S)
  simp only [F_least_left, sem_least_left]
  refine run_err (ρ' := [some (.v (.tup (l.map kd))), some (.v (.int lo)), some (.v (.int hi)), some (.v (wd (wgh l)))]) rfl ?_
  show sSeq _ _ [some (.v (.tup (l.map kd))), some (.v (.int lo)), some (.v (.int hi)), none] [] = _
  simp [k1, k3, k4])
theorem nth_left_i {N : Int} {l : As} (h : OkA N l) {lo hi x : Int} {i : Nat} (s : Sp lo hi) (hx : Ith (left l) lo i x) (x2 : x ≤ hi) {S} : callF 4 F_nth_left [.v (.tup (l.map kd)), .v (.int lo), .v (.int hi), .v (.int i)] S = .ok (.v (.int x)) S := callF_4 (by
  obtain ⟨a, b, c⟩ := wh_ok h
  have hc := fun y hy (_ : y ≤ hi) => cw_ith h hx y hy
  have n0 := (hc hi (by have := s.b; omega) (Int.le_refl _)).mpr x2
  have k1 := fun S => check_looked_i h.len h.off h.lf s.a s.b s.c (S := S)
  have k3 := fun S => weighed_i h (S := S)
  have k4 := fun S => count_weighed_i a b c s.s.1 s.s.2 (S := S)
  have k5 := fun S => place_i a b c (i := (i : Int)) s.s.1 s.s.2 hc hx.ge x2 (S := S)
  have k6 := fun S => is_between_i (i : Int) 0 (cw (wgh l) lo hi - 1) (S := S)
  have d : decide (0 ≤ (i : Int) ∧ (i : Int) ≤ cw (wgh l) lo hi - 1) = true := decide_eq_true ⟨by omega, by omega⟩
  rw [d] at k6
  generalize wgh l = W at *
  generalize (i : Int) = j at *
  generalize cw W lo hi = m at *
  simp [F_nth_left, sem_nth_left, k1, k3, k4, k5, k6])
theorem nth_left_e {N : Int} {l : As} (h : OkA N l) {lo hi i : Int} (s : Sp lo hi) (hi' : ¬ (0 ≤ i ∧ i < (lfs l lo hi).length)) {S} : callF 4 F_nth_left [.v (.tup (l.map kd)), .v (.int lo), .v (.int hi), .v (.int i)] S = .err "InvalidIndex" [("given", .v (.int i))] S := callF_errI (ps := [.tup (l.map kd), .int lo, .int hi, .int i]) rfl (by
  obtain ⟨a, b, c⟩ := wh_ok h
  have hl : lo ≤ hi + 1 := by have := s.b; omega
  have k1 := fun S => check_looked_i h.len h.off h.lf s.a s.b s.c (S := S)
  have k3 := fun S => weighed_i h (S := S)
  have k4 := fun S => count_weighed_i a b c s.s.1 s.s.2 (S := S)
  have k6 := fun S => is_between_i i 0 (cw (wgh l) lo hi - 1) (S := S)
  have d : decide (0 ≤ i ∧ i ≤ cw (wgh l) lo hi - 1) = false := decide_eq_false fun z => hi' ⟨z.1, by rw [cw_wh h hl] at z; omega⟩
  rw [d] at k6
  generalize wgh l = W at *
  generalize cw W lo hi = m at *
  simp only [F_nth_left, sem_nth_left]
  refine run_errI (ρ' := [some (.v (.tup (l.map kd))), some (.v (.int lo)), some (.v (.int hi)), some (.v (.int i)), some (.v (wd W))]) rfl ?_
  show sSeq _ _ [some (.v (.tup (l.map kd))), some (.v (.int lo)), some (.v (.int hi)), some (.v (.int i)), none] [] = _
  simp [k1, k3, k4, k6])
end M76
end
section
variable [FL.TabsOf]
namespace M76
open PySem FL RL
noncomputable def rLoop : SM := sWhile (eOpB gtP (eVar 1) (eC (.int 0))) (sSeq (sIf (eOpB eqP (eOp2 modP (eVar 1) (eC (.int 2))) (eC (.int 1))) (sSet 2 (eOp2 mulP (eVar 2) (eVar 3))) sNext) (sSeq (sSet 1 (eOp2 divP (eVar 1) (eC (.int 2)))) (sSet 3 (eIf (eOpB gtP (eVar 1) (eC (.int 0))) (eOp2 mulP (eVar 3) (eVar 3)) (eVar 3)))))
theorem r_step {c : Option D} {p f h : Int} (hp : 0 < p) (m1 : mulOk f h = true) (m2 : mulOk h h = true) {S} :
    rLoop [c, some (.v (.int p)), some (.v (.int f)), some (.v (.int h))] S = rLoop [c, some (.v (.int (p / 2))), some (.v (.int (if p % 2 = 1 then f * h else f))), some (.v (.int (if 0 < p / 2 then h * h else h)))] S := by
  unfold rLoop
  have mo : modOk p 2 = true := modOk_of (by omega)
  have dv : divOk p 2 = true := divOk_of (by omega) (by omega)
  refine (sWhile_step (S1 := S) (S2 := S) (ρ1 := [c, some (.v (.int (p / 2))), some (.v (.int (if p % 2 = 1 then f * h else f))), some (.v (.int (if 0 < p / 2 then h * h else h)))]) ?_ ?_).trans rfl
  · simp [hp]
  · by_cases o : p % 2 = 1 <;> by_cases z : 0 < p / 2 <;> simp [mo, dv, m1, m2, o, z]
theorem two_le {a : Nat} (h : a ≤ 100) : (1 : Int) ≤ 2 ^ a ∧ (2 : Int) ^ a ≤ 2 ^ 100 := by
  constructor
  · have := Nat.one_le_two_pow (n := a)
    have c : ((2 ^ a : Nat) : Int) = (2 : Int) ^ a := by simp
    omega
  · have := Nat.pow_le_pow_right (show 0 < 2 by decide) h
    have c : ((2 ^ a : Nat) : Int) = (2 : Int) ^ a := by simp
    omega
theorem r_loop {c : Option D} {S} : ∀ (k p a b : Nat), p ≤ k → a ≤ 100 → b + a * p ≤ 100 → ∃ w, rLoop [c, some (.v (.int p)), some (.v (.int (2 ^ b))), some (.v (.int (2 ^ a)))] S = .nx [c, some (.v (.int 0)), some (.v (.int (2 ^ (b + a * p)))), w] S := by
  intro k
  induction k with
  | zero =>
    intro p a b hp _ _
    have : p = 0 := by omega
    subst this
    exact ⟨_, sWhile_end (S1 := S) (by simp)⟩
  | succ k ih =>
    intro p a b hp ha hb
    by_cases z : p = 0
    · subst z
      exact ⟨_, sWhile_end (S1 := S) (by simp)⟩
    · have bb : b ≤ 100 := by omega
      have l1 := two_le ha
      have l2 := two_le bb
      have m1 : mulOk ((2 : Int) ^ b) ((2 : Int) ^ a) = true := mulOk_of (by omega) (by omega) (by omega) (by omega)
      have m2 : mulOk ((2 : Int) ^ a) ((2 : Int) ^ a) = true := mulOk_of (by omega) (by omega) (by omega) (by omega)
      rw [r_step (by omega) m1 m2]
      have hd : (p : Int) / 2 = ((p / 2 : Nat) : Int) := by omega
      have hm : ((p : Int) % 2 = 1) ↔ p % 2 = 1 := by omega
      have sq : (2 : Int) ^ a * 2 ^ a = 2 ^ (2 * a) := by rw [← Int.pow_add]; congr 1; omega
      have fm : (2 : Int) ^ b * 2 ^ a = 2 ^ (b + a) := by rw [← Int.pow_add]
      have dp : p = 2 * (p / 2) + p % 2 := by omega
      rw [hd, sq, fm]
      have r2 : p % 2 = 0 ∨ p % 2 = 1 := by omega
      have eb : (if (p : Int) % 2 = 1 then (2 : Int) ^ (b + a) else 2 ^ b) = 2 ^ (b + a * (p % 2)) := by
        rcases r2 with r | r
        · rw [if_neg (by omega), r, Nat.mul_zero, Nat.add_zero]
        · rw [if_pos (by omega), r, Nat.mul_one]
      rw [eb]
      by_cases y : p / 2 = 0
      · have p1 : p = 1 := by omega
        have nn : ¬ (0 : Int) < ((p / 2 : Nat) : Int) := by omega
        rw [if_neg nn]
        obtain ⟨w, e⟩ := ih (p / 2) a (b + a * (p % 2)) (by omega) ha (by rw [y, p1]; simp; rw [p1] at hb; omega)
        refine ⟨w, ?_⟩
        rw [e, p1]
        simp
      · have nn : (0 : Int) < ((p / 2 : Nat) : Int) := by omega
        rw [if_pos nn]
        have e0 : a * p = 2 * a * (p / 2) + a * (p % 2) := by
          conv => lhs; rw [dp]
          rw [Nat.mul_add, Nat.mul_comm 2 a, Nat.mul_assoc]
        have a1 : 2 * a * 1 ≤ 2 * a * (p / 2) := Nat.mul_le_mul_left _ (by omega)
        obtain ⟨w, e⟩ := ih (p / 2) (2 * a) (b + a * (p % 2)) (by omega) (by omega) (by omega)
        refine ⟨w, ?_⟩
        have e3 : b + a * (p % 2) + 2 * a * (p / 2) = b + a * p := by omega
        rw [e, e3]
theorem raised_i {n : Nat} (h : n ≤ 100) {S} : callF 2 F_raised [.v (.int 2), .v (.int n)] S = .ok (.v (.int (2 ^ n))) S := callF_2 (by
  obtain ⟨w, k⟩ := r_loop (c := some (.v (.int 2))) (S := []) n n 1 0 (Nat.le_refl _) (by decide) (by omega)
  unfold F_raised sem_raised
  rw [show sWhile (eOpB gtP (eVar 1) (eC (.int 0))) _ = rLoop from rfl]
  refine run_rt rfl ?_
  show sSeq _ _ [some (.v (.int 2)), some (.v (.int n)), none, none] [] = _
  have e2 : (sPar 2 3 (aCons (eC (.int 1)) (aCons (eVar 0) aNil))) [some (.v (.int 2)), some (.v (.int n)), none, none] [] = .nx [some (.v (.int 2)), some (.v (.int n)), some (.v (.int (2 ^ 0))), some (.v (.int (2 ^ 1)))] [] := by
    simp
  rw [seq_nx e2, seq_nx k]
  simp)
theorem any_not {α : Type} (g : α → Bool) : ∀ l : List α, l.any g = !l.all fun f => !g f
  | [] => rfl
  | f :: l => by rw [List.any_cons, List.all_cons, any_not g l, Bool.not_and, Bool.not_not]
theorem is_lit_i {l : List Fa} (hn : l.length ≤ 40) (hg : ∀ f ∈ l, 0 < f.2) {x : Int} {S} : callF 2 F_is_lit [.v (.tup (l.map pd)), .v (.int x)] S = .ok (.v (.bl (!dk l x))) S := callF_2 (by
  have lc : eLc (iSeq (eVar 0)) (.nm 2) eYes (eCall 2 F_does_fit (aCons (eVar 2) (aCons (eVar 1) aNil))) [2] [some (.v (.tup (l.map pd))), some (.v (.int x)), none] [] = .ok (.v (.lst ((l.map fun f => decide (ft f x)).map Da.bl))) [] := by
    rw [lc_pure (S1 := []) (l := l.map pd) (fun _ => true) (fun d => match d with | .tup [.int a, .int b] => .bl (decide (ft (a, b) x)) | _ => .non) rfl (by rw [List.length_map]; omega) (fun d hd => ?_)]
    · congr 3
      rw [List.filter_eq_self.mpr (fun _ _ => rfl), List.map_map, List.map_map]
      rfl
    · obtain ⟨f, hf, rfl⟩ := List.mem_map.mp hd
      refine ⟨[some (.v (.tup (l.map pd))), some (.v (.int x)), some (.v (pd f))], rfl, rfl, fun _ => ?_⟩
      have c := does_fit_i (a := f.1) (b := f.2) (n := x) (hg f hf) (S := [])
      have e : decide ((x - f.1) % f.2 = 0) = decide (ft f x) := decide_eq_decide.mpr ft_mod.symm
      rw [e] at c
      simp [c]
      rfl
  have an : anyP [.lst ((l.map fun f => decide (ft f x)).map Da.bl)] = some (.bl (!dk l x)) := by
    have bl : ∀ bs : List Bool, blsOf (bs.map Da.bl) = some bs := fun bs => by
      induction bs with
      | nil => rfl
      | cons b bs ih => simp [blsOf, ih]
    unfold anyP
    simp only [bl]
    rw [List.any_map]
    have e := any_not (fun f => decide (ft f x)) l
    have e2 : (l.any (id ∘ fun f => decide (ft f x))) = !dk l x := e
    rw [e2]
  simp only [F_is_lit, sem_is_lit]
  refine run_rt rfl ?_
  show sRet _ [some (.v (.tup (l.map pd))), some (.v (.int x)), none] [] = _
  simp only [s_ret, s_cb, s_cons, s_nil, lc, b_ok, s_vwC, s_vwN, s_vw, an])
end M76
end
section
variable [FL.TabsOf]
namespace M76
open PySem FL RL
theorem cat_tup {l k : List Da} (h : l.length + k.length ≤ 1000000) : addP (.tup l) (.tup k) = some (.tup (l ++ k)) := by
  have c : catOk l.length k.length = true := by unfold catOk; exact decide_eq_true (by omega)
  simp [addP, iOp, strAdd, tupAdd, c]
theorem cat_lst {l k : List Da} (h : l.length + k.length ≤ 1000000) : addP (.lst l) (.lst k) = some (.lst (l ++ k)) := by
  have c : catOk l.length k.length = true := by unfold catOk; exact decide_eq_true (by omega)
  simp [addP, iOp, strAdd, tupAdd, lstAdd, c]
def tD (p : Nat × Fa) : Da := .tup [.int p.1, pd p.2]
noncomputable def tB (f : Fa) : Da → Bool
  | .tup [_, .tup [.int a, .int n]] => !decide (qr (a, n) f)
  | _ => false
noncomputable def tE (f : Fa) : Da → Da
  | .tup [.int m, .tup [.int a, .int n]] => .tup [.int (m + 1), pd (pt (a, n) f)]
  | _ => .non
theorem tN_map (f : Fa) (E : Tm) : (((E.map tD).filter (tB f)).map (tE f)) = (tmN E f).map tD := by
  unfold tmN
  rw [List.filter_map, List.map_map, List.map_map]
  have e : tB f ∘ tD = fun p => !decide (qr p.2 f) := by funext p; rfl
  rw [e]
  refine List.map_congr_left fun p _ => ?_
  show Da.tup [.int ((p.1 : Int) + 1), pd (pt p.2 f)] = .tup [.int ((p.1 + 1 : Nat) : Int), pd (pt p.2 f)]
  rfl
noncomputable def tBd : SM := sSet 1 (eOp2 addP (eVar 1) (eLc (iSeq (eVar 1)) (.tup [3, 4]) (eNotT (eTru (eCall 2 F_do_quarrel (aCons (eVar 4) (aCons (eVar 2) aNil))))) (eTup (aCons (eOp2 addP (eVar 3) (eC (.int 1))) (aCons (eCall 2 F_put_together (aCons (eVar 4) (aCons (eVar 2) aNil))) aNil))) [3, 4]))
theorem t_step {N : Int} (hN : 0 < N ∧ N ≤ 2 ^ 60) {f : Fa} (hf : OkF N f) {E : Tm} (hE : ∀ p ∈ E, OkF N p.2) (hl : 2 * E.length ≤ 1000000) {v x y : Option D} {S} :
    tBd [v, some (.v (.lst (E.map tD))), some (.v (pd f)), x, y] S = .nx [v, some (.v (.lst ((tm1 E f).map tD))), some (.v (pd f)), x, y] S := by
  have lc : eLc (iSeq (eVar 1)) (.tup [3, 4]) (eNotT (eTru (eCall 2 F_do_quarrel (aCons (eVar 4) (aCons (eVar 2) aNil))))) (eTup (aCons (eOp2 addP (eVar 3) (eC (.int 1))) (aCons (eCall 2 F_put_together (aCons (eVar 4) (aCons (eVar 2) aNil))) aNil))) [3, 4]
      [v, some (.v (.lst (E.map tD))), some (.v (pd f)), x, y] S = .ok (.v (.lst ((tmN E f).map tD))) S := by
    rw [lc_pure (S1 := S) (l := E.map tD) (tB f) (tE f) rfl (by rw [List.length_map]; omega) (fun d hd => ?_), tN_map]
    obtain ⟨p, hp, rfl⟩ := List.mem_map.mp hd
    have op := hE p hp
    refine ⟨[v, some (.v (.lst (E.map tD))), some (.v (pd f)), some (.v (.int p.1)), some (.v (pd p.2))], rfl, ?_, fun hb => ?_⟩
    · have q := quarrel_i (a := p.2) (b := f) op.gd.pos (S := S)
      simp [q]
      show decide (qr p.2 f) = !!decide (qr p.2 f)
      rw [Bool.not_not]
    · have nq : ¬ qr p.2 f := by
        have h2 : (!decide (qr p.2 f)) = true := hb
        simpa using h2
      have q := put_i op.gd hf.gd (op.le hN) (hf.le hN) nq (S := S)
      simp [q]
      rfl
  have nl := (tm1_ok (P := OkF N) hf.gd (fun g hg => ⟨hg.gd, fun q => hg.pt hf q⟩) hE).2.2
  have ad : addP (.lst (E.map tD)) (.lst ((tmN E f).map tD)) = some (.lst ((tm1 E f).map tD)) := by
    rw [cat_lst (by unfold tm1 at nl; rw [List.length_append] at nl; rw [List.length_map, List.length_map]; omega)]
    unfold tm1
    rw [List.map_append]
  unfold tBd
  simp [lc, ad]
theorem t_loop {N : Int} (hN : 0 < N ∧ N ≤ 2 ^ 60) {v x y : Option D} {S} : ∀ (l : List Fa) (E : Tm) (w : Option D), (∀ f ∈ l, OkF N f) → (∀ p ∈ E, OkF N p.2) → 2 ^ l.length * E.length ≤ 500000 →
    ∃ w', fLoop (.nm 2) tBd (l.map pd) [v, some (.v (.lst (E.map tD))), w, x, y] S = .nx [v, some (.v (.lst ((l.foldl tm1 E).map tD))), w', x, y] S
  | [], E, w, _, _, _ => ⟨w, rfl⟩
  | f :: l, E, w, hl, hE, hn => by
    have pf := hl f List.mem_cons_self
    have t := tm1_ok (P := OkF N) pf.gd (fun g hg => ⟨hg.gd, fun q => hg.pt pf q⟩) hE
    rw [List.length_cons, Nat.pow_succ] at hn
    have one := Nat.one_le_two_pow (n := l.length)
    have e1 : 2 ^ l.length * 2 * E.length = 2 ^ l.length * (2 * E.length) := Nat.mul_assoc _ _ _
    have e2 : 1 * (2 * E.length) ≤ 2 ^ l.length * (2 * E.length) := Nat.mul_le_mul_right _ one
    have e3 : 2 ^ l.length * (tm1 E f).length ≤ 2 ^ l.length * (2 * E.length) := Nat.mul_le_mul_left _ t.2.2
    obtain ⟨w', k⟩ := t_loop hN (v := v) (x := x) (y := y) (S := S) l (tm1 E f) (some (.v (pd f))) (fun f hf => hl f (List.mem_cons_of_mem _ hf)) t.1 (by omega)
    refine ⟨w', ?_⟩
    have st := t_step hN pf hE (by omega) (v := v) (x := x) (y := y) (S := S)
    rw [List.map_cons, List.foldl_cons, ← k]
    have g : ∀ (B : SM) (r : List Da), B [v, some (.v (.lst (E.map tD))), some (.v (pd f)), x, y] S = .nx [v, some (.v (.lst ((tm1 E f).map tD))), some (.v (pd f)), x, y] S →
        fLoop (.nm 2) B (pd f :: r) [v, some (.v (.lst (E.map tD))), w, x, y] S = fLoop (.nm 2) B r [v, some (.v (.lst ((tm1 E f).map tD))), some (.v (pd f)), x, y] S := fun B r h => by
      conv => lhs; unfold fLoop
      simp [h]
    exact g tBd _ st
theorem terms_i {N : Int} (hN : 0 < N ∧ N ≤ 2 ^ 60) {l : List Fa} (hn : l.length ≤ 12) (hl : ∀ f ∈ l, OkF N f) {S} : callF 1 F_terms_of [.v (.tup (l.map pd))] S = .ok (.v (.lst ((tms l).map tD))) S := callF_1 (by
  have p12 : 2 ^ l.length ≤ 2 ^ 12 := Nat.pow_le_pow_right (by decide) hn
  obtain ⟨w', k⟩ := t_loop hN (v := some (.v (.tup (l.map pd)))) (x := none) (y := none) (S := []) l [(0, (0, 1))] none hl (fun p hp => by rw [List.mem_singleton.mp hp]; exact all_okF N) (by simp; omega)
  simp only [F_terms_of, sem_terms_of]
  rw [show sSet 1 (eOp2 addP (eVar 1) (eLc (iSeq (eVar 1)) (.tup [3, 4]) _ _ [3, 4])) = tBd from rfl]
  refine run_rt rfl ?_
  show sSeq _ _ [some (.v (.tup (l.map pd))), none, none, none, none] [] = _
  have e1 : sSet 1 (eLst (aCons (eTup (aCons (eC (.int 0)) (aCons (eC (.tup ([0, 1].map Da.int))) aNil))) aNil)) [some (.v (.tup (l.map pd))), none, none, none, none] [] = .nx [some (.v (.tup (l.map pd))), some (.v (.lst (([(0, (0, 1))] : Tm).map tD))), none, none, none] [] := by
    simp [tD, pd]
  have e2 : sFor (iSeq (eVar 0)) (.nm 2) tBd [some (.v (.tup (l.map pd))), some (.v (.lst (([(0, (0, 1))] : Tm).map tD))), none, none, none] [] = .nx [some (.v (.tup (l.map pd))), some (.v (.lst ((tms l).map tD))), w', none, none] [] := by
    rw [s_for]
    have : iSeq (eVar 0) [some (.v (.tup (l.map pd))), some (.v (.lst (([(0, (0, 1))] : Tm).map tD))), none, none, none] [] = .ok (l.map pd) [] := rfl
    rw [this]
    exact k
  rw [seq_nx e1, seq_nx e2]
  simp)
theorem tms_ok {N : Int} {l : List Fa} (hl : ∀ f ∈ l, OkF N f) : (∀ p ∈ tms l, OkF N p.2) ∧ (∀ x, wt (tw (tms l)) x = if dk l x = true then 1 else 0) ∧ (tms l).length ≤ 2 ^ l.length := by
  obtain ⟨a, b, c⟩ := tms_go (P := OkF N) (fun g f hg hf => ⟨hg.gd, hf.gd, fun q => hg.pt hf q⟩) l [(0, (0, 1))] hl (fun p hp => by rw [List.mem_singleton.mp hp]; exact all_okF N)
  refine ⟨a, fun x => ?_, by show (l.foldl tm1 [(0, (0, 1))]).length ≤ _; simpa using c⟩
  have e : wt (tw [(0, (0, 1))]) x = 1 := by
    have := all_ft x
    simp [tw, wt, sgn, this]
  have h := b x
  rw [e] at h
  exact h
theorem sign_i (m : Nat) {S} : callF 1 F_sign_of [.v (.int m)] S = .ok (.v (.int (sgn m))) S := callF_1 (by
  have mo : modOk (m : Int) 2 = true := modOk_of (by omega)
  have mu : mulOk 2 ((m : Int) % 2) = true := mulOk_of (by omega) (by omega) (by omega) (by omega)
  have e : (1 : Int) - 2 * ((m : Int) % 2) = sgn m := by unfold sgn; omega
  simp [F_sign_of, sem_sign_of, mo, mu, e])
noncomputable def dE (lo hi : Int) : Da → Da
  | .tup [.int m, .tup [.int a, .int n]] => .int (sgn m.toNat * cnt (a, n) lo hi)
  | _ => .non
theorem dark_between_i {N : Int} (hN : 0 < N ∧ N ≤ 2 ^ 60) {E : Tm} (hE : ∀ p ∈ E, OkF N p.2) (hl : E.length ≤ 1000000) {lo hi : Int} (h1 : sB lo) (h2 : sB hi) {S} :
    callF 3 F_dark_between [.v (.lst (E.map tD)), .v (.int lo), .v (.int hi)] S = .ok (.v (.int (cw (tw E) lo hi))) S := callF_3 (by
  have lc : eLc (iSeq (eVar 0)) (.tup [3, 4]) eYes (eOp2 mulP (eCall 1 F_sign_of (aCons (eVar 3) aNil)) (eCall 3 F_count_of (aCons (eVar 4) (aCons (eVar 1) (aCons (eVar 2) aNil))))) [3, 4] [some (.v (.lst (E.map tD))), some (.v (.int lo)), some (.v (.int hi)), none, none] [] = .ok (.v (.lst (((tw E).map fun p => p.2 * cnt p.1 lo hi).map Da.int))) [] := by
    rw [lc_pure (S1 := []) (l := E.map tD) (fun _ => true) (dE lo hi) rfl (by rw [List.length_map]; exact hl) (fun d hd => ?_)]
    · congr 3
      unfold tw
      rw [List.filter_eq_self.mpr (fun _ _ => rfl), List.map_map, List.map_map, List.map_map]
      refine List.map_congr_left fun p _ => ?_
      show Da.int (sgn (p.1 : Int).toNat * cnt p.2 lo hi) = .int (sgn p.1 * cnt p.2 lo hi)
      rw [Int.toNat_natCast]
    · obtain ⟨p, hp, rfl⟩ := List.mem_map.mp hd
      have op := hE p hp
      have le := op.le hN
      refine ⟨[some (.v (.lst (E.map tD))), some (.v (.int lo)), some (.v (.int hi)), some (.v (.int p.1)), some (.v (pd p.2))], rfl, rfl, fun _ => ?_⟩
      have cb := cnt_bd (f := p.2) ⟨op.gd, le⟩ h1 h2
      have sb := sgn_ab p.1
      have mo : mulOk (sgn p.1) (cnt p.2 lo hi) = true := mulOk_of (by omega) (by omega) (by omega) (by omega)
      have c := count_of_i (f := p.2) op.gd.pos (by omega) (lo := lo) (hi := hi) (S := [])
      have e : ((hi - p.2.1) / p.2.2 - (lo - 1 - p.2.1) / p.2.2) = cnt p.2 lo hi := rfl
      rw [e] at c
      have s := sign_i p.1 (S := [])
      have r : dE lo hi (tD p) = .int (sgn p.1 * cnt p.2 lo hi) := by
        show Da.int (sgn (p.1 : Int).toNat * cnt p.2 lo hi) = .int (sgn p.1 * cnt p.2 lo hi)
        rw [Int.toNat_natCast]
      rw [r]
      simp [c, s, mo]
  have sm : sumP [.lst (((tw E).map fun p => p.2 * cnt p.1 lo hi).map Da.int)] = some (.int (cw (tw E) lo hi)) := by
    unfold sumP
    simp only [intsOf_map]
    rfl
  simp only [F_dark_between, sem_dark_between]
  refine run_rt rfl ?_
  show sRet _ [some (.v (.lst (E.map tD))), some (.v (.int lo)), some (.v (.int hi)), none, none] [] = _
  simp only [s_ret, s_cb, s_cons, s_nil, lc, b_ok, s_vwC, s_vwN, s_vw, sm])
theorem count_dark_i {N : Int} (hN : 0 < N ∧ N ≤ 2 ^ 60) {l : List Fa} (hn : l.length ≤ 12) (hl : ∀ f ∈ l, OkF N f) (hf : ∀ f ∈ l, LF f) {lo hi : Int} (s : Sp lo hi) {S} :
    callF 3 F_count_dark [.v (.tup (l.map pd)), .v (.int lo), .v (.int hi)] S = .ok (.v (.int ((sat (dk l) lo hi).length : Int))) S := callF_3 (by
  obtain ⟨a, b, c⟩ := tms_ok hl
  have p12 : 2 ^ l.length ≤ 2 ^ 12 := Nat.pow_le_pow_right (by decide) hn
  have k1 := fun S => check_lamps_i hn hf (S := S)
  have k2 := fun S => check_span_i s.a s.b s.c (S := S)
  have k3 := fun S => terms_i hN hn hl (S := S)
  have k4 := fun S => dark_between_i hN a (by omega) s.s.1 s.s.2 (S := S)
  have e := cw_len (W := tw (tms l)) (fun p hp => by unfold tw at hp; obtain ⟨q, hq, rfl⟩ := List.mem_map.mp hp; exact (a q hq).gd.pos) b (lo := lo) (hi := hi) (by have := s.b; omega)
  have e2 : cw (tw (tms l)) lo hi = ((sat (dk l) lo hi).length : Int) := e
  rw [e2] at k4
  simp [F_count_dark, sem_count_dark, k1, k2, k3, k4])
end M76
end
section
variable [FL.TabsOf]
namespace M76
open PySem FL RL
noncomputable def fBd : SM := sIf (eNotT (eTru (eCall 2 F_is_lit (aCons (eVar 0) (aCons (eOp2 addP (eVar 1) (eVar 2)) aNil))))) (sRet (eOp2 addP (eVar 1) (eVar 2))) sNext
theorem fd_loop {l : List Fa} (hn : l.length ≤ 40) (hg : ∀ f ∈ l, 0 < f.2) {x : Int} {S} : ∀ (ts : List Int) (w : Option D),
    (∃ t, ts.find? (fun t => dk l (x + t)) = some t ∧ fLoop (.nm 2) fBd (ts.map Da.int) [some (.v (.tup (l.map pd))), some (.v (.int x)), w] S = .rt (.v (.int (x + t))) S) ∨
    (ts.find? (fun t => dk l (x + t)) = none ∧ ∃ w', fLoop (.nm 2) fBd (ts.map Da.int) [some (.v (.tup (l.map pd))), some (.v (.int x)), w] S = .nx [some (.v (.tup (l.map pd))), some (.v (.int x)), w'] S)
  | [], w => .inr ⟨rfl, w, rfl⟩
  | t :: ts, w => by
    have c := fun S => is_lit_i hn hg (x := x + t) (S := S)
    cases d : dk l (x + t) with
    | true =>
      refine .inl ⟨t, by rw [List.find?_cons_of_pos (p := fun t => dk l (x + t)) d], ?_⟩
      have st : fBd [some (.v (.tup (l.map pd))), some (.v (.int x)), some (.v (.int t))] S = .rt (.v (.int (x + t))) S := by
        unfold fBd
        simp [c, d]
      rw [List.map_cons]
      unfold fLoop
      simp [st]
    | false =>
      have st : fBd [some (.v (.tup (l.map pd))), some (.v (.int x)), some (.v (.int t))] S = .nx [some (.v (.tup (l.map pd))), some (.v (.int x)), some (.v (.int t))] S := by
        unfold fBd
        simp [c, d]
      have e : fLoop (.nm 2) fBd (Da.int t :: ts.map Da.int) [some (.v (.tup (l.map pd))), some (.v (.int x)), w] S = fLoop (.nm 2) fBd (ts.map Da.int) [some (.v (.tup (l.map pd))), some (.v (.int x)), some (.v (.int t))] S := by
        conv => lhs; unfold fLoop
        simp [st]
      rw [List.map_cons, e, List.find?_cons_of_neg (p := fun t => dk l (x + t)) (by rw [d]; exact Bool.false_ne_true)]
      exact fd_loop hn hg ts _
/-- the first dark number from x on, looked for in 2 ^ n steps -/
def fdO (l : List Fa) (x : Int) : Option Int := ((rngI 0 (2 ^ l.length)).find? fun t => dk l (x + t)).map (x + ·)
def oD : Option Int → Da
  | some y => .int y
  | none => .non
theorem fd_it1 {F : Fn} {A : EM (List D)} {ρ : Rho} {ds : List D} {q : Int} {L : List Da} (sm : smallI q = true) (rg : rngD 0 q.toNat = L) (ha : A ρ [] = .ok ds []) (hc : callF 2 F ds [] = .ok (.v (.int q)) []) : iRange1 (aCons (eCall 2 F A) aNil) ρ [] = .ok L [] := by
  simp only [s_r1, s_cons, s_nil, s_call, ha, b_ok, hc, s_rvv, sm, if_true, rg]
theorem fd_len {l : List Fa} : lenP [.tup (l.map pd)] = some (.int l.length) := by
  show some (Da.int ((l.map pd).length : Nat)) = _
  rw [List.length_map]
theorem fd_args {l : List Fa} {x : Int} : aCons (eC (.int 2)) (aCons (eCB lenP (aCons (eVar 0) aNil)) aNil) [some (.v (.tup (l.map pd))), some (.v (.int x)), none] [] = .ok [.v (.int 2), .v (.int l.length)] [] := by
  have ln := fd_len (l := l)
  generalize (Da.int (l.length : Int)) = z at *
  generalize l.map pd = m at *
  simp [ln]
theorem fd_it {l : List Fa} {x : Int} (h12 : l.length ≤ 12) : iRange1 (aCons (eCall 2 F_raised (aCons (eC (.int 2)) (aCons (eCB lenP (aCons (eVar 0) aNil)) aNil))) aNil) [some (.v (.tup (l.map pd))), some (.v (.int x)), none] [] = .ok ((rngI 0 (2 ^ l.length)).map Da.int) [] := by
  have p12 : 2 ^ l.length ≤ 4096 := Nat.le_trans (Nat.pow_le_pow_right (by decide) h12) (by decide)
  have k1 := raised_i (n := l.length) (by omega) (S := [])
  have c : ((2 ^ l.length : Nat) : Int) = (2 : Int) ^ l.length := by simp
  have q0 : 0 ≤ (2 : Int) ^ l.length ∧ (2 : Int) ^ l.length ≤ 4096 := by
    rw [← c]
    exact ⟨Int.natCast_nonneg _, Int.ofNat_le.mpr p12⟩
  have rg : rngD 0 ((2 : Int) ^ l.length).toNat = (rngI 0 (2 ^ l.length)).map Da.int := by rw [← c, Int.toNat_natCast, rngD_I]
  generalize (2 : Int) ^ l.length = q at *
  exact fd_it1 (small_of (by omega) (by omega)) rg fd_args k1
theorem first_dark_i {l : List Fa} (hn : l.length ≤ 12) (hg : ∀ f ∈ l, 0 < f.2) {x : Int} {S} : callF 2 F_first_dark [.v (.tup (l.map pd)), .v (.int x)] S = .ok (.v (oD (fdO l x))) S := callF_2 (by
  have it := fd_it (l := l) (x := x) hn
  have lo := fd_loop (S := []) (x := x) (by omega) hg (rngI 0 (2 ^ l.length)) none
  have r1 : ∀ t, (rngI 0 (2 ^ l.length)).find? (fun t => dk l (x + t)) = some t → fdO l x = some (x + t) := fun t e => by unfold fdO; rw [e]; rfl
  have r2 : (rngI 0 (2 ^ l.length)).find? (fun t => dk l (x + t)) = none → fdO l x = none := fun e => by unfold fdO; rw [e]; rfl
  generalize rngI 0 (2 ^ l.length) = ts at *
  generalize fdO l x = o at *
  simp only [F_first_dark, sem_first_dark]
  rw [show sIf (eNotT (eTru (eCall 2 F_is_lit (aCons (eVar 0) (aCons (eOp2 addP (eVar 1) (eVar 2)) aNil))))) (sRet (eOp2 addP (eVar 1) (eVar 2))) sNext = fBd from rfl]
  refine run_rt rfl ?_
  show sSeq _ _ [some (.v (.tup (l.map pd))), some (.v (.int x)), none] [] = _
  generalize (iRange1 (aCons (eCall 2 F_raised (aCons (eC (.int 2)) (aCons (eCB lenP (aCons (eVar 0) aNil)) aNil))) aNil)) = I at *
  rcases lo with ⟨t, e, k⟩ | ⟨e, w', k⟩
  · rw [r1 t e, s_seq, s_for, it]
    simp only [k]
    rfl
  · rw [r2 e, s_seq, s_for, it]
    simp only [k]
    rfl)
theorem dark_from_i {l : List Fa} (hn : l.length ≤ 12) (hf : ∀ f ∈ l, LF f) {x : Int} (h1 : -10000000000000000000000000000000000000000 ≤ x) (h2 : x ≤ 10000000000000000000000000000000000000000) {S} :
    callF 2 F_dark_from [.v (.tup (l.map pd)), .v (.int x)] S = .ok (.v (oD (fdO l x))) S := callF_2 (by
  have k1 := fun S => check_lamps_i hn hf (S := S)
  have k2 := fun S => check_number_i h1 h2 (S := S)
  have k3 := fun S => first_dark_i hn (fun f h => (hf f h).gd.pos) (x := x) (S := S)
  simp [F_dark_from, sem_dark_from, k1, k2, k3])
theorem dk_false {l : List Fa} {x : Int} : dk l x = false ↔ ∃ f ∈ l, ft f x := by
  unfold dk
  rw [List.all_eq_false]
  constructor
  · rintro ⟨f, hf, h⟩
    exact ⟨f, hf, by simpa using h⟩
  · rintro ⟨f, hf, h⟩
    exact ⟨f, hf, by simpa using h⟩
/-- what is found is the first one; where nothing is found, there is none -/
theorem fdO_some {l : List Fa} {x y : Int} (h : fdO l x = some y) : Ith (dk l) x 0 y := by
  unfold fdO at h
  obtain ⟨t, e, rfl⟩ := Option.map_eq_some_iff.mp h
  have mem := List.mem_of_find?_eq_some e
  have t0 := (rngI_mem.mp mem).1
  have ok := List.find?_some (p := fun t => dk l (x + t)) e
  refine ⟨by omega, ok, List.length_eq_zero_iff.mpr (List.filter_eq_nil_iff.mpr fun z hz => ?_)⟩
  have hz' := spn_mem.mp hz
  intro bad
  obtain ⟨as, bs, e1, e2⟩ := (List.find?_eq_some_iff_append.mp e).2
  have ps := FL.rngI_pw 0 (2 ^ l.length)
  have zm : z - x ∈ rngI 0 (2 ^ l.length) := rngI_mem.mpr ⟨by omega, by have := (rngI_mem.mp mem).2; omega⟩
  rw [e1] at zm ps
  rcases List.mem_append.mp zm with q | q
  · have := e2 _ q
    rw [show x + (z - x) = z by omega, bad] at this
    cases this
  · rcases List.mem_cons.mp q with q | q
    · omega
    · have := (List.pairwise_append.mp ps).2.1
      have := (List.pairwise_cons.mp this).1 _ q
      omega
theorem fdO_none {l : List Fa} (hl : ∀ f ∈ l, 0 < f.2 ∧ f.2 ∣ 360) {x : Int} (h : fdO l x = none) (y : Int) (hy : x ≤ y) : dk l y = false := by
  unfold fdO at h
  have e := List.find?_eq_none.mp (Option.map_eq_none_iff.mp h)
  have all := all_lit hl (x := x) (fun t ht => dk_false.mp (by
    have := e (t : Int) (rngI_mem.mpr ⟨by omega, by omega⟩)
    simpa using this)) (y - x).toNat
  have : x + ((y - x).toNat : Int) = y := by omega
  rw [this] at all
  exact dk_false.mpr all
end M76
end
section
variable [FL.TabsOf]
namespace M76
open PySem FL
noncomputable def la0 : SM := (sPar3 4 5 6 (aCons (eLstN aNil) (aCons (eCall 2 F__law_dip (aCons (eVar 0) (aCons (eC (.int 200)) aNil))) (aCons (eC (.int 0)) aNil))))
noncomputable def la1b0 : SM := (sSet 7 (eCall 2 F__law_of (aCons (eVar 0) (aCons (eVar 2) aNil))))
noncomputable def la1b1 : SM := (sPar 8 9 (aCons (eOp2 modP (eCB intP (aCons (eVar 5) aNil)) (eVar 7)) (aCons (eOp2 (bD eqP) (eCall 2 F__law_dip (aCons (eVar 0) (aCons (eC (.int 2)) aNil))) (eC (.int 0))) aNil)))
noncomputable def la1b2 : SM := (sIf (eNotT (eTru (eVar 9))) (sSet 8 (eOp2 modP (eCB intP (aCons (eOp2 addP (eOp2 addP (eVar 8) (eC (.int 1))) (eCall 2 F__law_dip (aCons (eVar 0) (aCons (eCB max2P (aCons (eC (.int 1)) (aCons (eOp2 subP (eVar 7) (eC (.int 1))) aNil))) aNil)))) aNil)) (eVar 7))) sNext)
noncomputable def la1b3 : SM := (sIf (eOpB eqP (eCall 2 F__law_dip (aCons (eVar 0) (aCons (eC (.int 12)) aNil))) (eC (.int 0))) (sSet 8 (eCall 2 F__law_dip (aCons (eVar 0) (aCons (eVar 7) aNil)))) sNext)
noncomputable def la1b4 : SM := (sDrop (eAppend (eVar 4) (eTup (aCons (eVar 8) (aCons (eVar 7) (aCons (eVar 9) aNil))))))
noncomputable def la1B : SM := (sSeq la1b0 (sSeq la1b1 (sSeq la1b2 (sSeq la1b3 la1b4))))
noncomputable def la1 : SM := sFor (iRange1 (aCons (eCall 2 F__law_dip (aCons (eVar 0) (aCons (eOp2 addP (eVar 1) (eC (.int 1))) aNil))) aNil)) (.nm 3) la1B
noncomputable def la2 : SM := (sRet (eCB tupleP (aCons (eVar 4) aNil)))
theorem la_eq : sem__law_asks = (sSeq la0 (sSeq la1 la2)) := rfl
noncomputable def nr0 : SM := (sSet 4 (eCall 3 F__law_lefts (aCons (eVar 1) (aCons (eVar 2) (aCons (eVar 3) aNil)))))
noncomputable def nr1 : SM := (sIf (eOpB neSP (eCB reprP (aCons (eLst (aCons (eCall 3 F_count_left (aCons (eVar 1) (aCons (eVar 2) (aCons (eVar 3) aNil)))) (aCons (eCallK 3 F_count_left 0 [2, 1, 0] aNil (aCons (eVar 3) (aCons (eVar 2) (aCons (eVar 1) aNil)))) aNil))) aNil)) (eCB reprP (aCons (eOp2 mulAllP (eLst (aCons (eCB lenP (aCons (eVar 4) aNil)) aNil)) (eC (.int 2))) aNil))) (sRet (eC (.bl false))) sNext)
noncomputable def nr2 : SM := (sSet 5 (eIf (eOpB neP (eVar 4) (eLst aNil)) (eLst (aCons (eC (.str "told")) (aCons (eOp2 ixP (eVar 4) (eC (.int 0))) aNil))) (eLst (aCons (eC (.str "none")) (aCons (eC (.str "")) aNil)))))
noncomputable def nr3 : SM := (sIf (eOpB neP (eLam h__law_heard (eCall 3 F_least_left (aCons (eVar 1) (aCons (eVar 2) (aCons (eVar 3) aNil))))) (eVar 5)) (sRet (eC (.bl false))) sNext)
noncomputable def nr4b0 : SM := (sSet 8 (eIf (eChain leP ltP (eC (.int 0)) (eVar 6) (eCB lenP (aCons (eVar 4) aNil))) (eLst (aCons (eC (.str "told")) (aCons (eOp2 ixP (eVar 4) (eVar 6)) aNil))) (eLst (aCons (eC (.str "index")) (aCons (eCB reprIP (aCons (eVar 6) aNil)) aNil)))))
noncomputable def nr4b1 : SM := (sIf (eOpB neP (eLam h__law_heard (eCall 4 F_nth_left (aCons (eVar 1) (aCons (eVar 2) (aCons (eVar 3) (aCons (eVar 6) aNil)))))) (eVar 8)) (sRet (eC (.bl false))) sNext)
noncomputable def nr4B : SM := (sSeq nr4b0 nr4b1)
noncomputable def nr4 : SM := sFor (iSeq (eLst (aCons (eC (.int 0)) (aCons (eCall 2 F__law_dip (aCons (eVar 0) (aCons (eOp2 addP (eCB lenP (aCons (eVar 4) aNil)) (eC (.int 1))) aNil))) (aCons (eOp2 subP (eCB lenP (aCons (eVar 4) aNil)) (eC (.int 1))) (aCons (eCB lenP (aCons (eVar 4) aNil)) aNil)))))) (.nm 6) nr4B
noncomputable def nr5 : SM := (sSet 7 (eOp2 addP (eVar 2) (eCall 2 F__law_dip (aCons (eVar 0) (aCons (eOp2 addP (eOp2 subP (eVar 3) (eVar 2)) (eC (.int 1))) aNil)))))
noncomputable def nr6 : SM := (sRet (eOp2 (bD eqP) (eOp2 addP (eCall 3 F_count_left (aCons (eVar 1) (aCons (eVar 2) (aCons (eVar 7) aNil)))) (eIf (eOpB ltP (eVar 7) (eVar 3)) (eCall 3 F_count_left (aCons (eVar 1) (aCons (eOp2 addP (eVar 7) (eC (.int 1))) (aCons (eVar 3) aNil)))) (eC (.int 0)))) (eCB lenP (aCons (eVar 4) aNil))))
theorem nr_eq : sem__law_near_right = (sSeq nr0 (sSeq nr1 (sSeq nr2 (sSeq nr3 (sSeq nr4 (sSeq nr5 nr6)))))) := rfl
noncomputable def fr0 : SM := (sSet 3 (eCall 3 F__law_lefts (aCons (eVar 1) (aCons (eVar 2) (aCons (eOp2 addP (eVar 2) (eC (.int 359))) aNil)))))
noncomputable def fr1 : SM := (sUnp (.tup [7, 8]) (eTup (aCons (eOp2 addP (eOp2 powP (eC (.int 10)) (eC (.int 19))) (eCall 2 F__law_dip (aCons (eVar 0) (aCons (eOp2 powP (eC (.int 10)) (eC (.int 9))) aNil)))) (aCons (eCall 2 F__law_dip (aCons (eVar 0) (aCons (eC (.int 360)) aNil))) aNil))))
noncomputable def fr2 : SM := (sSet 4 (eOp2 addP (eOp2 mulP (eVar 7) (eCB lenP (aCons (eVar 3) aNil))) (eCB lenP (aCons (eLc (iSeq (eVar 3)) (.nm 9) (eOpB ltP (eVar 9) (eOp2 addP (eVar 2) (eVar 8))) (eVar 9) [9]) aNil))))
noncomputable def fr3 : SM := (sIf (eOpB neP (eCall 3 F_count_left (aCons (eVar 1) (aCons (eVar 2) (aCons (eOp2 subP (eOp2 addP (eOp2 addP (eVar 2) (eOp2 mulP (eC (.int 360)) (eVar 7))) (eVar 8)) (eC (.int 1))) aNil)))) (eVar 4)) (sRet (eC (.bl false))) sNext)
noncomputable def fr4 : SM := (sIf (eOpB eqP (eVar 3) (eLst aNil)) (sRet (eOp2 (bD eqP) (eLam h__law_heard (eCallK 3 F_least_left 0 [2, 0, 1] aNil (aCons (eVar 2) (aCons (eOp2 addP (eVar 2) (eOp2 powP (eC (.int 10)) (eC (.int 20)))) (aCons (eVar 1) aNil))))) (eLst (aCons (eC (.str "none")) (aCons (eC (.str "")) aNil))))) sNext)
noncomputable def fr5 : SM := (sSet 5 (eCall 2 F__law_dip (aCons (eVar 0) (aCons (eCB lenP (aCons (eVar 3) aNil)) aNil))))
noncomputable def fr6 : SM := (sSet 6 (eCall 4 F_nth_left (aCons (eVar 1) (aCons (eVar 2) (aCons (eOp2 addP (eOp2 addP (eVar 2) (eOp2 mulP (eC (.int 360)) (eVar 7))) (eC (.int 359))) (aCons (eOp2 addP (eOp2 mulP (eVar 7) (eCB lenP (aCons (eVar 3) aNil))) (eVar 5)) aNil))))))
noncomputable def fr7 : SM := (sRet (eAndV (eOp2 (bD eqP) (eVar 6) (eOp2 addP (eOp2 ixP (eVar 3) (eVar 5)) (eOp2 mulP (eC (.int 360)) (eVar 7)))) (eOp2 (bD eqP) (eCall 3 F_least_left (aCons (eVar 1) (aCons (eVar 2) (aCons (eOp2 powP (eC (.int 10)) (eC (.int 30))) aNil)))) (eOp2 ixP (eVar 3) (eC (.int 0))))))
theorem fr_eq : sem__law_far_right = (sSeq fr0 (sSeq fr1 (sSeq fr2 (sSeq fr3 (sSeq fr4 (sSeq fr5 (sSeq fr6 fr7))))))) := rfl
noncomputable def qr_0 : SM := (sSet 4 (eCall 2 F__law_of (aCons (eVar 0) (aCons (eLst (aCons (eC (.int 1)) (aCons (eC (.int 2)) (aCons (eC (.int 5)) (aCons (eC (.int 7)) (aCons (eC (.int 12)) aNil)))))) aNil))))
noncomputable def qr_1 : SM := (sSet 5 (eCall 2 F__law_dip (aCons (eVar 0) (aCons (eVar 4) aNil))))
noncomputable def qr_2 : SM := (sPar 6 7 (aCons (eOp2 addP (eVar 1) (eTup (aCons (eTup (aCons (eVar 5) (aCons (eVar 4) (aCons (eC (.bl true)) aNil)))) aNil))) (aCons (eOp2 addP (eVar 1) (eTup (aCons (eTup (aCons (eVar 5) (aCons (eVar 4) (aCons (eC (.bl false)) aNil)))) aNil))) aNil)))
noncomputable def qr_3 : SM := (sRet (eOp2 (bD eqP) (eOp2 addP (eCall 3 F_count_left (aCons (eVar 6) (aCons (eVar 2) (aCons (eVar 3) aNil)))) (eCall 3 F_count_left (aCons (eVar 7) (aCons (eVar 2) (aCons (eVar 3) aNil))))) (eCall 3 F_count_left (aCons (eVar 1) (aCons (eVar 2) (aCons (eVar 3) aNil))))))
theorem qr__eq : sem__law_parted_right = (sSeq qr_0 (sSeq qr_1 (sSeq qr_2 qr_3))) := rfl
noncomputable def kr0 : SM := (sSet 3 (eCB tupleP (aCons (eLc (iSeq (eVar 0)) (.nm 9) (eTru (eOp2 ixP (eVar 9) (eC (.int 2)))) (eVar 9) [9]) aNil)))
noncomputable def kr1 : SM := (sPar 8 7 (aCons (eCB tupleP (aCons (eLc (iSeq (eVar 3)) (.nm 9) eYes (eSl (eVar 9) oNone (oSome (eC (.int 2)))) [9]) aNil)) (aCons (eCall 3 F_count_left (aCons (eVar 3) (aCons (eVar 1) (aCons (eVar 2) aNil)))) aNil)))
noncomputable def kr2 : SM := (sIf (eOpB neP (eCall 1 F_quarrels (aCons (eVar 8) aNil)) (eTup aNil)) (sIf (eOpB neP (eVar 7) (eC (.int 0))) (sRet (eC (.bl false))) sNext) (sIf (eOpB neP (eCall 3 F_count (aCons (eVar 8) (aCons (eVar 1) (aCons (eVar 2) aNil)))) (eVar 7)) (sRet (eC (.bl false))) (sIf (eAndT (eOpB gtP (eVar 7) (eC (.int 0))) (eOpB neP (eCall 4 F_nth_left (aCons (eVar 3) (aCons (eVar 1) (aCons (eVar 2) (aCons (eOp2 subP (eVar 7) (eC (.int 1))) aNil))))) (eCall 3 F_nth (aCons (eVar 8) (aCons (eVar 1) (aCons (eOp2 subP (eVar 7) (eC (.int 1))) aNil)))))) (sRet (eC (.bl false))) sNext)))
noncomputable def kr3 : SM := (sSet 4 (eCB tupleP (aCons (eLc (iSeq (eVar 0)) (.nm 9) (eNotT (eTru (eOp2 ixP (eVar 9) (eC (.int 2))))) (eSl (eVar 9) oNone (oSome (eC (.int 2)))) [9]) aNil)))
noncomputable def kr4 : SM := (sSet 5 (eCB tupleP (aCons (eLc (iSeq (eVar 0)) (.nm 9) (eNotT (eTru (eOp2 ixP (eVar 9) (eC (.int 2))))) (eVar 9) [9]) aNil)))
noncomputable def kr5 : SM := (sIf (eOpB neP (eCall 3 F_count_left (aCons (eVar 5) (aCons (eVar 1) (aCons (eVar 2) aNil)))) (eCall 3 F_count_dark (aCons (eVar 4) (aCons (eVar 1) (aCons (eVar 2) aNil))))) (sRet (eC (.bl false))) sNext)
noncomputable def kr6 : SM := (sSet 6 (eCall 2 F_dark_from (aCons (eVar 4) (aCons (eVar 1) aNil))))
noncomputable def kr7 : SM := (sSet 7 (eIf (eAndT (eOpB notNoneP (eVar 6) (eC .non)) (eOpB leP (eVar 6) (eVar 2))) (eLst (aCons (eC (.str "told")) (aCons (eVar 6) aNil))) (eLst (aCons (eC (.str "none")) (aCons (eC (.str "")) aNil)))))
noncomputable def kr8 : SM := (sRet (eOp2 (bD eqP) (eLam h__law_heard (eCall 3 F_least_left (aCons (eVar 5) (aCons (eVar 1) (aCons (eVar 2) aNil))))) (eVar 7)))
theorem kr_eq : sem__law_kin_right = (sSeq kr0 (sSeq kr1 (sSeq kr2 (sSeq kr3 (sSeq kr4 (sSeq kr5 (sSeq kr6 (sSeq kr7 kr8)))))))) := rfl
noncomputable def lr0b0 : SM := (sSet 2 (eCall 3 F__law_asks (aCons (eVar 0) (aCons (eC (.int 6)) (aCons (eLst (aCons (eC (.int 1)) (aCons (eC (.int 2)) (aCons (eC (.int 3)) (aCons (eC (.int 4)) (aCons (eC (.int 5)) (aCons (eC (.int 6)) (aCons (eC (.int 8)) (aCons (eC (.int 9)) (aCons (eC (.int 10)) (aCons (eC (.int 12)) (aCons (eC (.int 18)) (aCons (eC (.int 20)) aNil))))))))))))) aNil)))))
noncomputable def lr0b1 : SM := (sSet 3 (eOp2 subP (eCall 2 F__law_dip (aCons (eVar 0) (aCons (eC (.int 400)) aNil))) (eC (.int 200))))
noncomputable def lr0b2 : SM := (sSet 4 (eOp2 addP (eVar 3) (eCall 2 F__law_dip (aCons (eVar 0) (aCons (eCall 2 F__law_of (aCons (eVar 0) (aCons (eLst (aCons (eC (.int 1)) (aCons (eC (.int 9)) (aCons (eC (.int 60)) (aCons (eC (.int 200)) aNil))))) aNil))) aNil)))))
noncomputable def lr0b3 : SM := (sIf (eOrT (eNotT (eTru (eCall 4 F__law_near_right (aCons (eVar 0) (aCons (eVar 2) (aCons (eVar 3) (aCons (eVar 4) aNil))))))) (eNotT (eTru (eCall 3 F__law_far_right (aCons (eVar 0) (aCons (eVar 2) (aCons (eVar 3) aNil))))))) (sRet (eC (.bl false))) sNext)
noncomputable def lr0b4 : SM := (sIf (eOrT (eNotT (eTru (eCall 4 F__law_parted_right (aCons (eVar 0) (aCons (eVar 2) (aCons (eVar 3) (aCons (eVar 4) aNil))))))) (eNotT (eTru (eCall 3 F__law_kin_right (aCons (eVar 2) (aCons (eVar 3) (aCons (eVar 4) aNil))))))) (sRet (eC (.bl false))) sNext)
noncomputable def lr0B : SM := (sSeq lr0b0 (sSeq lr0b1 (sSeq lr0b2 (sSeq lr0b3 lr0b4))))
noncomputable def lr0 : SM := sFor (iRange1 (aCons (eC (.int 3)) aNil)) (.nm 1) lr0B
noncomputable def lr1 : SM := (sRet (eC (.bl true)))
theorem lr_eq : sem__law_right = (sSeq lr0 lr1) := rfl
end M76
end
section
variable [FL.TabsOf]
namespace M76
open PySem FL RL L2
theorem ofc {k : Nat} {c : Cell} (h : PailOk k [c]) (hk : k ≤ 1000000) {ts : List Da} (hl : 0 < ts.length) (hl2 : ts.length < 1000) (T : List Cell) : ∃ x c', callF 2 F__law_of [.o 0, .v (.lst ts)] (c :: T) = .ok (.v x) (c' :: T) ∧ x ∈ ts ∧ PailOk (k + 1) [c'] := by
  obtain ⟨x, S', e, m, o⟩ := of2 h hk hl hl2 T
  obtain ⟨c', rfl⟩ : ∃ c', S' = [c'] := by
    obtain ⟨g, x, c, rfl, _⟩ := o
    exact ⟨_, rfl⟩
  exact ⟨x, c', e, m, o⟩
def bsL : List Int := [1, 2, 3, 4, 5, 6, 8, 9, 10, 12, 18, 20]
theorem bsL_ok : ∀ n ∈ bsL, 1 ≤ n ∧ n ≤ 20 ∧ n ∣ 360 := by decide
abbrev bsD : Da := .lst (bsL.map Da.int)
/-- the slots of asks -/
abbrev LA (m h : Int) (t b r q : Option D) : Rho := [some (.o 0), some (.v (.int m)), some (.v bsD), t, some (.o 1), some (.v (.int h)), some (.v (.int 0)), b, r, q]
theorem la_0 {k : Nat} {c x : Cell} {m h : Int} (hp : PailOk k [c]) (hk : k ≤ 900000) {t b r q} : ∃ (n : Int) (c' : Cell), la1b0 (LA m h t b r q) [c, x] = .nx (LA m h t (some (.v (.int n))) r q) [c', x] ∧ n ∈ bsL ∧ PailOk (k + 1) [c'] := by
  obtain ⟨y, c', e, my, o⟩ := ofc hp (by omega) (ts := bsL.map Da.int) (by decide) (by decide) [x]
  obtain ⟨n, hn, rfl⟩ := List.mem_map.mp my
  exact ⟨n, c', by simp [la1b0, LA, e], hn, o⟩
theorem la_1 {k : Nat} {c x : Cell} {m h n : Int} (hp : PailOk k [c]) (hk : k ≤ 900000) (hn : 1 ≤ n) {t r q} : ∃ (u : Bool) (c' : Cell), la1b1 (LA m h t (some (.v (.int n))) r q) [c, x] = .nx (LA m h t (some (.v (.int n))) (some (.v (.int (h % n)))) (some (.v (.bl u)))) [c', x] ∧ PailOk (k + 1) [c'] := by
  obtain ⟨y, c', e, y0, y1, o⟩ := dipc hp (by omega) (m := 2) (by omega) (by omega) [x]
  have mo : modOk h n = true := modOk_of (by omega)
  exact ⟨decide (y = 0), c', by simp [la1b1, LA, e, mo, bD], o⟩
theorem la_2 {k : Nat} {c x : Cell} {m h n v : Int} {u : Bool} (hp : PailOk k [c]) (hk : k ≤ 900000) (hn : 1 ≤ n ∧ n ≤ 20) (hv : 0 ≤ v ∧ v < n) {t} : ∃ (v' : Int) (c' : Cell), la1b2 (LA m h t (some (.v (.int n))) (some (.v (.int v))) (some (.v (.bl u)))) [c, x] = .nx (LA m h t (some (.v (.int n))) (some (.v (.int v'))) (some (.v (.bl u)))) [c', x] ∧ (0 ≤ v' ∧ v' < n) ∧ PailOk (k + 1) [c'] := by
  cases u with
  | true => exact ⟨v, c, by simp [la1b2, LA], hv, hp.mono (by omega)⟩
  | false =>
    have hb : 0 < (if n - 1 > 1 then n - 1 else 1) ∧ (if n - 1 > 1 then n - 1 else 1) < 1073741824 := by split <;> omega
    obtain ⟨y, c', e, y0, y1, o⟩ := dipc hp (by omega) (m := if n - 1 > 1 then n - 1 else 1) hb.1 hb.2 [x]
    have mo : modOk (v + 1 + y) n = true := modOk_of (by omega)
    have mx : max2P [.int 1, .int (n - 1)] = some (.int (if n - 1 > 1 then n - 1 else 1)) := rfl
    generalize (if n - 1 > 1 then n - 1 else 1) = z at *
    refine ⟨(v + 1 + y) % n, c', ?_, ⟨Int.emod_nonneg _ (by omega), Int.emod_lt_of_pos _ (by omega)⟩, o⟩
    simp [la1b2, LA, e, mo, mx, -o_mx2]
theorem la_3 {k : Nat} {c x : Cell} {m h n v : Int} {u : Bool} (hp : PailOk k [c]) (hk : k ≤ 900000) (hn : 1 ≤ n ∧ n ≤ 20) (hv : 0 ≤ v ∧ v < n) {t} : ∃ (v' : Int) (c' : Cell), la1b3 (LA m h t (some (.v (.int n))) (some (.v (.int v))) (some (.v (.bl u)))) [c, x] = .nx (LA m h t (some (.v (.int n))) (some (.v (.int v'))) (some (.v (.bl u)))) [c', x] ∧ (0 ≤ v' ∧ v' < n) ∧ PailOk (k + 2) [c'] := by
  obtain ⟨y, c1, e, y0, y1, o⟩ := dipc hp (by omega) (m := 12) (by omega) (by omega) [x]
  by_cases hy : y = 0
  · obtain ⟨z, c2, e2, z0, z1, o2⟩ := dipc o (by omega) (m := n) (by omega) (by omega) [x]
    exact ⟨z, c2, by simp [la1b3, LA, e, hy, e2], ⟨z0, z1⟩, o2⟩
  · exact ⟨v, c1, by simp [la1b3, LA, e, hy], hv, o.mono (by omega)⟩
theorem la_4 {c : Cell} {l : As} {m h n v : Int} {u : Bool} (hl : l.length ≤ 1000) {t} : la1b4 (LA m h t (some (.v (.int n))) (some (.v (.int v))) (some (.v (.bl u)))) [c, .lst (l.map kd)] = .nx (LA m h t (some (.v (.int n))) (some (.v (.int v))) (some (.v (.bl u)))) [c, .lst ((l ++ [((v, n), u)]).map kd)] := by
  have ln : l.length < 1000000 := by omega
  simp [la1b4, LA, eAppend, lstOf, ln, kd]
structure Small (f : Fa) : Prop where
  ok : OkF 360 f
  le : f.2 ≤ 20
theorem small_mk {v n : Int} (hn : n ∈ bsL) (hv : 0 ≤ v ∧ v < n) : Small (v, n) := ⟨⟨hv, (bsL_ok n hn).2.2⟩, (bsL_ok n hn).2.1⟩
theorem la_step {k : Nat} {c : Cell} {l : As} {m h : Int} (hp : PailOk k [c]) (hk : k ≤ 800000) (hl : l.length ≤ 1000) {t b r q} : ∃ (b' r' q' : Option D) (c' : Cell) (a : Fa × Bool), la1B (LA m h t b r q) [c, .lst (l.map kd)] = .nx (LA m h t b' r' q') [c', .lst ((l ++ [a]).map kd)] ∧ Small a.1 ∧ PailOk (k + 5) [c'] := by
  obtain ⟨n, c0, e0, hn, o0⟩ := la_0 (x := .lst (l.map kd)) (m := m) (h := h) (t := t) (b := b) (r := r) (q := q) hp (by omega)
  have hn' := bsL_ok n hn
  obtain ⟨u, c1, e1, o1⟩ := la_1 (x := .lst (l.map kd)) (m := m) (h := h) (t := t) (r := r) (q := q) o0 (by omega) hn'.1
  obtain ⟨v2, c2, e2, h2, o2⟩ := la_2 (x := .lst (l.map kd)) (m := m) (h := h) (t := t) (u := u) o1 (by omega) ⟨hn'.1, hn'.2.1⟩ ⟨Int.emod_nonneg h (by omega : n ≠ 0), Int.emod_lt_of_pos h (by omega : 0 < n)⟩
  obtain ⟨v3, c3, e3, h3, o3⟩ := la_3 (x := .lst (l.map kd)) (m := m) (h := h) (t := t) (u := u) o2 (by omega) ⟨hn'.1, hn'.2.1⟩ h2
  have e4 := la_4 (c := c3) (l := l) (m := m) (h := h) (n := n) (v := v3) (u := u) hl (t := t)
  refine ⟨some (.v (.int n)), some (.v (.int v3)), some (.v (.bl u)), c3, ((v3, n), u), ?_, small_mk hn h3, o3⟩
  unfold la1B
  rw [seq_nx e0, seq_nx e1, seq_nx e2, seq_nx e3, e4]
theorem la_loop {k : Nat} {m h : Int} (hk : k ≤ 700000) : ∀ (ds : List Da) (c : Cell) (l : As) (t b r q : Option D), PailOk (k + 5 * l.length) [c] → l.length + ds.length ≤ 100 → (∀ a ∈ l, Small a.1) →
    ∃ (t' b' r' q' : Option D) (c' : Cell) (l' : As), fLoop (.nm 3) la1B ds (LA m h t b r q) [c, .lst (l.map kd)] = .nx (LA m h t' b' r' q') [c', .lst (l'.map kd)] ∧ l'.length = l.length + ds.length ∧ (∀ a ∈ l', Small a.1) ∧ PailOk (k + 5 * l'.length) [c']
  | [], c, l, t, b, r, q, hp, _, hs => ⟨t, b, r, q, c, l, rfl, rfl, hs, hp⟩
  | d :: ds, c, l, t, b, r, q, hp, hl, hs => by
    rw [List.length_cons] at hl
    obtain ⟨b', r', q', c', a, e, sa, o⟩ := la_step (l := l) (m := m) (h := h) hp (by omega) (by omega) (t := some (.v d)) (b := b) (r := r) (q := q)
    have la : (l ++ [a]).length = l.length + 1 := by simp
    obtain ⟨t2, b2, r2, q2, c2, l2, e2, n2, s2, o2⟩ := la_loop hk ds c' (l ++ [a]) (some (.v d)) b' r' q' (o.mono (by rw [la]; omega)) (by rw [la]; omega) (fun y hy => by
      rcases List.mem_append.mp hy with hy | hy
      · exact hs y hy
      · simp at hy; rw [hy]; exact sa)
    refine ⟨t2, b2, r2, q2, c2, l2, ?_, by rw [n2, la, List.length_cons]; omega, s2, o2⟩
    rw [← e2]
    conv => lhs; unfold fLoop
    have tg : tgSet (.nm 3) d (LA m h t b r q) = some (LA m h (some (.v d)) b r q) := rfl
    simp only [tg, e]
theorem asks_i {k : Nat} {c : Cell} (hp : PailOk k [c]) (hk : k ≤ 600000) (T : List Cell) : ∃ (l : As) (c' : Cell), callF 3 F__law_asks [.o 0, .v (.int 6), .v bsD] (c :: T) = .ok (.v (.tup (l.map kd))) (c' :: T) ∧ l.length ≤ 6 ∧ (∀ a ∈ l, Small a.1) ∧ PailOk (k + 32) [c'] := by
  obtain ⟨h, c1, e1, h0, h1, o1⟩ := dipc hp (by omega) (m := 200) (by omega) (by omega) [.lst []]
  obtain ⟨y, c2, e2, y0, y1, o2⟩ := dipc o1 (by omega) (m := 7) (by omega) (by omega) [.lst []]
  have ln : (rngD 0 y.toNat).length = y.toNat := by simp [rngD]
  obtain ⟨t, b, r, q, c3, l, e3, n3, s3, o3⟩ := la_loop (k := k + 2) (m := 6) (h := h) (by omega) (rngD 0 y.toNat) c2 [] none none none none o2 (by rw [ln, List.length_nil]; omega) (fun a ha => absurd ha (by simp))
  rw [ln, List.length_nil, Nat.zero_add] at n3
  refine ⟨l, c3, ?_, by omega, s3, o3.mono (by omega)⟩
  have o3' : PailOk (k + 32) [c3] := o3.mono (by omega)
  have f : F__law_asks (.o 0 :: [Da.int 6, bsD].map D.v) [c] = .ok (.v (.tup (l.map kd))) [c3] := by
    refine run_pail (T := [.lst (l.map kd)]) hp o3' rfl ?_
    rw [la_eq]
    show sSeq la0 (sSeq la1 la2) [some (.o 0), some (.v (.int 6)), some (.v bsD), none, none, none, none, none, none, none] [c] = _
    have s0 : la0 [some (.o 0), some (.v (.int 6)), some (.v bsD), none, none, none, none, none, none, none] [c] = .nx (LA 6 h none none none none) [c1, .lst []] := by
      simp [la0, LA, e1]
    have it : iRange1 (aCons (eCall 2 F__law_dip (aCons (eVar 0) (aCons (eOp2 addP (eVar 1) (eC (.int 1))) aNil))) aNil) (LA 6 h none none none none) [c1, .lst []] = .ok (rngD 0 y.toNat) [c2, .lst []] := by
      have sm : smallI y = true := small_of (by omega) (by omega)
      simp [LA, e2, sm]
    have s1 : la1 (LA 6 h none none none none) [c1, .lst []] = .nx (LA 6 h t b r q) [c3, .lst (l.map kd)] := by
      unfold la1
      rw [s_for, it]
      exact e3
    rw [seq_nx s0, seq_nx s1]
    simp [la2, LA, view]
  exact call_pail (ps := [.int 6, bsD]) hp o3' rfl f
end M76
end
section
variable [FL.TabsOf]
namespace M76
open PySem FL RL L2
theorem small_asks {l : As} (h : ∀ a ∈ l, Small a.1) (hl : l.length ≤ 12) : OkA 2520 l := ⟨by decide, ap2520, by omega, Nat.le_trans (List.length_filter_le _ _) (by omega), fun a ha => ⟨(h a ha).ok.gd, Int.dvd_trans (h a ha).ok.dv (by decide)⟩⟩
@[simp] theorem s_lam {f : EM D} {ρ S} : eLam h__law_heard f ρ S = h__law_heard (f ρ S) := rfl
theorem hTold_no {CI CN f : Str} {S} : hTold CI CN f (.err CN [] S) = .ok (.v (.lst [.str "none", .str ""])) S := if_pos rfl
theorem hTold_ix {CI CN f : Str} {i : Int} (h : i.natAbs.log2 < 1920) {S} : hTold CI CN f (.err CI [(f, .v (.int i))] S) = .ok (.v (.lst [.str "index", .str (toString i)])) S := if_pos ⟨rfl, rfl, h⟩
theorem heard_ok {p : Da} {S} : h__law_heard (.ok (.v p) S) = .ok (.v (.lst [.str "told", p])) S := rfl
theorem heard_no {S} : h__law_heard (.err "NoNumber" [] S) = .ok (.v (.lst [.str "none", .str ""])) S := hTold_no
theorem heard_ix {i : Int} (h : i.natAbs.log2 < 1920) {S} : h__law_heard (.err "InvalidIndex" [("given", .v (.int i))] S) = .ok (.v (.lst [.str "index", .str (toString i)])) S := hTold_ix h
def ltD (own : List Int) : Da := match own[0]? with
  | some x => .lst [.str "told", .int x]
  | none => .lst [.str "none", .str ""]
def ntD (own : List Int) (p : Int) : Da := if 0 ≤ p ∧ p < own.length then .lst [.str "told", .int (own.getD p.toNat 0)] else .lst [.str "index", .str (toString p)]
theorem heard_l {l : As} (h : OkA 2520 l) {lo hi : Int} (s : Sp lo hi) {S} : h__law_heard ((callF 3 F_least_left [.v (.tup (l.map kd)), .v (.int lo), .v (.int hi)] S).bind fun r S2 => .ok (rvD r) S2) = .ok (.v (ltD (lfs l lo hi))) S := by
  unfold ltD
  cases e : (lfs l lo hi)[0]? with
  | none =>
    rw [least_left_e h s (by
      cases q : lfs l lo hi with
      | nil => rfl
      | cons a b => rw [q] at e; cases e)]
    exact heard_no
  | some x =>
    have i := ith_of (P := left l) e
    rw [least_left_i h s i.1 i.2]
    exact heard_ok
theorem log_few {p : Int} (h1 : -1000 ≤ p) (h2 : p ≤ 1000) : p.natAbs.log2 < 1920 := by
  by_cases z : p.natAbs = 0
  · rw [z]; decide
  · have := (Nat.log2_lt (n := p.natAbs) (k := 10) z).mpr (by omega)
    omega
theorem heard_n {l : As} (h : OkA 2520 l) {lo hi p : Int} (s : Sp lo hi) (h1 : -1000 ≤ p) (h2 : p ≤ 1000) {S} : h__law_heard ((callF 4 F_nth_left [.v (.tup (l.map kd)), .v (.int lo), .v (.int hi), .v (.int p)] S).bind fun r S2 => .ok (rvD r) S2) = .ok (.v (ntD (lfs l lo hi) p)) S := by
  unfold ntD
  by_cases c : 0 ≤ p ∧ p < (lfs l lo hi).length
  · rw [if_pos c]
    obtain ⟨n, rfl⟩ := Int.eq_ofNat_of_zero_le c.1
    have e : (lfs l lo hi)[n]? = some ((lfs l lo hi).getD n 0) := by
      have hn : n < (lfs l lo hi).length := by omega
      rw [List.getElem?_eq_getElem hn]
      simp [List.getD, List.getElem?_eq_getElem hn]
    have i := ith_of (P := left l) e
    rw [Int.toNat_natCast, nth_left_i h s i.1 i.2]
    exact heard_ok
  · rw [if_neg c, nth_left_e h s c]
    exact heard_ix (log_few h1 h2)
theorem lay_words : PyData.canLay0 (.str "told") = true ∧ PyData.canLay0 (.str "none") = true ∧ PyData.canLay0 (.str "") = true ∧ PyData.canLay0 (.str "index") = true := by
  refine ⟨?_, ?_, ?_, ?_⟩ <;> (simp only [PyData.canLay0]; decide +kernel)
theorem lay_all : ((List.range 500).all fun n => PyData.strOk (Str.ofString (toString ((n : Int) - 1)))) = true := by decide +kernel
theorem lay_ix {p : Int} (h1 : -1 ≤ p) (h2 : p ≤ 400) : PyData.canLay0 (.str (toString p)) = true := by
  have := List.all_eq_true.mp lay_all (p + 1).toNat (List.mem_range.mpr (by omega))
  have e : (((p + 1).toNat : Nat) : Int) - 1 = p := by omega
  rw [e] at this
  simp only [PyData.canLay0]
  exact this
theorem lt_pl (own : List Int) : pl (ltD own) = true ∧ dpD (ltD own) ≤ 4 := by
  unfold ltD
  split
  · exact ⟨by simp [pl, pls, lay_words.1], by simp [dpD, dpDs]⟩
  · exact ⟨by simp [pl, pls, lay_words.2.1, lay_words.2.2.1], by simp [dpD, dpDs]⟩
theorem nt_pl {own : List Int} {p : Int} (h1 : -1 ≤ p) (h2 : p ≤ 400) : pl (ntD own p) = true ∧ dpD (ntD own p) ≤ 4 := by
  unfold ntD
  split
  · exact ⟨by simp [pl, pls, lay_words.1], by simp [dpD, dpDs]⟩
  · refine ⟨?_, by simp [dpD, dpDs]⟩
    show (PyData.canLay0 (.str "index") && (PyData.canLay0 (.str (toString p)) && true)) = true
    rw [lay_words.2.2.2, lay_ix h1 h2]
    rfl
theorem lt_same (own : List Int) : neP (ltD own) (ltD own) = some false ∧ eqP (ltD own) (ltD own) = some true := by
  obtain ⟨a, b⟩ := lt_pl own
  exact ⟨ne_selfP a (by omega), eq_selfP a (by omega)⟩
theorem nt_same {own : List Int} {p : Int} (h1 : -1 ≤ p) (h2 : p ≤ 400) : neP (ntD own p) (ntD own p) = some false := by
  obtain ⟨a, b⟩ := nt_pl (own := own) h1 h2
  exact ne_selfP a (by omega)
theorem lfs_len (l : As) (lo hi : Int) : (lfs l lo hi).length ≤ (hi + 1 - lo).toNat := by
  unfold lfs spn
  exact Nat.le_trans (List.length_filter_le _ _) (by rw [rngI_len]; exact Nat.le_refl _)
end M76
end
section
variable [FL.TabsOf]
namespace FL
open PySem
@[simp] theorem s_callK {n np : Nat} {F : Fn} {perm : List Nat} {f g : EM (List D)} {ρ S} : eCallK n F np perm f g ρ S = (f ρ S).bind fun ds S1 => (g ρ S1).bind fun es S2 => (callF n F (kwD np perm ds es) S2).bind fun r S3 => .ok (rvD r) S3 := rfl
theorem kw3 (a b c : D) : kwD 0 [2, 1, 0] [] [a, b, c] = [c, b, a] := rfl
theorem twice (n : Int) : mulAllP (.lst [.int n]) (.int 2) = some (.lst [.int n, .int n]) := rfl
theorem repr_two {n : Int} (h1 : 0 ≤ n) (h2 : n ≤ 1000) : ∃ t, reprP [.lst [.int n, .int n]] = some (.str t) := by
  refine repr_lst ?_ (by simp [dpDs, dpD]) (by simp [szDs, szD])
  simp only [okIs, okI, Bool.and_true, Bool.and_eq_true, decide_eq_true_eq]
  omega
end FL
namespace M76
open PySem FL RL L2
abbrev NR (A : Da) (lo hi : Int) (due least place cut told : Option D) : Rho := [some (.o 0), some (.v A), some (.v (.int lo)), some (.v (.int hi)), due, least, place, cut, told]
theorem nr_1 {A : Da} {lo hi n : Int} {due : List Da} {x y z w : Option D} {S : List Cell} {t : Str} (c : ∀ S, callF 3 F_count_left [.v A, .v (.int lo), .v (.int hi)] S = .ok (.v (.int n)) S) (ln : lenP [.lst due] = some (.int n)) (rp : reprP [.lst [.int n, .int n]] = some (.str t)) :
    nr1 (NR A lo hi (some (.v (.lst due))) x y z w) S = .nx (NR A lo hi (some (.v (.lst due))) x y z w) S := by
  have ne := ne_str t
  simp [nr1, NR, c, kw3, ln, twice, rp, ne]
theorem nr_2 {A : Da} {lo hi : Int} {own : List Int} {x y z w : Option D} {S : List Cell} :
    nr2 (NR A lo hi (some (.v (.lst (own.map Da.int)))) x y z w) S = .nx (NR A lo hi (some (.v (.lst (own.map Da.int)))) (some (.v (ltD own))) y z w) S := by
  have nn := ne_nilL (pls_ints own) (by have := dps_ints own; omega)
  cases own with
  | nil =>
    have nn' : neP (.lst []) (.lst []) = some false := nn
    simp [nr2, NR, nn', ltD]
  | cons a r =>
    have nn' : neP (.lst (Da.int a :: r.map Da.int)) (.lst []) = some true := nn
    simp [nr2, NR, nn', ltD]
theorem nr_3 {A : Da} {lo hi : Int} {due v : Da} {y z w : Option D} {S : List Cell} (hv : ∀ S, h__law_heard ((callF 3 F_least_left [.v A, .v (.int lo), .v (.int hi)] S).bind fun r S2 => .ok (rvD r) S2) = .ok (.v v) S) (ne : neP v v = some false) :
    nr3 (NR A lo hi (some (.v due)) (some (.v v)) y z w) S = .nx (NR A lo hi (some (.v due)) (some (.v v)) y z w) S := by
  simp [nr3, NR, hv, ne]
theorem nr_4s {A : Da} {lo hi p : Int} {own : List Int} {x z w : Option D} {S : List Cell} (h1 : -1 ≤ p) (h2 : p ≤ 400) (hv : ∀ S, h__law_heard ((callF 4 F_nth_left [.v A, .v (.int lo), .v (.int hi), .v (.int p)] S).bind fun r S2 => .ok (rvD r) S2) = .ok (.v (ntD own p)) S) :
    nr4B (NR A lo hi (some (.v (.lst (own.map Da.int)))) x (some (.v (.int p))) z w) S = .nx (NR A lo hi (some (.v (.lst (own.map Da.int)))) x (some (.v (.int p))) z (some (.v (ntD own p)))) S := by
  have ne := nt_same (own := own) h1 h2
  have few := log_few (p := p) (by omega) (by omega)
  have ln : lenP [.lst (own.map Da.int)] = some (.int own.length) := by
    show some (Da.int ((own.map Da.int).length : Nat)) = _
    rw [List.length_map]
  have e0 : nr4b0 (NR A lo hi (some (.v (.lst (own.map Da.int)))) x (some (.v (.int p))) z w) S = .nx (NR A lo hi (some (.v (.lst (own.map Da.int)))) x (some (.v (.int p))) z (some (.v (ntD own p)))) S := by
    unfold ntD
    by_cases c : 0 ≤ p ∧ p < own.length
    · rw [if_pos c]
      have at_ : L2.atI (own.map Da.int) p = some (.int (own.getD p.toNat 0)) := by
        obtain ⟨n, rfl⟩ := Int.eq_ofNat_of_zero_le c.1
        have hn : n < own.length := by omega
        unfold L2.atI L2.ixN
        rw [if_pos (by omega), if_pos (by rw [List.length_map]; omega)]
        show (own.map Da.int)[(n : Int).toNat]? = _
        rw [Int.toNat_natCast, List.getElem?_map, List.getElem?_eq_getElem hn]
        simp [List.getD, List.getElem?_eq_getElem hn]
      simp [nr4b0, NR, ln, c.1, c.2, at_]
    · rw [if_neg c]
      have rp : reprIP [.int p] = some (.str (toString p)) := if_pos few
      generalize (Da.str (toString p)) = T at *
      by_cases c1 : 0 ≤ p
      · have c2 : ¬ p < own.length := fun q => c ⟨c1, q⟩
        simp [nr4b0, NR, ln, c1, c2, rp]
      · simp [nr4b0, NR, ln, c1, rp]
  have e1 : nr4b1 (NR A lo hi (some (.v (.lst (own.map Da.int)))) x (some (.v (.int p))) z (some (.v (ntD own p)))) S = .nx (NR A lo hi (some (.v (.lst (own.map Da.int)))) x (some (.v (.int p))) z (some (.v (ntD own p)))) S := by
    generalize ntD own p = T at *
    simp [nr4b1, NR, hv, ne]
  unfold nr4B
  rw [seq_nx e0, e1]
theorem nr_4l {A : Da} {lo hi : Int} {own : List Int} {x z : Option D} (hv : ∀ p, -1 ≤ p → p ≤ 400 → ∀ S, h__law_heard ((callF 4 F_nth_left [.v A, .v (.int lo), .v (.int hi), .v (.int p)] S).bind fun r S2 => .ok (rvD r) S2) = .ok (.v (ntD own p)) S) {S : List Cell} :
    ∀ (ps : List Int) (y w : Option D), (∀ p ∈ ps, -1 ≤ p ∧ p ≤ 400) → ∃ y' w', fLoop (.nm 6) nr4B (ps.map Da.int) (NR A lo hi (some (.v (.lst (own.map Da.int)))) x y z w) S = .nx (NR A lo hi (some (.v (.lst (own.map Da.int)))) x y' z w') S
  | [], y, w, _ => ⟨y, w, rfl⟩
  | p :: ps, y, w, h => by
    have ⟨h1, h2⟩ := h p List.mem_cons_self
    have e := nr_4s (A := A) (lo := lo) (hi := hi) (own := own) (x := x) (z := z) (w := w) (S := S) h1 h2 (hv p h1 h2)
    obtain ⟨y', w', k⟩ := nr_4l hv ps (some (.v (.int p))) (some (.v (ntD own p))) fun q hq => h q (List.mem_cons_of_mem _ hq)
    refine ⟨y', w', ?_⟩
    rw [← k, List.map_cons]
    conv => lhs; unfold fLoop
    have tg : tgSet (.nm 6) (.int p) (NR A lo hi (some (.v (.lst (own.map Da.int)))) x y z w) = some (NR A lo hi (some (.v (.lst (own.map Da.int)))) x (some (.v (.int p))) z w) := rfl
    simp only [tg, e]
theorem nr_6 {A : Da} {lo hi cut n m k : Int} {due : List Da} {x y w : Option D} {S : List Cell} (c1 : ∀ S, callF 3 F_count_left [.v A, .v (.int lo), .v (.int cut)] S = .ok (.v (.int m)) S) (c2 : cut < hi → ∀ S, callF 3 F_count_left [.v A, .v (.int (cut + 1)), .v (.int hi)] S = .ok (.v (.int k)) S)
    (k0 : ¬ cut < hi → k = 0) (ln : lenP [.lst due] = some (.int n)) (e : m + k = n) : nr6 (NR A lo hi (some (.v (.lst due))) x y (some (.v (.int cut))) w) S = .rt (.v (.bl true)) S := by
  by_cases c : cut < hi
  · have c2 := c2 c
    simp [nr6, NR, c1, c2, c, ln, e, bD]
  · have k0 := k0 c
    subst k0
    have e' : m = n := by omega
    simp [nr6, NR, c1, c, ln, e', bD]
theorem near_right_i {k : Nat} {c : Cell} (hp : PailOk k [c]) (hk : k ≤ 500000) {l : As} (h : OkA 2520 l) {lo hi : Int} (h1 : -1000 ≤ lo) (h2 : lo ≤ hi) (h3 : hi ≤ 1000) (h4 : hi - lo ≤ 300) (T0 : List Cell) :
    ∃ c', callF 4 F__law_near_right [.o 0, .v (.tup (l.map kd)), .v (.int lo), .v (.int hi)] (c :: T0) = .ok (.v (.bl true)) (c' :: T0) ∧ PailOk (k + 2) [c'] := by
  have s : Sp lo hi := ⟨by omega, h2, by omega⟩
  have len := h.len
  have sg : ∀ a ∈ l, Gd a.1 := fun a ha => (h.ok a ha).gd
  have le := fun S => lefts_i (l := l) (by omega) sg (lo := lo) (hi := hi) (by omega) (by omega) (by omega) (by omega) (S := S)
  have few := lfs_len l lo hi
  have ln : lenP [.lst ((lfs l lo hi).map Da.int)] = some (.int (lfs l lo hi).length) := by
    show some (Da.int (((lfs l lo hi).map Da.int).length : Nat)) = _
    rw [List.length_map]
  have e0 : nr0 (NR (.tup (l.map kd)) lo hi none none none none none) [c] = .nx (NR (.tup (l.map kd)) lo hi (some (.v (.lst ((lfs l lo hi).map Da.int)))) none none none none) [c] := by
    generalize l.map kd = L at *
    simp [nr0, NR, le]
  obtain ⟨t, rp⟩ := repr_two (n := ((lfs l lo hi).length : Int)) (by omega) (by omega)
  have e1 := nr_1 (A := .tup (l.map kd)) (lo := lo) (hi := hi) (x := none) (y := none) (z := none) (w := none) (S := [c]) (fun S => count_left_i h s (S := S)) ln rp
  have e2 := nr_2 (A := .tup (l.map kd)) (lo := lo) (hi := hi) (own := lfs l lo hi) (x := none) (y := none) (z := none) (w := none) (S := [c])
  have e3 := nr_3 (A := .tup (l.map kd)) (lo := lo) (hi := hi) (due := .lst ((lfs l lo hi).map Da.int)) (y := none) (z := none) (w := none) (S := [c]) (fun S => heard_l h s (S := S)) (lt_same _).1
  obtain ⟨b, c1, f1, b0, b1, o1⟩ := dipc hp (by omega) (m := (lfs l lo hi).length + 1) (by omega) (by omega) []
  obtain ⟨y', w', e4⟩ := nr_4l (A := .tup (l.map kd)) (lo := lo) (hi := hi) (own := lfs l lo hi) (x := some (.v (ltD (lfs l lo hi)))) (z := none) (S := [c1]) (fun p q1 q2 S => heard_n h s (by omega) (by omega) (S := S)) [0, b, (lfs l lo hi).length - 1, (lfs l lo hi).length] none none (fun p hp => by
    simp only [List.mem_cons, List.not_mem_nil, or_false] at hp
    rcases hp with rfl | rfl | rfl | rfl <;> omega)
  have it4 : iSeq (eLst (aCons (eC (.int 0)) (aCons (eCall 2 F__law_dip (aCons (eVar 0) (aCons (eOp2 addP (eCB lenP (aCons (eVar 4) aNil)) (eC (.int 1))) aNil))) (aCons (eOp2 subP (eCB lenP (aCons (eVar 4) aNil)) (eC (.int 1))) (aCons (eCB lenP (aCons (eVar 4) aNil)) aNil))))) (NR (.tup (l.map kd)) lo hi (some (.v (.lst ((lfs l lo hi).map Da.int)))) (some (.v (ltD (lfs l lo hi)))) none none none) [c] = .ok (([0, b, (lfs l lo hi).length - 1, (lfs l lo hi).length] : List Int).map Da.int) [c1] := by
    generalize ltD (lfs l lo hi) = V at *
    generalize ((lfs l lo hi).length : Int) = n at *
    generalize (lfs l lo hi).map Da.int = L at *
    generalize l.map kd = M at *
    simp [NR, ln, f1]
  have e4' : nr4 (NR (.tup (l.map kd)) lo hi (some (.v (.lst ((lfs l lo hi).map Da.int)))) (some (.v (ltD (lfs l lo hi)))) none none none) [c] = .nx (NR (.tup (l.map kd)) lo hi (some (.v (.lst ((lfs l lo hi).map Da.int)))) (some (.v (ltD (lfs l lo hi)))) y' none w') [c1] := by
    unfold nr4
    rw [s_for, it4]
    exact e4
  obtain ⟨d, c2, f2, d0, d1, o2⟩ := dipc o1 (by omega) (m := hi - lo + 1) (by omega) (by omega) []
  have e5 : nr5 (NR (.tup (l.map kd)) lo hi (some (.v (.lst ((lfs l lo hi).map Da.int)))) (some (.v (ltD (lfs l lo hi)))) y' none w') [c1] = .nx (NR (.tup (l.map kd)) lo hi (some (.v (.lst ((lfs l lo hi).map Da.int)))) (some (.v (ltD (lfs l lo hi)))) y' (some (.v (.int (lo + d)))) w') [c2] := by
    generalize ltD (lfs l lo hi) = V at *
    generalize (lfs l lo hi).map Da.int = L at *
    generalize l.map kd = M at *
    simp [nr5, NR, f2]
  have cut := sat_cut (P := left l) (lo := lo) (mid := lo + d) (hi := hi) (by omega) (by omega)
  have cl : (lfs l lo hi).length = (lfs l lo (lo + d)).length + (lfs l (lo + d + 1) hi).length := by
    rw [lfs_sat, cut, List.length_append]
    rfl
  have e6 := nr_6 (A := .tup (l.map kd)) (lo := lo) (hi := hi) (cut := lo + d) (n := (lfs l lo hi).length) (m := (lfs l lo (lo + d)).length) (k := (lfs l (lo + d + 1) hi).length) (due := (lfs l lo hi).map Da.int) (x := some (.v (ltD (lfs l lo hi)))) (y := y') (w := w') (S := [c2])
    (fun S => count_left_i h ⟨by omega, by omega, by omega⟩ (S := S)) (fun q S => count_left_i h ⟨by omega, by omega, by omega⟩ (S := S)) (fun q => by rw [lfs_sat, sat_none (by omega)]; rfl) ln (by omega)
  have oE : PailOk (k + 2) [c2] := o2.mono (by omega)
  refine ⟨c2, ?_, oE⟩
  have f : F__law_near_right (.o 0 :: [Da.tup (l.map kd), Da.int lo, Da.int hi].map D.v) [c] = .ok (.v (.bl true)) [c2] := by
    refine run_pail (T := []) hp oE rfl ?_
    rw [nr_eq]
    show sSeq nr0 _ (NR (.tup (l.map kd)) lo hi none none none none none) [c] = _
    rw [seq_nx e0, seq_nx e1, seq_nx e2, seq_nx e3, seq_nx e4', seq_nx e5, e6]
    rfl
  exact call_pail (ps := [.tup (l.map kd), .int lo, .int hi]) (T := T0) hp oE rfl f
end M76
end
section
variable [FL.TabsOf]
namespace M76
open PySem FL RL L2
theorem pow19 : powP (.int 10) (.int 19) = some (.int 10000000000000000000) := pw (by decide +kernel) (by decide +kernel)
theorem pow9 : powP (.int 10) (.int 9) = some (.int 1000000000) := pw (by decide +kernel) (by decide +kernel)
theorem pow20 : powP (.int 10) (.int 20) = some (.int 100000000000000000000) := pw (by decide +kernel) (by decide +kernel)
theorem pow30 : powP (.int 10) (.int 30) = some (.int 1000000000000000000000000000000) := pw (by decide +kernel) (by decide +kernel)
theorem left_per {l : As} (h : ∀ a ∈ l, a.1.2 ∣ 360) (x : Int) : left l (x + 360) = left l x := by
  unfold left
  refine Bool.eq_iff_iff.mpr ?_
  rw [List.all_eq_true, List.all_eq_true]
  have e : ∀ a ∈ l, okA a (x + 360) = okA a x := fun a ha => by
    unfold okA
    have q : ft a.1 (x + 360) ↔ ft a.1 x := by
      unfold ft
      have d := h a ha
      constructor
      · intro z
        have := Int.dvd_sub z d
        rwa [show x + 360 - a.1.1 - 360 = x - a.1.1 by omega] at this
      · intro z
        have := Int.dvd_add z d
        rwa [show x - a.1.1 + 360 = x + 360 - a.1.1 by omega] at this
    rw [decide_eq_decide.mpr q]
  exact ⟨fun g a ha => by rw [← e a ha]; exact g a ha, fun g a ha => by rw [e a ha]; exact g a ha⟩
theorem none_far {P : Int → Bool} {M : Int} (h0 : 0 < M) (hM : ∀ x, P (x + M) = P x) {lo : Int} (h : sat P lo (lo + M - 1) = []) (hi : Int) : sat P lo hi = [] := by
  refine List.filter_eq_nil_iff.mpr fun y hy => ?_
  have hy' := (spn_mem.mp hy).1
  intro bad
  have q0 : 0 ≤ (y - lo) / M := Int.ediv_nonneg (by omega) (by omega)
  obtain ⟨t, ht⟩ := Int.eq_ofNat_of_zero_le q0
  have e := Int.mul_ediv_add_emod (y - lo) M
  have r0 := Int.emod_nonneg (y - lo) (by omega : M ≠ 0)
  have r1 := Int.emod_lt_of_pos (y - lo) h0
  rw [ht] at e
  have mem : lo + (y - lo) % M ∈ sat P lo (lo + M - 1) := sat_mem.mpr ⟨⟨by omega, by omega⟩, by
    have := per_mul hM t (lo + (y - lo) % M)
    rw [← this, show lo + (y - lo) % M + M * (t : Int) = y by omega]
    exact bad⟩
  rw [h] at mem
  cases mem
theorem at_own {own : List Int} {p : Int} (h0 : 0 ≤ p) (h1 : p < own.length) : L2.atI (own.map Da.int) p = some (.int (own.getD p.toNat 0)) := by
  obtain ⟨n, rfl⟩ := Int.eq_ofNat_of_zero_le h0
  have hn : n < own.length := by omega
  unfold L2.atI L2.ixN
  rw [if_pos (by omega), if_pos (by rw [List.length_map]; omega)]
  show (own.map Da.int)[(n : Int).toNat]? = _
  rw [Int.toNat_natCast, List.getElem?_map, List.getElem?_eq_getElem hn]
  simp [List.getD, List.getElem?_eq_getElem hn]
theorem get_own {own : List Int} {p : Int} (h0 : 0 ≤ p) (h1 : p < own.length) : own[p.toNat]? = some (own.getD p.toNat 0) := by
  have hn : p.toNat < own.length := by omega
  simp [List.getD, List.getElem?_eq_getElem hn]
theorem len_own (own : List Int) : lenP [.lst (own.map Da.int)] = some (.int own.length) := by
  show some (Da.int ((own.map Da.int).length : Nat)) = _
  rw [List.length_map]
abbrev FR (A : Da) (lo : Int) (own many place told times more num : Option D) : Rho := [some (.o 0), some (.v A), some (.v (.int lo)), own, many, place, told, times, more, num]
theorem fr_0 {A : Da} {lo : Int} {own : List Int} {a b c d e f : Option D} {S : List Cell} (le : ∀ S, callF 3 F__law_lefts [.v A, .v (.int lo), .v (.int (lo + 359))] S = .ok (.v (.lst (own.map Da.int))) S) :
    fr0 (FR A lo none a b c d e f) S = .nx (FR A lo (some (.v (.lst (own.map Da.int)))) a b c d e f) S := by
  generalize own.map Da.int = L at *
  simp [fr0, FR, le]
theorem fr_1 {A : Da} {lo y m : Int} {own a b c d e f : Option D} {S S1 S2 : List Cell} (d1 : callF 2 F__law_dip [.o 0, .v (.int 1000000000)] S = .ok (.v (.int y)) S1) (d2 : callF 2 F__law_dip [.o 0, .v (.int 360)] S1 = .ok (.v (.int m)) S2) :
    fr1 (FR A lo own a b c d e f) S = .nx (FR A lo own a b c (some (.v (.int (10000000000000000000 + y)))) (some (.v (.int m))) f) S2 := by
  simp [fr1, FR, pow19, pow9, d1, d2]
theorem fr_2 {A : Da} {lo t m : Int} {own : List Int} {b c a f : Option D} {S : List Cell} (hl : own.length ≤ 1000) (ht : 0 ≤ t ∧ t ≤ 2 ^ 100) :
    fr2 (FR A lo (some (.v (.lst (own.map Da.int)))) a b c (some (.v (.int t))) (some (.v (.int m))) f) S =
      .nx (FR A lo (some (.v (.lst (own.map Da.int)))) (some (.v (.int (t * own.length + (own.filter fun x => decide (x < lo + m)).length)))) b c (some (.v (.int t))) (some (.v (.int m))) f) S := by
  have ln := len_own own
  have lc : eLc (iSeq (eVar 3)) (.nm 9) (eOpB ltP (eVar 9) (eOp2 addP (eVar 2) (eVar 8))) (eVar 9) [9] (FR A lo (some (.v (.lst (own.map Da.int)))) a b c (some (.v (.int t))) (some (.v (.int m))) f) S = .ok (.v (.lst ((own.filter fun x => decide (x < lo + m)).map Da.int))) S := by
    rw [lc_pure (S1 := S) (l := own.map Da.int) (fun d => match d with | .int x => decide (x < lo + m) | _ => false) id (by simp) (by rw [List.length_map]; omega) (fun d hd => ?_)]
    · congr 3
      rw [List.map_id, List.filter_map]
      rfl
    · obtain ⟨x, _, rfl⟩ := List.mem_map.mp hd
      exact ⟨[some (.o 0), some (.v A), some (.v (.int lo)), some (.v (.lst (own.map Da.int))), a, b, c, some (.v (.int t)), some (.v (.int m)), some (.v (.int x))], rfl, by simp, fun _ => by simp⟩
  have ln2 := len_own (own.filter fun x => decide (x < lo + m))
  have mo : mulOk t own.length = true := mulOk_of (by omega) (by omega) (by omega) (by omega)
  generalize (own.filter fun x => decide (x < lo + m)).map Da.int = L2 at *
  generalize ((own.filter fun x => decide (x < lo + m)).length : Int) = n2 at *
  generalize (own.length : Int) = n at *
  generalize own.map Da.int = L at *
  unfold fr2
  generalize eLc (iSeq (eVar 3)) (.nm 9) (eOpB ltP (eVar 9) (eOp2 addP (eVar 2) (eVar 8))) (eVar 9) [9] = LC at *
  simp [FR, lc, ln, ln2, mo]
theorem fr_3 {A : Da} {lo t m many : Int} {own : Option D} {b c f : Option D} {S : List Cell} (ht : 0 ≤ t ∧ t ≤ 2 ^ 100) (cl : ∀ S, callF 3 F_count_left [.v A, .v (.int lo), .v (.int (lo + 360 * t + m - 1))] S = .ok (.v (.int many)) S) :
    fr3 (FR A lo own (some (.v (.int many))) b c (some (.v (.int t))) (some (.v (.int m))) f) S = .nx (FR A lo own (some (.v (.int many))) b c (some (.v (.int t))) (some (.v (.int m))) f) S := by
  have mo : mulOk 360 t = true := mulOk_of (by omega) (by omega) (by omega) (by omega)
  simp [fr3, FR, mo, cl]
theorem kw201 (a b c : D) : kwD 0 [2, 0, 1] [] [a, b, c] = [c, a, b] := rfl
theorem fr_4n {A : Da} {lo : Int} {a b c d e f : Option D} {S : List Cell} (hv : ∀ S, h__law_heard ((callF 3 F_least_left [.v A, .v (.int lo), .v (.int (lo + 100000000000000000000))] S).bind fun r S2 => .ok (rvD r) S2) = .ok (.v (ltD [])) S) :
    fr4 (FR A lo (some (.v (.lst (([] : List Int).map Da.int)))) a b c d e f) S = .rt (.v (.bl true)) S := by
  have nn : eqP (.lst []) (.lst []) = some true := eq_nilL (l := []) rfl (by decide)
  have q := (lt_same []).2
  have q' : eqP (ltD []) (.lst [.str "none", .str ""]) = some true := q
  generalize ltD [] = V at *
  simp [fr4, FR, nn, kw201, pow20, hv, q', bD]
theorem fr_4s {A : Da} {lo x : Int} {own : List Int} {a b c d e f : Option D} {S : List Cell} :
    fr4 (FR A lo (some (.v (.lst ((x :: own).map Da.int)))) a b c d e f) S = .nx (FR A lo (some (.v (.lst ((x :: own).map Da.int)))) a b c d e f) S := by
  have nn : eqP (.lst ((x :: own).map Da.int)) (.lst []) = some false := eq_nilL (pls_ints _) (by have := dps_ints (x :: own); omega)
  generalize (x :: own).map Da.int = L at *
  simp [fr4, FR, nn]
theorem fr_5 {A : Da} {lo p : Int} {own : List Int} {a b c d e f : Option D} {S S1 : List Cell} (d1 : callF 2 F__law_dip [.o 0, .v (.int own.length)] S = .ok (.v (.int p)) S1) :
    fr5 (FR A lo (some (.v (.lst (own.map Da.int)))) a b c d e f) S = .nx (FR A lo (some (.v (.lst (own.map Da.int)))) a (some (.v (.int p))) c d e f) S1 := by
  have ln := len_own own
  generalize own.map Da.int = L at *
  simp [fr5, FR, ln, d1]
theorem fr_6 {A : Da} {lo t p x : Int} {own : List Int} {a c e f : Option D} {S : List Cell} (hl : own.length ≤ 1000) (ht : 0 ≤ t ∧ t ≤ 2 ^ 100) (cl : ∀ S, callF 4 F_nth_left [.v A, .v (.int lo), .v (.int (lo + 360 * t + 359)), .v (.int (t * own.length + p))] S = .ok (.v (.int x)) S) :
    fr6 (FR A lo (some (.v (.lst (own.map Da.int)))) a (some (.v (.int p))) c (some (.v (.int t))) e f) S = .nx (FR A lo (some (.v (.lst (own.map Da.int)))) a (some (.v (.int p))) (some (.v (.int x))) (some (.v (.int t))) e f) S := by
  have ln := len_own own
  have mo : mulOk 360 t = true := mulOk_of (by omega) (by omega) (by omega) (by omega)
  have m2 : mulOk t own.length = true := mulOk_of (by omega) (by omega) (by omega) (by omega)
  generalize own.map Da.int = L at *
  generalize (own.length : Int) = n at *
  simp [fr6, FR, ln, mo, m2, cl]
theorem fr_7 {A : Da} {lo t p x y : Int} {own : List Int} {a e f : Option D} {S : List Cell} (hp : 0 ≤ p ∧ p < own.length) (ht : 0 ≤ t ∧ t ≤ 2 ^ 100) (hx : x = own.getD p.toNat 0 + 360 * t) (hy : y = own.getD 0 0)
    (cl : ∀ S, callF 3 F_least_left [.v A, .v (.int lo), .v (.int 1000000000000000000000000000000)] S = .ok (.v (.int y)) S) :
    fr7 (FR A lo (some (.v (.lst (own.map Da.int)))) a (some (.v (.int p))) (some (.v (.int x))) (some (.v (.int t))) e f) S = .rt (.v (.bl true)) S := by
  have mo : mulOk 360 t = true := mulOk_of (by omega) (by omega) (by omega) (by omega)
  have a1 := at_own (own := own) hp.1 hp.2
  have a2 := at_own (own := own) (p := 0) (by omega) (by omega)
  have z : (0 : Int).toNat = 0 := rfl
  rw [z] at a2
  rw [← hy] at a2
  generalize own.getD p.toNat 0 = u at *
  generalize own.map Da.int = L at *
  simp [fr7, FR, mo, a1, a2, cl, pow30, bD, hx]
theorem far_right_i {k : Nat} {c : Cell} (hp : PailOk k [c]) (hk : k ≤ 500000) {l : As} (h : OkA 2520 l) (h360 : ∀ a ∈ l, a.1.2 ∣ 360) {lo : Int} (h1 : -1000 ≤ lo) (h2 : lo ≤ 1000) (T0 : List Cell) :
    ∃ c', callF 3 F__law_far_right [.o 0, .v (.tup (l.map kd)), .v (.int lo)] (c :: T0) = .ok (.v (.bl true)) (c' :: T0) ∧ PailOk (k + 3) [c'] := by
  have len := h.len
  have sg : ∀ a ∈ l, Gd a.1 := fun a ha => (h.ok a ha).gd
  have le := fun S => lefts_i (l := l) (by omega) sg (lo := lo) (hi := lo + 359) (by omega) (by omega) (by omega) (by omega) (S := S)
  have per := left_per h360
  have few := lfs_len l lo (lo + 359)
  have ow : lfs l lo (lo + 359) = sat (left l) lo (lo + 360 - 1) := by rw [lfs_sat, show lo + 360 - 1 = lo + 359 by omega]
  obtain ⟨y, c1, f1, y0, y1, o1⟩ := dipc hp (by omega) (m := 1000000000) (by omega) (by omega) []
  obtain ⟨m, c2, f2, m0, m1, o2⟩ := dipc o1 (by omega) (m := 360) (by omega) (by omega) []
  obtain ⟨t, ht⟩ : ∃ t : Nat, (t : Int) = 10000000000000000000 + y := ⟨(10000000000000000000 + y).toNat, by omega⟩
  have tb : 0 ≤ (t : Int) ∧ (t : Int) ≤ 2 ^ 100 := by omega
  have far := sat_far (P := left l) (M := 360) (by omega) per lo t m0 (Int.le_of_lt m1)
  rw [← ow] at far
  have s3 : Sp lo (lo + 360 * t + m - 1) := ⟨by omega, by omega, by omega⟩
  have cl3 := fun S => count_left_i h s3 (S := S)
  rw [lfs_sat, far] at cl3
  have e0 := fr_0 (A := .tup (l.map kd)) (lo := lo) (own := lfs l lo (lo + 359)) (a := none) (b := none) (c := none) (d := none) (e := none) (f := none) (S := [c]) le
  have e1 := fr_1 (A := .tup (l.map kd)) (lo := lo) (own := some (.v (.lst ((lfs l lo (lo + 359)).map Da.int)))) (a := none) (b := none) (c := none) (d := none) (e := none) (f := none) f1 f2
  rw [← ht] at e1
  have e2 := fr_2 (A := .tup (l.map kd)) (lo := lo) (t := t) (m := m) (own := lfs l lo (lo + 359)) (b := none) (c := none) (a := none) (f := none) (S := [c2]) (by omega) tb
  have cst : ((t * (lfs l lo (lo + 359)).length + ((lfs l lo (lo + 359)).filter fun x => decide (x < lo + m)).length : Nat) : Int) = (t : Int) * ((lfs l lo (lo + 359)).length : Int) + (((lfs l lo (lo + 359)).filter fun x => decide (x < lo + m)).length : Int) := by
    rw [Int.natCast_add, Int.natCast_mul]
  rw [cst] at cl3
  have e3 := fr_3 (A := .tup (l.map kd)) (lo := lo) (t := t) (m := m) (own := some (.v (.lst ((lfs l lo (lo + 359)).map Da.int)))) (b := none) (c := none) (f := none) (S := [c2]) tb cl3
  have nN : F__law_far_right (.o 0 :: [Da.tup (l.map kd), Da.int lo].map D.v) [c] = runDef 3 10 sem__law_far_right (.o 0 :: [Da.tup (l.map kd), Da.int lo].map D.v) [c] := rfl
  by_cases em : lfs l lo (lo + 359) = []
  · have none_ : lfs l lo (lo + 100000000000000000000) = [] := none_far (P := left l) (M := 360) (by omega) per (by rw [← ow]; exact em) _
    have hv := fun S => heard_l h (lo := lo) (hi := lo + 100000000000000000000) ⟨by omega, by omega, by omega⟩ (S := S)
    rw [none_] at hv
    rw [em] at e0 e1 e2 e3
    have e4 := fr_4n (A := .tup (l.map kd)) (lo := lo) (a := some (.v (.int ((t : Int) * (([] : List Int).length : Int) + ((([] : List Int).filter fun x => decide (x < lo + m)).length : Int))))) (b := none) (c := none) (d := some (.v (.int t))) (e := some (.v (.int m))) (f := none) (S := [c2]) hv
    have oE : PailOk (k + 3) [c2] := o2.mono (by omega)
    refine ⟨c2, ?_, oE⟩
    have f : F__law_far_right (.o 0 :: [Da.tup (l.map kd), Da.int lo].map D.v) [c] = .ok (.v (.bl true)) [c2] := by
      refine run_pail (T := []) hp oE rfl ?_
      rw [fr_eq]
      show sSeq fr0 _ (FR (.tup (l.map kd)) lo none none none none none none none) [c] = _
      rw [seq_nx e0, seq_nx e1, seq_nx e2, seq_nx e3, s_seq, e4]
      rfl
    exact call_pail (ps := [.tup (l.map kd), .int lo]) (T := T0) hp oE rfl f
  · have pos : 0 < (lfs l lo (lo + 359)).length := List.length_pos_iff.mpr em
    obtain ⟨p, c3, f3, p0, p1, o3⟩ := dipc o2 (by omega) (m := (lfs l lo (lo + 359)).length) (by omega) (by omega) []
    have g := get_own p0 p1
    have i1 := ith_of (P := left l) (lo := lo) (hi := lo + 359) g
    have i2 := ith_far (P := left l) (M := 360) (by omega) per i1.1 (by have := i1.2; omega) t
    rw [← ow] at i2
    have s6 : Sp lo (lo + 360 * t + 359) := ⟨by omega, by omega, by omega⟩
    have cl6 := fun S => nth_left_i h s6 i2 (by have := i1.2; omega) (S := S)
    have cs6 : ((t * (lfs l lo (lo + 359)).length + p.toNat : Nat) : Int) = (t : Int) * ((lfs l lo (lo + 359)).length : Int) + p := by
      rw [Int.natCast_add, Int.natCast_mul, Int.toNat_of_nonneg p0]
    rw [cs6] at cl6
    have g0 := get_own (own := lfs l lo (lo + 359)) (p := 0) (by omega) (by omega)
    have i0 := ith_of (P := left l) (lo := lo) (hi := lo + 359) g0
    have cl7 := fun S => least_left_i h (lo := lo) (hi := 1000000000000000000000000000000) ⟨by omega, by omega, by omega⟩ i0.1 (by have := i0.2; omega) (S := S)
    have e4 : fr4 (FR (.tup (l.map kd)) lo (some (.v (.lst ((lfs l lo (lo + 359)).map Da.int)))) (some (.v (.int ((t : Int) * ((lfs l lo (lo + 359)).length : Int) + (((lfs l lo (lo + 359)).filter fun x => decide (x < lo + m)).length : Int))))) none none (some (.v (.int t))) (some (.v (.int m))) none) [c2] =
        .nx (FR (.tup (l.map kd)) lo (some (.v (.lst ((lfs l lo (lo + 359)).map Da.int)))) (some (.v (.int ((t : Int) * ((lfs l lo (lo + 359)).length : Int) + (((lfs l lo (lo + 359)).filter fun x => decide (x < lo + m)).length : Int))))) none none (some (.v (.int t))) (some (.v (.int m))) none) [c2] := by
      cases q : lfs l lo (lo + 359) with
      | nil => exact absurd q em
      | cons x r => exact fr_4s
    have e5 := fr_5 (A := .tup (l.map kd)) (lo := lo) (own := lfs l lo (lo + 359)) (a := some (.v (.int ((t : Int) * ((lfs l lo (lo + 359)).length : Int) + (((lfs l lo (lo + 359)).filter fun x => decide (x < lo + m)).length : Int))))) (b := none) (c := none) (d := some (.v (.int t))) (e := some (.v (.int m))) (f := none) f3
    have e6 := fr_6 (A := .tup (l.map kd)) (lo := lo) (t := t) (p := p) (own := lfs l lo (lo + 359)) (a := some (.v (.int ((t : Int) * ((lfs l lo (lo + 359)).length : Int) + (((lfs l lo (lo + 359)).filter fun x => decide (x < lo + m)).length : Int))))) (c := none) (e := some (.v (.int m))) (f := none) (S := [c3]) (by omega) tb cl6
    have e7 := fr_7 (A := .tup (l.map kd)) (lo := lo) (t := t) (p := p) (own := lfs l lo (lo + 359)) (a := some (.v (.int ((t : Int) * ((lfs l lo (lo + 359)).length : Int) + (((lfs l lo (lo + 359)).filter fun x => decide (x < lo + m)).length : Int))))) (e := some (.v (.int m))) (f := none) (S := [c3]) ⟨p0, p1⟩ tb rfl rfl cl7
    have oE : PailOk (k + 3) [c3] := o3.mono (by omega)
    refine ⟨c3, ?_, oE⟩
    have f : F__law_far_right (.o 0 :: [Da.tup (l.map kd), Da.int lo].map D.v) [c] = .ok (.v (.bl true)) [c3] := by
      refine run_pail (T := []) hp oE rfl ?_
      rw [fr_eq]
      show sSeq fr0 _ (FR (.tup (l.map kd)) lo none none none none none none none) [c] = _
      rw [seq_nx e0, seq_nx e1, seq_nx e2, seq_nx e3, seq_nx e4, seq_nx e5, seq_nx e6, e7]
      rfl
    exact call_pail (ps := [.tup (l.map kd), .int lo]) (T := T0) hp oE rfl f
end M76
end
section
variable [FL.TabsOf]
namespace M76
open PySem FL RL L2
theorem okA_mk {l : As} (h : ∀ a ∈ l, OkF 2520 a.1) (hl : l.length ≤ 12) : OkA 2520 l := ⟨by decide, ap2520, by omega, Nat.le_trans (List.length_filter_le _ _) (by omega), h⟩
theorem filter_two {p q : Int → Bool} : ∀ L : List Int, (L.filter fun x => p x && q x).length + (L.filter fun x => p x && !q x).length = (L.filter p).length
  | [] => rfl
  | x :: L => by
    have ih := filter_two (p := p) (q := q) L
    rw [List.filter_cons, List.filter_cons, List.filter_cons]
    cases p x <;> cases q x <;> simp <;> omega
theorem left_more (l : As) (f : Fa) (u : Bool) (x : Int) : left (l ++ [(f, u)]) x = (left l x && (decide (ft f x) == u)) := by
  unfold left
  rw [List.all_append]
  simp [okA]
theorem parted_len (l : As) (f : Fa) (lo hi : Int) : (lfs (l ++ [(f, true)]) lo hi).length + (lfs (l ++ [(f, false)]) lo hi).length = (lfs l lo hi).length := by
  have e1 : lfs (l ++ [(f, true)]) lo hi = (spn lo hi).filter fun x => left l x && decide (ft f x) := by
    unfold lfs
    exact List.filter_congr fun x _ => by rw [left_more]; cases decide (ft f x) <;> simp
  have e2 : lfs (l ++ [(f, false)]) lo hi = (spn lo hi).filter fun x => left l x && !decide (ft f x) := by
    unfold lfs
    exact List.filter_congr fun x _ => by rw [left_more]; cases decide (ft f x) <;> simp
  rw [e1, e2]
  exact filter_two (spn lo hi)
abbrev PR (A : Da) (lo hi : Int) (base rest first second : Option D) : Rho := [some (.o 0), some (.v A), some (.v (.int lo)), some (.v (.int hi)), base, rest, first, second]
theorem pr_2 {l : As} {lo hi r b : Int} {x y : Option D} {S : List Cell} (hl : l.length ≤ 1000) :
    qr_2 (PR (.tup (l.map kd)) lo hi (some (.v (.int b))) (some (.v (.int r))) x y) S = .nx (PR (.tup (l.map kd)) lo hi (some (.v (.int b))) (some (.v (.int r))) (some (.v (.tup ((l ++ [((r, b), true)]).map kd)))) (some (.v (.tup ((l ++ [((r, b), false)]).map kd))))) S := by
  have c : ∀ u : Bool, addP (.tup (l.map kd)) (.tup [.tup [.int r, .int b, .bl u]]) = some (.tup ((l ++ [((r, b), u)]).map kd)) := fun u => by
    rw [cat_tup (by rw [List.length_map]; simp; omega), List.map_append]
    rfl
  have c1 := c true
  have c2 := c false
  generalize (l ++ [((r, b), true)]).map kd = L1 at *
  generalize (l ++ [((r, b), false)]).map kd = L2 at *
  generalize l.map kd = L at *
  simp [qr_2, PR, c1, c2]
theorem pr_3 {A B C : Da} {lo hi m n k : Int} {x y : Option D} {S : List Cell} (c1 : ∀ S, callF 3 F_count_left [.v B, .v (.int lo), .v (.int hi)] S = .ok (.v (.int m)) S) (c2 : ∀ S, callF 3 F_count_left [.v C, .v (.int lo), .v (.int hi)] S = .ok (.v (.int n)) S)
    (c3 : ∀ S, callF 3 F_count_left [.v A, .v (.int lo), .v (.int hi)] S = .ok (.v (.int k)) S) (e : m + n = k) : qr_3 (PR A lo hi x y (some (.v B)) (some (.v C))) S = .rt (.v (.bl true)) S := by
  simp [qr_3, PR, c1, c2, c3, e, bD]
theorem parted_right_i {k : Nat} {c : Cell} (hp : PailOk k [c]) (hk : k ≤ 500000) {l : As} (hs : ∀ a ∈ l, OkF 2520 a.1) (hl : l.length ≤ 6) {lo hi : Int} (s : Sp lo hi) (T0 : List Cell) :
    ∃ c', callF 4 F__law_parted_right [.o 0, .v (.tup (l.map kd)), .v (.int lo), .v (.int hi)] (c :: T0) = .ok (.v (.bl true)) (c' :: T0) ∧ PailOk (k + 2) [c'] := by
  obtain ⟨z, c1, f1, mz, o1⟩ := ofc hp (by omega) (ts := [1, 2, 5, 7, 12].map Da.int) (by decide) (by decide) []
  obtain ⟨b, hb, rfl⟩ := List.mem_map.mp mz
  have b2 : 1 ≤ b ∧ b ≤ 12 ∧ b ∣ 2520 := by
    have : ∀ b ∈ ([1, 2, 5, 7, 12] : List Int), 1 ≤ b ∧ b ≤ 12 ∧ b ∣ 2520 := by decide
    exact this b hb
  obtain ⟨r, c2, f2, r0, r1, o2⟩ := dipc o1 (by omega) (m := b) (by omega) (by omega) []
  have ok : ∀ u : Bool, OkA 2520 (l ++ [((r, b), u)]) := fun u => okA_mk (fun a ha => by
    rcases List.mem_append.mp ha with h | h
    · exact hs a h
    · rw [List.mem_singleton.mp h]
      exact ⟨⟨r0, r1⟩, b2.2.2⟩) (by rw [List.length_append]; simp; omega)
  have ok0 : OkA 2520 l := okA_mk hs (by omega)
  have e0 : qr_0 (PR (.tup (l.map kd)) lo hi none none none none) [c] = .nx (PR (.tup (l.map kd)) lo hi (some (.v (.int b))) none none none) [c1] := by
    have f1' : callF 2 F__law_of [.o 0, .v (.lst [.int 1, .int 2, .int 5, .int 7, .int 12])] [c] = .ok (.v (.int b)) [c1] := f1
    generalize l.map kd = L at *
    simp [qr_0, PR, f1']
  have e1 : qr_1 (PR (.tup (l.map kd)) lo hi (some (.v (.int b))) none none none) [c1] = .nx (PR (.tup (l.map kd)) lo hi (some (.v (.int b))) (some (.v (.int r))) none none) [c2] := by
    generalize l.map kd = L at *
    simp [qr_1, PR, f2]
  have e2 := pr_2 (l := l) (lo := lo) (hi := hi) (r := r) (b := b) (x := none) (y := none) (S := [c2]) (by omega)
  have pl := parted_len l (r, b) lo hi
  have e3 := pr_3 (A := .tup (l.map kd)) (B := .tup ((l ++ [((r, b), true)]).map kd)) (C := .tup ((l ++ [((r, b), false)]).map kd)) (lo := lo) (hi := hi) (x := some (.v (.int b))) (y := some (.v (.int r))) (S := [c2])
    (fun S => count_left_i (ok true) s (S := S)) (fun S => count_left_i (ok false) s (S := S)) (fun S => count_left_i ok0 s (S := S)) (by omega)
  have oE : PailOk (k + 2) [c2] := o2.mono (by omega)
  refine ⟨c2, ?_, oE⟩
  have f : F__law_parted_right (.o 0 :: [Da.tup (l.map kd), Da.int lo, Da.int hi].map D.v) [c] = .ok (.v (.bl true)) [c2] := by
    refine run_pail (T := []) hp oE rfl ?_
    rw [qr__eq]
    show sSeq qr_0 _ (PR (.tup (l.map kd)) lo hi none none none none) [c] = _
    rw [seq_nx e0, seq_nx e1, seq_nx e2, e3]
    rfl
  exact call_pail (ps := [.tup (l.map kd), .int lo, .int hi]) (T := T0) hp oE rfl f
end M76
end
section
variable [FL.TabsOf]
namespace M76
open PySem FL RL L2
def onT (l : As) : As := l.filter (·.2)
def onF (l : As) : As := l.filter (!·.2)
def lam (l : As) : List Fa := (onF l).map (·.1)
theorem tru_on (l : As) : tru l = (onT l).map (·.1) := rfl
theorem left_T (l : As) (x : Int) : left (onT l) x = (tru l).all fun f => decide (ft f x) := by
  unfold left tru onT
  rw [List.all_map]
  refine Bool.eq_iff_iff.mpr ?_
  rw [List.all_eq_true, List.all_eq_true]
  have e : ∀ a ∈ l.filter (·.2), okA a x = decide (ft a.1 x) := fun a ha => by
    have h := (List.mem_filter.mp ha).2
    unfold okA
    rw [h]
    simp
  exact ⟨fun g a ha => by show decide (ft a.1 x) = true; rw [← e a ha]; exact g a ha, fun g a ha => by rw [e a ha]; exact g a ha⟩
theorem left_F (l : As) (x : Int) : left (onF l) x = dk (lam l) x := by
  unfold left dk lam onF
  rw [List.all_map]
  refine Bool.eq_iff_iff.mpr ?_
  rw [List.all_eq_true, List.all_eq_true]
  have e : ∀ a ∈ l.filter (!·.2), okA a x = !decide (ft a.1 x) := fun a ha => by
    have h := (List.mem_filter.mp ha).2
    have h2 : a.2 = false := by simpa using h
    unfold okA
    rw [h2]
    cases decide (ft a.1 x) <;> rfl
  exact ⟨fun g a ha => by show (!decide (ft a.1 x)) = true; rw [← e a ha]; exact g a ha, fun g a ha => by rw [e a ha]; exact g a ha⟩
theorem lfs_F (l : As) (lo hi : Int) : lfs (onF l) lo hi = sat (dk (lam l)) lo hi := by
  unfold lfs sat
  exact List.filter_congr fun x _ => left_F l x
theorem fit_len {g : Fa} (hg : Gd g) {P : Int → Bool} (h : ∀ x, ft g x ↔ P x = true) {lo hi : Int} (hl : lo ≤ hi + 1) : cnt g lo hi = ((sat P lo hi).length : Int) := by
  have e := cw_len (W := [(g, 1)]) (fun p hp => by rw [List.mem_singleton.mp hp]; exact hg.pos) (P := P) (fun x => by
    by_cases c : ft g x
    · simp [wt, c, (h x).mp c]
    · have c' : ¬ P x = true := fun z => c ((h x).mpr z)
      simp [wt, c, c']) (lo := lo) (hi := hi) hl
  have e2 : cw [(g, 1)] lo hi = cnt g lo hi := by simp [cw]
  rw [e2] at e
  exact e
theorem fit_ith {g : Fa} (hg : Gd g) {P : Int → Bool} (h : ∀ x, ft g x ↔ P x = true) (lo : Int) (k : Nat) : Ith P lo k (lo + (g.1 - lo) % g.2 + k * g.2) := by
  have n0 := hg.pos
  have per : ∀ x, P (x + g.2) = P x := fun x => by
    have q : ft g (x + g.2) ↔ ft g x := by
      unfold ft
      constructor
      · intro z
        have := Int.dvd_sub z (Int.dvd_refl g.2)
        rwa [show x + g.2 - g.1 - g.2 = x - g.1 by omega] at this
      · intro z
        have := Int.dvd_add z (Int.dvd_refl g.2)
        rwa [show x - g.1 + g.2 = x + g.2 - g.1 by omega] at this
    have b : P (x + g.2) = true ↔ P x = true := ((h _).symm.trans q).trans (h x)
    exact Bool.eq_iff_iff.mpr b
  have r0 := Int.emod_nonneg (g.1 - lo) (by omega : g.2 ≠ 0)
  have r1 := Int.emod_lt_of_pos (g.1 - lo) n0
  have dv : g.2 ∣ lo + (g.1 - lo) % g.2 - g.1 := by
    have e := Int.mul_ediv_add_emod (g.1 - lo) g.2
    exact ⟨-((g.1 - lo) / g.2), by rw [Int.mul_neg]; omega⟩
  have first : Ith P lo 0 (lo + (g.1 - lo) % g.2) := by
    refine ⟨by omega, (h _).mp dv, List.length_eq_zero_iff.mpr (List.filter_eq_nil_iff.mpr fun z hz bad => ?_)⟩
    have hz' := spn_mem.mp hz
    have d2 : g.2 ∣ z - g.1 := (h z).mpr bad
    have d3 := Int.dvd_sub dv d2
    have d4 : g.2 ∣ lo + (g.1 - lo) % g.2 - z := by
      rwa [show lo + (g.1 - lo) % g.2 - g.1 - (z - g.1) = lo + (g.1 - lo) % g.2 - z by omega] at d3
    have := Int.le_of_dvd (by omega) d4
    omega
  have one : (sat P lo (lo + g.2 - 1)).length = 1 := by
    have e := fit_len hg h (lo := lo) (hi := lo + g.2 - 1) (by omega)
    have e2 : cnt g lo (lo + g.2 - 1) = 1 := by
      unfold cnt
      rw [show lo + g.2 - 1 - g.1 = lo - 1 - g.1 + g.2 * 1 by omega, Int.add_mul_ediv_left _ _ (by omega : g.2 ≠ 0)]
      omega
    omega
  have f := ith_far n0 per first (by omega) k
  rw [one, Nat.mul_one, Nat.add_zero, Int.mul_comm g.2] at f
  exact f
abbrev KR (A : Da) (lo hi : Int) (right lamps wrong first due some_ ask : Option D) : Rho := [some (.v A), some (.v (.int lo)), some (.v (.int hi)), right, lamps, wrong, first, due, some_, ask]
def b2 : Da → Bool
  | .tup [_, _, .bl b] => b
  | _ => false
def cut2 : Da → Da
  | .tup (a :: b :: _) => .tup [a, b]
  | _ => .non
theorem k_lc1 {l : As} (hl : l.length ≤ 1000) {lo hi : Int} {a b c d e f : Option D} {S : List Cell} :
    eLc (iSeq (eVar 0)) (.nm 9) (eTru (eOp2 ixP (eVar 9) (eC (.int 2)))) (eVar 9) [9] (KR (.tup (l.map kd)) lo hi a b c d e f none) S = .ok (.v (.lst ((onT l).map kd))) S := by
  rw [lc_pure (S1 := S) (l := l.map kd) b2 id rfl (by rw [List.length_map]; omega) (fun d hd => ?_)]
  · congr 3
    rw [List.map_id, List.filter_map]
    rfl
  · obtain ⟨q, _, rfl⟩ := List.mem_map.mp hd
    refine ⟨_, rfl, ?_, fun _ => rfl⟩
    have h : ixP (kd q) (.int 2) = some (.bl q.2) := by simp [kd]
    simp [h]
    rfl
theorem kr_0 {l : As} (hl : l.length ≤ 1000) {lo hi : Int} {b c d e f : Option D} {S : List Cell} : kr0 (KR (.tup (l.map kd)) lo hi none b c d e f none) S = .nx (KR (.tup (l.map kd)) lo hi (some (.v (.tup ((onT l).map kd)))) b c d e f none) S := by
  have lc := k_lc1 hl (lo := lo) (hi := hi) (a := none) (b := b) (c := c) (d := d) (e := e) (f := f) (S := S)
  unfold kr0
  generalize eLc (iSeq (eVar 0)) (.nm 9) (eTru (eOp2 ixP (eVar 9) (eC (.int 2)))) (eVar 9) [9] = LC at *
  have tp : ∀ L : List Da, tupleP [.lst L] = some (.tup L) := fun _ => rfl
  generalize l.map kd = L at *
  generalize (onT l).map kd = L2 at *
  simp [KR, lc, tp]
theorem k_lc2 {l : As} (hl : l.length ≤ 1000) {A : Da} {lo hi : Int} {b c d e f : Option D} {S : List Cell} :
    eLc (iSeq (eVar 3)) (.nm 9) eYes (eSl (eVar 9) oNone (oSome (eC (.int 2)))) [9] (KR A lo hi (some (.v (.tup (l.map kd)))) b c d e f none) S = .ok (.v (.lst ((l.map (·.1)).map pd))) S := by
  rw [lc_pure (S1 := S) (l := l.map kd) (fun _ => true) cut2 rfl (by rw [List.length_map]; omega) (fun d hd => ?_)]
  · congr 3
    rw [List.filter_eq_self.mpr (fun _ _ => rfl), List.map_map, List.map_map]
    rfl
  · obtain ⟨q, _, rfl⟩ := List.mem_map.mp hd
    refine ⟨[some (.v A), some (.v (.int lo)), some (.v (.int hi)), some (.v (.tup (l.map kd))), b, c, _, e, f, some (.v (kd q))], rfl, rfl, fun _ => ?_⟩
    have h := kd_take q
    have r : cut2 (kd q) = pd q.1 := rfl
    rw [r]
    simp [eSl, oNone, oSome, h]
end M76
end
section
variable [FL.TabsOf]
namespace M76
open PySem FL RL L2
theorem tp (L : List Da) : tupleP [.lst L] = some (.tup L) := rfl
theorem kr_1 {l : As} (hl : l.length ≤ 1000) {A : Da} {lo hi n : Int} {b c d e f : Option D} {S : List Cell} (cl : ∀ S, callF 3 F_count_left [.v (.tup (l.map kd)), .v (.int lo), .v (.int hi)] S = .ok (.v (.int n)) S) :
    kr1 (KR A lo hi (some (.v (.tup (l.map kd)))) b c d e f none) S = .nx (KR A lo hi (some (.v (.tup (l.map kd)))) b c d (some (.v (.int n))) (some (.v (.tup ((l.map (·.1)).map pd)))) none) S := by
  have lc := k_lc2 hl (A := A) (lo := lo) (hi := hi) (b := b) (c := c) (d := d) (e := e) (f := f) (S := S)
  unfold kr1
  generalize eLc (iSeq (eVar 3)) (.nm 9) eYes (eSl (eVar 9) oNone (oSome (eC (.int 2)))) [9] = LC at *
  generalize (l.map (·.1)).map pd = L2 at *
  generalize l.map kd = L at *
  simp [KR, lc, tp, cl]
theorem k_lc3 {l : As} (hl : l.length ≤ 1000) {lo hi : Int} {a b c d e f : Option D} {S : List Cell} :
    eLc (iSeq (eVar 0)) (.nm 9) (eNotT (eTru (eOp2 ixP (eVar 9) (eC (.int 2))))) (eSl (eVar 9) oNone (oSome (eC (.int 2)))) [9] (KR (.tup (l.map kd)) lo hi a b c d e f none) S = .ok (.v (.lst ((lam l).map pd))) S := by
  rw [lc_pure (S1 := S) (l := l.map kd) (fun d => !b2 d) cut2 rfl (by rw [List.length_map]; omega) (fun d hd => ?_)]
  · congr 3
    rw [List.filter_map, List.map_map]
    unfold lam onF
    rw [List.map_map]
    rfl
  · obtain ⟨q, _, rfl⟩ := List.mem_map.mp hd
    have h : ixP (kd q) (.int 2) = some (.bl q.2) := by simp [kd]
    have h2 := kd_take q
    have r : cut2 (kd q) = pd q.1 := rfl
    have r2 : b2 (kd q) = q.2 := rfl
    refine ⟨[some (.v (.tup (l.map kd))), some (.v (.int lo)), some (.v (.int hi)), a, b, c, _, e, f, some (.v (kd q))], rfl, ?_, fun _ => ?_⟩
    · simp [h, r2]
    · rw [r]
      simp [eSl, oNone, oSome, h2]
theorem kr_3 {l : As} (hl : l.length ≤ 1000) {lo hi : Int} {a c d e f : Option D} {S : List Cell} : kr3 (KR (.tup (l.map kd)) lo hi a none c d e f none) S = .nx (KR (.tup (l.map kd)) lo hi a (some (.v (.tup ((lam l).map pd)))) c d e f none) S := by
  have lc := k_lc3 hl (lo := lo) (hi := hi) (a := a) (b := none) (c := c) (d := d) (e := e) (f := f) (S := S)
  unfold kr3
  generalize eLc (iSeq (eVar 0)) (.nm 9) (eNotT (eTru (eOp2 ixP (eVar 9) (eC (.int 2))))) (eSl (eVar 9) oNone (oSome (eC (.int 2)))) [9] = LC at *
  generalize (lam l).map pd = L2 at *
  generalize l.map kd = L at *
  simp [KR, lc, tp]
theorem k_lc4 {l : As} (hl : l.length ≤ 1000) {lo hi : Int} {a b c d e f : Option D} {S : List Cell} :
    eLc (iSeq (eVar 0)) (.nm 9) (eNotT (eTru (eOp2 ixP (eVar 9) (eC (.int 2))))) (eVar 9) [9] (KR (.tup (l.map kd)) lo hi a b c d e f none) S = .ok (.v (.lst ((onF l).map kd))) S := by
  rw [lc_pure (S1 := S) (l := l.map kd) (fun d => !b2 d) id rfl (by rw [List.length_map]; omega) (fun d hd => ?_)]
  · congr 3
    rw [List.map_id, List.filter_map]
    rfl
  · obtain ⟨q, _, rfl⟩ := List.mem_map.mp hd
    have h : ixP (kd q) (.int 2) = some (.bl q.2) := by simp [kd]
    have r2 : b2 (kd q) = q.2 := rfl
    refine ⟨_, rfl, ?_, fun _ => rfl⟩
    simp [h, r2]
    rfl
theorem kr_4 {l : As} (hl : l.length ≤ 1000) {lo hi : Int} {a b d e f : Option D} {S : List Cell} : kr4 (KR (.tup (l.map kd)) lo hi a b none d e f none) S = .nx (KR (.tup (l.map kd)) lo hi a b (some (.v (.tup ((onF l).map kd)))) d e f none) S := by
  have lc := k_lc4 hl (lo := lo) (hi := hi) (a := a) (b := b) (c := none) (d := d) (e := e) (f := f) (S := S)
  unfold kr4
  generalize eLc (iSeq (eVar 0)) (.nm 9) (eNotT (eTru (eOp2 ixP (eVar 9) (eC (.int 2))))) (eVar 9) [9] = LC at *
  generalize (onF l).map kd = L2 at *
  generalize l.map kd = L at *
  simp [KR, lc, tp]
/-- what is asked of the facts -/
theorem kr_2q {A R F : Da} {lo hi : Int} {b c d : Option D} {q : List Da} {S : List Cell} (hq : ∀ S, callF 1 F_quarrels [.v F] S = .ok (.v (.tup q)) S) (nn : neP (.tup q) (.tup []) = some true) :
    kr2 (KR A lo hi (some (.v R)) b c d (some (.v (.int 0))) (some (.v F)) none) S = .nx (KR A lo hi (some (.v R)) b c d (some (.v (.int 0))) (some (.v F)) none) S := by
  simp [kr2, KR, hq, nn]
theorem kr_2z {A R F : Da} {lo hi n : Int} {b c d : Option D} {q : List Da} {S : List Cell} (hq : ∀ S, callF 1 F_quarrels [.v F] S = .ok (.v (.tup q)) S) (nn : neP (.tup q) (.tup []) = some false) (ct : ∀ S, callF 3 F_count [.v F, .v (.int lo), .v (.int hi)] S = .ok (.v (.int n)) S)
    (nt : 0 < n → ∃ x, (∀ S, callF 4 F_nth_left [.v R, .v (.int lo), .v (.int hi), .v (.int (n - 1))] S = .ok (.v (.int x)) S) ∧ ∀ S, callF 3 F_nth [.v F, .v (.int lo), .v (.int (n - 1))] S = .ok (.v (.int x)) S) :
    kr2 (KR A lo hi (some (.v R)) b c d (some (.v (.int n))) (some (.v F)) none) S = .nx (KR A lo hi (some (.v R)) b c d (some (.v (.int n))) (some (.v F)) none) S := by
  by_cases p : 0 < n
  · obtain ⟨x, h1, h2⟩ := nt p
    simp [kr2, KR, hq, nn, ct, p, h1, h2]
  · simp [kr2, KR, hq, nn, ct, p]
theorem kr_5 {A W L : Da} {lo hi n : Int} {a d e f : Option D} {S : List Cell} (c1 : ∀ S, callF 3 F_count_left [.v W, .v (.int lo), .v (.int hi)] S = .ok (.v (.int n)) S) (c2 : ∀ S, callF 3 F_count_dark [.v L, .v (.int lo), .v (.int hi)] S = .ok (.v (.int n)) S) :
    kr5 (KR A lo hi a (some (.v L)) (some (.v W)) d e f none) S = .nx (KR A lo hi a (some (.v L)) (some (.v W)) d e f none) S := by
  simp [kr5, KR, c1, c2]
theorem kr_6 {A L x : Da} {lo hi : Int} {a c e f : Option D} {S : List Cell} (c1 : ∀ S, callF 2 F_dark_from [.v L, .v (.int lo)] S = .ok (.v x) S) : kr6 (KR A lo hi a (some (.v L)) c none e f none) S = .nx (KR A lo hi a (some (.v L)) c (some (.v x)) e f none) S := by
  simp [kr6, KR, c1]
/-- the end that is due -/
def dD (o : Option Int) (hi : Int) : Da := match o with
  | some y => if y ≤ hi then .lst [.str "told", .int y] else .lst [.str "none", .str ""]
  | none => .lst [.str "none", .str ""]
theorem kr_7 {A : Da} {lo hi : Int} {o : Option Int} {a b c e f : Option D} {S : List Cell} : kr7 (KR A lo hi a b c (some (.v (oD o))) e f none) S = .nx (KR A lo hi a b c (some (.v (oD o))) (some (.v (dD o hi))) f none) S := by
  cases o with
  | none =>
    have h : notNoneP .non .non = some false := rfl
    simp [kr7, KR, oD, dD, h]
  | some y =>
    have h : notNoneP (.int y) .non = some true := rfl
    by_cases c : y ≤ hi
    · simp [kr7, KR, oD, dD, h, c]
    · simp [kr7, KR, oD, dD, h, c]
theorem kr_8 {A W v : Da} {lo hi : Int} {a b d f : Option D} {S : List Cell} (hv : ∀ S, h__law_heard ((callF 3 F_least_left [.v W, .v (.int lo), .v (.int hi)] S).bind fun r S2 => .ok (rvD r) S2) = .ok (.v v) S) (e : eqP v v = some true) :
    kr8 (KR A lo hi a b (some (.v W)) d (some (.v v)) f none) S = .rt (.v (.bl true)) S := by
  simp [kr8, KR, hv, e, bD]
theorem due_same {l : As} (h360 : ∀ a ∈ l, Gd a.1 ∧ a.1.2 ∣ 360) (lo hi : Int) : dD (fdO (lam l) lo) hi = ltD (lfs (onF l) lo hi) := by
  have hl : ∀ f ∈ lam l, 0 < f.2 ∧ f.2 ∣ 360 := fun f hf => by
    unfold lam onF at hf
    obtain ⟨a, ha, rfl⟩ := List.mem_map.mp hf
    have := h360 a (List.mem_filter.mp ha).1
    exact ⟨this.1.pos, this.2⟩
  rw [lfs_F]
  have nil : (∀ y, lo ≤ y → y ≤ hi → dk (lam l) y = false) → ltD (sat (dk (lam l)) lo hi) = .lst [.str "none", .str ""] := fun h => by
    have : sat (dk (lam l)) lo hi = [] := List.filter_eq_nil_iff.mpr fun y hy => by
      have hy' := spn_mem.mp hy
      rw [h y hy'.1 hy'.2]
      exact Bool.false_ne_true
    rw [this]
    rfl
  cases e : fdO (lam l) lo with
  | none => exact (nil fun y hy _ => fdO_none hl e y hy).symm
  | some y =>
    have i := fdO_some e
    show (if y ≤ hi then _ else _) = _
    by_cases c : y ≤ hi
    · rw [if_pos c]
      unfold ltD
      rw [ith_get i c]
    · rw [if_neg c]
      refine (nil fun z h1 h2 => ?_).symm
      have := List.length_eq_zero_iff.mp i.below
      have no := List.filter_eq_nil_iff.mp this z (spn_mem.mpr ⟨h1, by omega⟩)
      simpa using no
theorem kin_right_i {l : As} (hs : ∀ a ∈ l, Small a.1) (hl : l.length ≤ 6) {lo hi : Int} (h1 : -1000 ≤ lo) (h2 : lo ≤ hi) (h3 : hi ≤ 1000) {S} : callF 3 F__law_kin_right [.v (.tup (l.map kd)), .v (.int lo), .v (.int hi)] S = .ok (.v (.bl true)) S := callF_3 (by
  have s : Sp lo hi := ⟨by omega, h2, by omega⟩
  have ok := small_asks hs (by omega)
  have lT : (onT l).length ≤ 6 := Nat.le_trans (List.length_filter_le _ _) hl
  have lF : (onF l).length ≤ 6 := Nat.le_trans (List.length_filter_le _ _) hl
  have sT : ∀ a ∈ onT l, Small a.1 := fun a ha => hs a (List.mem_filter.mp ha).1
  have sF : ∀ a ∈ onF l, Small a.1 := fun a ha => hs a (List.mem_filter.mp ha).1
  have okT := small_asks sT (by omega)
  have okF := small_asks sF (by omega)
  have hN : (0 : Int) < 2520 ∧ (2520 : Int) ≤ 2 ^ 60 := by decide
  have tf : ∀ f ∈ (onT l).map (·.1), OkF 2520 f := fun f hf => by obtain ⟨a, ha, rfl⟩ := List.mem_map.mp hf; exact okT.ok a ha
  have tl : ∀ f ∈ (onT l).map (·.1), LF f := fun f hf => by obtain ⟨a, ha, rfl⟩ := List.mem_map.mp hf; exact okT.lf a ha
  have ff : ∀ f ∈ lam l, OkF 2520 f := fun f hf => by obtain ⟨a, ha, rfl⟩ := List.mem_map.mp hf; exact okF.ok a ha
  have fl : ∀ f ∈ lam l, LF f := fun f hf => by obtain ⟨a, ha, rfl⟩ := List.mem_map.mp hf; exact okF.lf a ha
  have e0 := kr_0 (l := l) (by omega) (lo := lo) (hi := hi) (b := none) (c := none) (d := none) (e := none) (f := none) (S := [])
  have e1 := kr_1 (l := onT l) (by omega) (A := .tup (l.map kd)) (lo := lo) (hi := hi) (b := none) (c := none) (d := none) (e := none) (f := none) (S := []) (fun S => count_left_i okT s (S := S))
  have qi := fun S => quarrels_i (l := (onT l).map (·.1)) (by rw [List.length_map]; omega) tl (S := S)
  have qp := qps_pl ((onT l).map (·.1))
  have nn := ne_nilT qp.1 (by have := qp.2; omega)
  have e2 : kr2 (KR (.tup (l.map kd)) lo hi (some (.v (.tup ((onT l).map kd)))) none none none (some (.v (.int (lfs (onT l) lo hi).length))) (some (.v (.tup (((onT l).map (·.1)).map pd)))) none) [] = .nx (KR (.tup (l.map kd)) lo hi (some (.v (.tup ((onT l).map kd)))) none none none (some (.v (.int (lfs (onT l) lo hi).length))) (some (.v (.tup (((onT l).map (·.1)).map pd)))) none) [] := by
    by_cases z : qps ((onT l).map (·.1)) = []
    · have pw := qps_nil.mp z
      obtain ⟨g, hg⟩ := jn_pw all_gd (fun f hf => (tf f hf).gd) (fun f _ => all_qr f) pw
      obtain ⟨og, fg⟩ := joined_N tf hg
      have fit : ∀ x, ft g x ↔ left (onT l) x = true := fun x => by
        rw [fg x, left_T, tru_on, List.all_eq_true]
        exact ⟨fun h f hf => decide_eq_true (h f hf), fun h f hf => of_decide_eq_true (h f hf)⟩
      have ln := fit_len og.gd fit (lo := lo) (hi := hi) (by omega)
      rw [z] at nn
      rw [z] at qi
      refine kr_2z qi nn (fun S => ?_) fun p => ?_
      · have c := count_i hN (by rw [List.length_map]; omega) tf tl hg s (S := S)
        rw [ln] at c
        exact c
      · obtain ⟨k, hk⟩ : ∃ k : Nat, (lfs (onT l) lo hi).length = k + 1 := ⟨(lfs (onT l) lo hi).length - 1, by omega⟩
        have i := fit_ith og.gd fit lo k
        have few := lfs_len (onT l) lo hi
        have x2 : lo + (g.1 - lo) % g.2 + k * g.2 ≤ hi := by
          refine (ith_le i (y := hi)).mp ?_
          have : (sat (left (onT l)) lo hi).length = k + 1 := hk
          omega
        have e : ((lfs (onT l) lo hi).length : Int) - 1 = k := by omega
        refine ⟨lo + (g.1 - lo) % g.2 + k * g.2, fun S => ?_, fun S => ?_⟩
        · rw [e]
          exact nth_left_i okT s i x2
        · rw [e]
          exact nth_i hN (by rw [List.length_map]; omega) tf tl hg (by omega) (by omega) (by omega) (by omega)
    · have n0 : (lfs (onT l) lo hi) = [] := by
        cases q : lfs (onT l) lo hi with
        | nil => rfl
        | cons x r =>
          exfalso
          have mem : x ∈ lfs (onT l) lo hi := by rw [q]; exact List.mem_cons_self
          have lx : left (onT l) x = true := (sat_mem.mp mem).2
          rw [left_T, tru_on, List.all_eq_true] at lx
          exact z (qps_nil.mpr (List.pairwise_iff_forall_sublist.mpr fun {a b} hab => qr_none (of_decide_eq_true (lx a (hab.subset List.mem_cons_self))) (of_decide_eq_true (lx b (hab.subset (List.mem_cons_of_mem _ List.mem_cons_self))))))
      have ne : neP (.tup (qps ((onT l).map (·.1)))) (.tup []) = some true := by
        rw [nn]
        cases q : qps ((onT l).map (·.1)) with
        | nil => exact absurd q z
        | cons a r => rfl
      rw [n0]
      exact kr_2q qi ne
  have e3 := kr_3 (l := l) (by omega) (lo := lo) (hi := hi) (a := some (.v (.tup ((onT l).map kd)))) (c := none) (d := none) (e := some (.v (.int (lfs (onT l) lo hi).length))) (f := some (.v (.tup (((onT l).map (·.1)).map pd)))) (S := [])
  have e4 := kr_4 (l := l) (by omega) (lo := lo) (hi := hi) (a := some (.v (.tup ((onT l).map kd)))) (b := some (.v (.tup ((lam l).map pd)))) (d := none) (e := some (.v (.int (lfs (onT l) lo hi).length))) (f := some (.v (.tup (((onT l).map (·.1)).map pd)))) (S := [])
  have c5 := fun S => count_left_i okF s (S := S)
  rw [lfs_F] at c5
  have e5 := kr_5 (A := .tup (l.map kd)) (W := .tup ((onF l).map kd)) (L := .tup ((lam l).map pd)) (lo := lo) (hi := hi) (a := some (.v (.tup ((onT l).map kd)))) (d := none) (e := some (.v (.int (lfs (onT l) lo hi).length))) (f := some (.v (.tup (((onT l).map (·.1)).map pd)))) (S := []) c5
    (fun S => count_dark_i hN (by unfold lam; rw [List.length_map]; omega) ff fl s (S := S))
  have e6 := kr_6 (A := .tup (l.map kd)) (L := .tup ((lam l).map pd)) (x := oD (fdO (lam l) lo)) (lo := lo) (hi := hi) (a := some (.v (.tup ((onT l).map kd)))) (c := some (.v (.tup ((onF l).map kd)))) (e := some (.v (.int (lfs (onT l) lo hi).length))) (f := some (.v (.tup (((onT l).map (·.1)).map pd)))) (S := [])
    (fun S => dark_from_i (by unfold lam; rw [List.length_map]; omega) fl (by omega) (by omega) (S := S))
  have e7 := kr_7 (A := .tup (l.map kd)) (lo := lo) (hi := hi) (o := fdO (lam l) lo) (a := some (.v (.tup ((onT l).map kd)))) (b := some (.v (.tup ((lam l).map pd)))) (c := some (.v (.tup ((onF l).map kd)))) (e := some (.v (.int (lfs (onT l) lo hi).length))) (f := some (.v (.tup (((onT l).map (·.1)).map pd)))) (S := [])
  rw [due_same (fun a ha => ⟨(hs a ha).ok.gd, (hs a ha).ok.dv⟩)] at e7
  have e8 := kr_8 (A := .tup (l.map kd)) (W := .tup ((onF l).map kd)) (v := ltD (lfs (onF l) lo hi)) (lo := lo) (hi := hi) (a := some (.v (.tup ((onT l).map kd)))) (b := some (.v (.tup ((lam l).map pd)))) (d := some (.v (oD (fdO (lam l) lo)))) (f := some (.v (.tup (((onT l).map (·.1)).map pd)))) (S := []) (fun S => heard_l okF s (S := S)) (lt_same _).2
  unfold F__law_kin_right
  refine run_rt rfl ?_
  rw [kr_eq]
  show sSeq kr0 _ (KR (.tup (l.map kd)) lo hi none none none none none none none) [] = _
  rw [seq_nx e0, seq_nx e1, seq_nx e2, seq_nx e3, seq_nx e4, seq_nx e5, seq_nx e6, seq_nx e7, e8])
end M76
end
section
variable [FL.TabsOf]
namespace M76
open PySem FL RL L2
theorem lcLoop_st {T : Tg} {t : EM Bool} {f : EM D} {ρ : Rho} (P : Nat → List Cell → Prop) (Q : Da → Prop) : ∀ (l : List Da) (i : Nat) (S : List Cell) (acc : List Da), P i S → (∀ d ∈ l, ∀ j S, j < i + l.length → P j S → ∃ ρ1, tgSet T d ρ = some ρ1 ∧ t ρ1 S = .ok true S ∧ ∃ r S', f ρ1 S = .ok (.v r) S' ∧ P (j + 1) S' ∧ Q r) →
    ∃ res S', lcLoop T t f l ρ S acc = .ok (acc ++ res) S' ∧ res.length = l.length ∧ (∀ r ∈ res, Q r) ∧ P (i + l.length) S'
  | [], i, S, acc, p, h => ⟨[], S, by simp [lcLoop], rfl, (fun _ h => (by cases h)), p⟩
  | d :: l, i, S, acc, p, h => by
    obtain ⟨ρ1, h1, h2, r, S1, h3, p1, q⟩ := h d List.mem_cons_self i S (by rw [List.length_cons]; omega) p
    obtain ⟨res, S', e, hl, hq, p'⟩ := lcLoop_st P Q l (i + 1) S1 (acc ++ [r]) p1 fun d hd j S hj => h d (List.mem_cons_of_mem _ hd) j S (by rw [List.length_cons]; omega)
    refine ⟨r :: res, S', ?_, by rw [List.length_cons, List.length_cons, hl], fun x hx => ?_, by rw [List.length_cons, show i + (l.length + 1) = i + 1 + l.length by omega]; exact p'⟩
    · unfold lcLoop
      rw [h1]
      simp only [h2, if_true, h3]
      rw [e]
      simp
    · rcases List.mem_cons.mp hx with rfl | hx
      · exact q
      · exact hq x hx
def gt (row : List Int) (i : Nat) : Int := row.getD i 0
theorem at_row {row : List Int} {i : Nat} (h : i < row.length) : L2.atI (row.map Da.int) (i : Int) = some (.int (gt row i)) := by
  unfold L2.atI L2.ixN
  rw [List.length_map, if_pos (by omega), if_pos (by omega)]
  simp [gt, List.getElem?_eq_getElem h]
theorem r1_ok {a : EM (List D)} {ρ : Rho} {S S1 : List Cell} {j : Int} (h : a ρ S = .ok [.v (.int j)] S1) (h2 : smallI j = true) : iRange1 a ρ S = .ok (rngD 0 j.toNat) S1 := by
  rw [s_r1, h, b_ok]
  show (if smallI j = true then _ else _) = _
  rw [h2]
  rfl
abbrev LR (t a lo hi : Option D) : Rho := [some (.o 0), t, a, lo, hi]
theorem lr_if {F G : Fn} {A B : EM (List D)} {ρ : Rho} {S S1 S2 : List Cell} {ds es : List D} (ha : A ρ S = .ok ds S) (hv : callF 4 F ds S = .ok (.v (.bl true)) S1) (hb : B ρ S1 = .ok es S1) (hw : callF 3 G es S1 = .ok (.v (.bl true)) S2) : sIf (eOrT (eNotT (eTru (eCall 4 F A))) (eNotT (eTru (eCall 3 G B)))) (sRet (eC (.bl false))) sNext ρ S = .nx ρ S2 := by
  simp [ha, hv, hb, hw]
theorem bs_eval {ρ : Rho} {S : List Cell} (h0 : ρ[0]? = some (some (.o 0))) : (aCons (eVar 0) (aCons (eC (.int 6)) (aCons (eLst (aCons (eC (.int 1)) (aCons (eC (.int 2)) (aCons (eC (.int 3)) (aCons (eC (.int 4)) (aCons (eC (.int 5)) (aCons (eC (.int 6)) (aCons (eC (.int 8)) (aCons (eC (.int 9)) (aCons (eC (.int 10)) (aCons (eC (.int 12)) (aCons (eC (.int 18)) (aCons (eC (.int 20)) aNil))))))))))))) aNil))) ρ S = .ok [.o 0, .v (.int 6), .v bsD] S := by
  simp [h0, bsL]
theorem lr_step {k : Nat} {c : Cell} (hp : PailOk k [c]) (hk : k ≤ 400000) {t a lo hi : Option D} : ∃ (a' lo' hi' : Option D) (c' : Cell), lr0B (LR t a lo hi) [c] = .nx (LR t a' lo' hi') [c'] ∧ PailOk (k + 80) [c'] := by
  obtain ⟨l, c1, e1, ll, ls, o1⟩ := asks_i hp (by omega) []
  obtain ⟨u, c2, e2, u0, u1, o2⟩ := dipc o1 (by omega) (m := 400) (by omega) (by omega) []
  obtain ⟨y, c3, e3, my, o3⟩ := ofc o2 (by omega) (ts := [.int 1, .int 9, .int 60, .int 200]) (by decide) (by decide) []
  obtain ⟨m, rfl, hm⟩ : ∃ m : Int, y = .int m ∧ 1 ≤ m ∧ m ≤ 200 := by
    simp only [List.mem_cons, List.not_mem_nil, or_false] at my
    rcases my with rfl | rfl | rfl | rfl <;> exact ⟨_, rfl, by omega⟩
  obtain ⟨w, c4, e4, w0, w1, o4⟩ := dipc o3 (by omega) (m := m) (by omega) (by omega) []
  have s : Sp (u - 200) (u - 200 + w) := ⟨by omega, by omega, by omega⟩
  have ok := small_asks ls (by omega)
  obtain ⟨c5, e5, o5⟩ := near_right_i o4 (by omega) ok (lo := u - 200) (hi := u - 200 + w) (by omega) (by omega) (by omega) (by omega) []
  obtain ⟨c6, e6, o6⟩ := far_right_i o5 (by omega) ok (fun a ha => (ls a ha).ok.dv) (lo := u - 200) (by omega) (by omega) []
  obtain ⟨c7, e7, o7⟩ := parted_right_i o6 (by omega) ok.ok ll s []
  have e8 := kin_right_i ls ll (lo := u - 200) (hi := u - 200 + w) (by omega) (by omega) (by omega) (S := [c7])
  refine ⟨some (.v (.tup (l.map kd))), some (.v (.int (u - 200))), some (.v (.int (u - 200 + w))), c7, ?_, o7.mono (by omega)⟩
  have q0 : lr0b0 (LR t a lo hi) [c] = .nx (LR t (some (.v (.tup (l.map kd)))) lo hi) [c1] := by
    unfold lr0b0
    rw [s_set, s_call, bs_eval rfl, b_ok, e1]
    rfl
  have q1 : lr0b1 (LR t (some (.v (.tup (l.map kd)))) lo hi) [c1] = .nx (LR t (some (.v (.tup (l.map kd)))) (some (.v (.int (u - 200)))) hi) [c2] := by
    generalize l.map kd = L at *
    simp [lr0b1, e2]
  have q2 : lr0b2 (LR t (some (.v (.tup (l.map kd)))) (some (.v (.int (u - 200)))) hi) [c2] = .nx (LR t (some (.v (.tup (l.map kd)))) (some (.v (.int (u - 200)))) (some (.v (.int (u - 200 + w))))) [c4] := by
    generalize l.map kd = L at *
    simp [lr0b2, e3, e4]
  have q3 : lr0b3 (LR t (some (.v (.tup (l.map kd)))) (some (.v (.int (u - 200)))) (some (.v (.int (u - 200 + w))))) [c4] = .nx (LR t (some (.v (.tup (l.map kd)))) (some (.v (.int (u - 200)))) (some (.v (.int (u - 200 + w))))) [c6] := by
    unfold lr0b3
    exact lr_if rfl e5 rfl e6
  have q4 : lr0b4 (LR t (some (.v (.tup (l.map kd)))) (some (.v (.int (u - 200)))) (some (.v (.int (u - 200 + w))))) [c6] = .nx (LR t (some (.v (.tup (l.map kd)))) (some (.v (.int (u - 200)))) (some (.v (.int (u - 200 + w))))) [c7] := by
    unfold lr0b4
    exact lr_if rfl e7 rfl e8
  unfold lr0B
  rw [seq_nx q0, seq_nx q1, seq_nx q2, seq_nx q3, q4]
theorem lr_loop {k : Nat} (hk : k ≤ 300000) : ∀ (ds : List Da) (j : Nat) (c : Cell) (t a lo hi : Option D), PailOk (k + 80 * j) [c] → j + ds.length ≤ 100 →
    ∃ (t' a' lo' hi' : Option D) (c' : Cell), fLoop (.nm 1) lr0B ds (LR t a lo hi) [c] = .nx (LR t' a' lo' hi') [c'] ∧ PailOk (k + 80 * (j + ds.length)) [c']
  | [], j, c, t, a, lo, hi, hp, _ => ⟨t, a, lo, hi, c, rfl, hp⟩
  | d :: ds, j, c, t, a, lo, hi, hp, hl => by
    rw [List.length_cons] at hl
    obtain ⟨a', lo', hi', c', e, o⟩ := lr_step hp (by omega) (t := some (.v d)) (a := a) (lo := lo) (hi := hi)
    obtain ⟨t2, a2, l2, h2, c2, e2, o2⟩ := lr_loop hk ds (j + 1) c' (some (.v d)) a' lo' hi' (o.mono (by omega)) (by omega)
    refine ⟨t2, a2, l2, h2, c2, ?_, o2.mono (by rw [List.length_cons]; omega)⟩
    rw [← e2]
    conv => lhs; unfold fLoop
    have tg : tgSet (.nm 1) d (LR t a lo hi) = some (LR (some (.v d)) a lo hi) := rfl
    simp only [tg, e]
theorem right_ok {k : Nat} {S : List Cell} (h : PailOk k S) (hk : k ≤ 300000) : ∃ S', F__law_right [.o 0] S = .ok (.v (.bl true)) S' ∧ PailOk (k + 240) S' := by
  obtain ⟨c, rfl⟩ : ∃ c, S = [c] := by
    obtain ⟨g, x, c, rfl, _⟩ := h
    exact ⟨_, rfl⟩
  obtain ⟨t, a, lo, hi, c', e, o⟩ := lr_loop hk (rngD 0 3) 0 c none none none none (h.mono (by omega)) (by simp [rngD])
  have l2 : (rngD 0 3).length = 3 := by simp [rngD]
  rw [l2] at o
  have o' : PailOk (k + 240) [c'] := o.mono (by omega)
  refine ⟨[c'], ?_, o'⟩
  refine run_pail (T := []) h o' rfl ?_
  rw [lr_eq]
  show sSeq lr0 lr1 (LR none none none none) [c] = _
  have e' : lr0 (LR none none none none) [c] = .nx (LR t a lo hi) [c'] := e
  rw [seq_nx e']
  rfl
theorem run_o {n N : Nat} {sem : SM} {ds : List D} {l : List Da} (hn : ds.length = n) (h : sem (ds.map some ++ List.replicate (N - n) none) [] = .rt (.o 0) [.lst l]) : runDef n N sem ds [] = .ok (.nl l) [] := by
  rw [s_run, if_pos hn, h]
  rfl
abbrev Z0 (jj : List Da) (j : Int) (c2 c3 c4 c5 : Option D) : Rho := [some (.v (.flst jj)), some (.v (.int j)), c2, c3, c4, c5]
theorem pm_big {j : Int} (hj : 0 ≤ j ∧ j < 5) : mulOk 6151 j = true ∧ mulOk 8191 j = true ∧ mulOk 3 j = true := ⟨mulOk_of (by omega) (by omega) (by omega) (by omega), mulOk_of (by omega) (by omega) (by omega) (by omega), mulOk_of (by omega) (by omega) (by omega) (by omega)⟩
theorem pm_in {jj : List Da} {j v : Int} {c2 c3 c4 c5 : Option D} (h : j < jj.length) (ha : L2.atI jj j = some (.int v)) : eIf (eOpB ltP (eVar 1) (eCB lenP (aCons (eVar 0) aNil))) (eCB intP (aCons (eOp2 ixP (eVar 0) (eVar 1)) aNil)) (eOp2 addP (eOp2 mulP (eC (.int 6151)) (eVar 1)) (eC (.int 89))) (Z0 jj j c2 c3 c4 c5) [] = .ok (.v (.int v)) [] := by
  simp [h, ha]
theorem pm_out {jj : List Da} {j : Int} {c2 c3 c4 c5 : Option D} (h : ¬ j < jj.length) (m1 : mulOk 6151 j = true) : eIf (eOpB ltP (eVar 1) (eCB lenP (aCons (eVar 0) aNil))) (eCB intP (aCons (eOp2 ixP (eVar 0) (eVar 1)) aNil)) (eOp2 addP (eOp2 mulP (eC (.int 6151)) (eVar 1)) (eC (.int 89))) (Z0 jj j c2 c3 c4 c5) [] = .ok (.v (.int (6151 * j + 89))) [] := by
  simp [h, m1]
theorem pm_cell (js : List Int) {j : Int} (hj : 0 ≤ j ∧ j < 5) {c2 c3 c4 c5 : Option D} : ∃ cell : Int, eIf (eOpB ltP (eVar 1) (eCB lenP (aCons (eVar 0) aNil))) (eCB intP (aCons (eOp2 ixP (eVar 0) (eVar 1)) aNil)) (eOp2 addP (eOp2 mulP (eC (.int 6151)) (eVar 1)) (eC (.int 89))) (Z0 (js.map Da.int) j c2 c3 c4 c5) [] = .ok (.v (.int cell)) [] := by
  by_cases h : j < (js.map Da.int).length
  · obtain ⟨i, rfl⟩ : ∃ i : Nat, j = i := ⟨j.toNat, by omega⟩
    exact ⟨_, pm_in h (at_row (row := js) (i := i) (by rw [List.length_map] at h; omega))⟩
  · exact ⟨_, pm_out h (pm_big hj).1⟩
theorem gen_step {jj : List Da} {j cell mx v k1 k2 k3 k4 : Int} {c4 : Option D} (m4 : mulOk mx k1 = true) (m3 : mulOk k3 j = true) (mn : ∀ i, modOk i k4 = true) (mn2 : ∀ i, modOk i k2 = true) : sSet 3 (eOp2 modP (eCB intP (aCons (eOp2 addP (eOp2 addP (eOp2 mulP (eVar 3) (eC (.int k1))) (eOp2 modP (eCB intP (aCons (eVar 4) aNil)) (eC (.int k2)))) (eOp2 mulP (eC (.int k3)) (eVar 1))) aNil)) (eC (.int k4))) (Z0 jj j (some (.v (.int cell))) (some (.v (.int mx))) (some (.v (.int v))) c4) [] = .nx (Z0 jj j (some (.v (.int cell))) (some (.v (.int ((mx * k1 + v % k2 + k3 * j) % k4)))) (some (.v (.int v))) c4) [] := by
  simp [m4, m3, mn, mn2]
theorem pm_step {jj : List Da} {j cell mx v : Int} {c4 : Option D} (m4 : mulOk mx 69069 = true) (m3 : mulOk 3 j = true) (mn : ∀ i, modOk i 2147483629 = true) (mn2 : ∀ i, modOk i 1000183 = true) : sSet 3 (eOp2 modP (eCB intP (aCons (eOp2 addP (eOp2 addP (eOp2 mulP (eVar 3) (eC (.int 69069))) (eOp2 modP (eCB intP (aCons (eVar 4) aNil)) (eC (.int 1000183)))) (eOp2 mulP (eC (.int 3)) (eVar 1))) aNil)) (eC (.int 2147483629))) (Z0 jj j (some (.v (.int cell))) (some (.v (.int mx))) (some (.v (.int v))) c4) [] = .nx (Z0 jj j (some (.v (.int cell))) (some (.v (.int ((mx * 69069 + v % 1000183 + 3 * j) % 2147483629)))) (some (.v (.int v))) c4) [] := gen_step m4 m3 mn mn2
theorem pm_loop {jj : List Da} {j cell m0 : Int} (hj : 0 ≤ j ∧ j < 5) (h0 : 0 ≤ m0 ∧ m0 ≤ 2147483629) (l : List Int) : ∃ (x : Option D) (mx : Int), fLoop (.nm 4) (sSet 3 (eOp2 modP (eCB intP (aCons (eOp2 addP (eOp2 addP (eOp2 mulP (eVar 3) (eC (.int 69069))) (eOp2 modP (eCB intP (aCons (eVar 4) aNil)) (eC (.int 1000183)))) (eOp2 mulP (eC (.int 3)) (eVar 1))) aNil)) (eC (.int 2147483629)))) (l.map Da.int) (Z0 jj j (some (.v (.int cell))) (some (.v (.int m0))) none none) [] = .nx (Z0 jj j (some (.v (.int cell))) (some (.v (.int mx))) x none) [] ∧ 0 ≤ mx ∧ mx ≤ 2147483629 := by
  obtain ⟨ρ', e, x, mx, g1, g2⟩ := fL (S := []) (T := .nm 4) (body := sSet 3 (eOp2 modP (eCB intP (aCons (eOp2 addP (eOp2 addP (eOp2 mulP (eVar 3) (eC (.int 69069))) (eOp2 modP (eCB intP (aCons (eVar 4) aNil)) (eC (.int 1000183)))) (eOp2 mulP (eC (.int 3)) (eVar 1))) aNil)) (eC (.int 2147483629)))) (l := l.map Da.int)
    (fun _ ρ => ∃ (x : Option D) (mx : Int), ρ = Z0 jj j (some (.v (.int cell))) (some (.v (.int mx))) x none ∧ 0 ≤ mx ∧ mx ≤ 2147483629) (fun i d ρ hd ⟨x, mx, hρ, hm⟩ => by
      obtain ⟨v, hv, rfl⟩ := List.mem_map.mp (List.mem_of_getElem? hd)
      have q0 := Int.emod_nonneg (mx * 69069 + v % 1000183 + 3 * j) (show (2147483629 : Int) ≠ 0 by decide)
      have q1 := Int.emod_lt_of_pos (mx * 69069 + v % 1000183 + 3 * j) (show (0 : Int) < 2147483629 by decide)
      subst hρ
      exact ⟨_, _, rfl, pm_step (mulOk_of (by omega) (by omega) (by omega) (by omega)) (pm_big hj).2.2 (fun i => modOk_of (by decide)) (fun i => modOk_of (by decide)), _, _, rfl, q0, Int.le_of_lt q1⟩) (ρ := Z0 jj j (some (.v (.int cell))) (some (.v (.int m0))) none none) ⟨none, m0, rfl, h0⟩
  exact ⟨x, mx, by rw [← g1]; exact e, g2⟩
theorem gen_2 {jj : List Da} {j cell k1 k2 : Int} (m2 : mulOk k2 j = true) : sSet 3 (eOp2 addP (eC (.int k1)) (eOp2 mulP (eC (.int k2)) (eVar 1))) (Z0 jj j (some (.v (.int cell))) none none none) [] = .nx (Z0 jj j (some (.v (.int cell))) (some (.v (.int (k1 + k2 * j)))) none none) [] := by
  simp [m2]
theorem pm_2 {jj : List Da} {j cell : Int} (m2 : mulOk 8191 j = true) : sSet 3 (eOp2 addP (eC (.int 131071)) (eOp2 mulP (eC (.int 8191)) (eVar 1))) (Z0 jj j (some (.v (.int cell))) none none none) [] = .nx (Z0 jj j (some (.v (.int cell))) (some (.v (.int (131071 + 8191 * j)))) none none) [] := gen_2 m2
theorem pm_it {jj j6 : List Da} {j : Int} {c2 c3 c4 c5 : Option D} (cu : cutD jj none (some 6) = j6) : iSeq (eSl (eVar 0) oNone (oSome (eC (.int 6)))) (Z0 jj j c2 c3 c4 c5) [] = .ok j6 [] := by
  simp [eSl, oNone, oSome, slP, cu]
theorem p18 : powP (.int 10) (.int 18) = some (.int 1000000000000000000) := pw (by decide +kernel) (by decide +kernel)
theorem gen_4 {jj : List Da} {j cell z t e M : Int} {c3 c4 c5 : Option D} (p : powP (.int t) (.int e) = some (.int M)) : sSet 5 (eIf (eOrT (eOpB ltP (eVar 2) (eC (.int z))) (eOpB geP (eVar 2) (eOp2 powP (eC (.int t)) (eC (.int e))))) (eCB absP (aCons (eVar 2) aNil)) (eC (.int z))) (Z0 jj j (some (.v (.int cell))) c3 c4 c5) [] = .nx (Z0 jj j (some (.v (.int cell))) c3 c4 (some (.v (.int (if cell < z ∨ M ≤ cell then (if cell < 0 then -cell else cell) else z))))) [] := by
  by_cases h1 : cell < z
  · simp [p, h1]
  · by_cases h2 : M ≤ cell
    · simp [p, h1, h2]
    · simp [p, h1, h2]
theorem abs_nn (cell M : Int) : 0 ≤ (if cell < 0 ∨ M ≤ cell then (if cell < 0 then -cell else cell) else 0) := by
  split
  · split <;> omega
  · exact Int.le_refl 0
theorem pm_4 {jj : List Da} {j cell : Int} {c3 c4 c5 : Option D} : ∃ gr : Int, sSet 5 (eIf (eOrT (eOpB ltP (eVar 2) (eC (.int 0))) (eOpB geP (eVar 2) (eOp2 powP (eC (.int 10)) (eC (.int 18))))) (eCB absP (aCons (eVar 2) aNil)) (eC (.int 0))) (Z0 jj j (some (.v (.int cell))) c3 c4 c5) [] = .nx (Z0 jj j (some (.v (.int cell))) c3 c4 (some (.v (.int gr)))) [] ∧ 0 ≤ gr := ⟨_, gen_4 p18, abs_nn cell _⟩
theorem gen_5 {jj : List Da} {j cell mx gr k1 k2 k3 z : Int} {c4 : Option D} (m5 : mulOk mx k1 = true) (mn : ∀ i, modOk i k2 = true) (mn3 : ∀ i, modOk i k3 = true) : sRet (eLstN (aCons (eVar 5) (aCons (eOp2 modP (eCB intP (aCons (eOp2 addP (eOp2 mulP (eVar 3) (eC (.int k1))) (eOp2 modP (eCB intP (aCons (eVar 2) aNil)) (eC (.int k2)))) aNil)) (eC (.int k3))) (aCons (eC (.int z)) aNil)))) (Z0 jj j (some (.v (.int cell))) (some (.v (.int mx))) c4 (some (.v (.int gr)))) [] = .rt (.o 0) [.lst [.int gr, .int ((mx * k1 + cell % k2) % k3), .int z]] := by
  simp [m5, mn, mn3]
theorem pm_5 {jj : List Da} {j cell mx gr : Int} {c4 : Option D} (m5 : mulOk mx 48271 = true) (mn : ∀ i, modOk i 2147483629 = true) : sRet (eLstN (aCons (eVar 5) (aCons (eOp2 modP (eCB intP (aCons (eOp2 addP (eOp2 mulP (eVar 3) (eC (.int 48271))) (eOp2 modP (eCB intP (aCons (eVar 2) aNil)) (eC (.int 2147483629)))) aNil)) (eC (.int 2147483629))) (aCons (eC (.int 0)) aNil)))) (Z0 jj j (some (.v (.int cell))) (some (.v (.int mx))) c4 (some (.v (.int gr)))) [] = .rt (.o 0) [.lst [.int gr, .int ((mx * 48271 + cell % 2147483629) % 2147483629), .int 0]] := gen_5 m5 mn mn
theorem pm_all {jj j6 : List Da} {j cell mx gr m0 : Int} {x : Option D} {v : Int} (h1 : sSet 2 (eIf (eOpB ltP (eVar 1) (eCB lenP (aCons (eVar 0) aNil))) (eCB intP (aCons (eOp2 ixP (eVar 0) (eVar 1)) aNil)) (eOp2 addP (eOp2 mulP (eC (.int 6151)) (eVar 1)) (eC (.int 89)))) (Z0 jj j none none none none) [] = .nx (Z0 jj j (some (.v (.int cell))) none none none) []) (h2 : sSet 3 (eOp2 addP (eC (.int 131071)) (eOp2 mulP (eC (.int 8191)) (eVar 1))) (Z0 jj j (some (.v (.int cell))) none none none) [] = .nx (Z0 jj j (some (.v (.int cell))) (some (.v (.int m0))) none none) [])
    (h3 : sFor (iSeq (eSl (eVar 0) oNone (oSome (eC (.int 6))))) (.nm 4) (sSet 3 (eOp2 modP (eCB intP (aCons (eOp2 addP (eOp2 addP (eOp2 mulP (eVar 3) (eC (.int 69069))) (eOp2 modP (eCB intP (aCons (eVar 4) aNil)) (eC (.int 1000183)))) (eOp2 mulP (eC (.int 3)) (eVar 1))) aNil)) (eC (.int 2147483629)))) (Z0 jj j (some (.v (.int cell))) (some (.v (.int m0))) none none) [] = .nx (Z0 jj j (some (.v (.int cell))) (some (.v (.int mx))) x none) []) (h4 : sSet 5 (eIf (eOrT (eOpB ltP (eVar 2) (eC (.int 0))) (eOpB geP (eVar 2) (eOp2 powP (eC (.int 10)) (eC (.int 18))))) (eCB absP (aCons (eVar 2) aNil)) (eC (.int 0))) (Z0 jj j (some (.v (.int cell))) (some (.v (.int mx))) x none) [] = .nx (Z0 jj j (some (.v (.int cell))) (some (.v (.int mx))) x (some (.v (.int gr)))) [])
    (h5 : sRet (eLstN (aCons (eVar 5) (aCons (eOp2 modP (eCB intP (aCons (eOp2 addP (eOp2 mulP (eVar 3) (eC (.int 48271))) (eOp2 modP (eCB intP (aCons (eVar 2) aNil)) (eC (.int 2147483629)))) aNil)) (eC (.int 2147483629))) (aCons (eC (.int 0)) aNil)))) (Z0 jj j (some (.v (.int cell))) (some (.v (.int mx))) x (some (.v (.int gr)))) [] = .rt (.o 0) [.lst [.int gr, .int v, .int 0]]) : sem__law_pail (Z0 jj j none none none none) [] = .rt (.o 0) [.lst [.int gr, .int v, .int 0]] := by
  unfold sem__law_pail
  rw [seq_nx h1, seq_nx h2, seq_nx h3, seq_nx h4]
  exact h5
theorem pm_3 {jj j6 : List Da} {j cell mx m0 : Int} {x : Option D} (it : iSeq (eSl (eVar 0) oNone (oSome (eC (.int 6)))) (Z0 jj j (some (.v (.int cell))) (some (.v (.int m0))) none none) [] = .ok j6 []) (e : fLoop (.nm 4) (sSet 3 (eOp2 modP (eCB intP (aCons (eOp2 addP (eOp2 addP (eOp2 mulP (eVar 3) (eC (.int 69069))) (eOp2 modP (eCB intP (aCons (eVar 4) aNil)) (eC (.int 1000183)))) (eOp2 mulP (eC (.int 3)) (eVar 1))) aNil)) (eC (.int 2147483629)))) j6 (Z0 jj j (some (.v (.int cell))) (some (.v (.int m0))) none none) [] = .nx (Z0 jj j (some (.v (.int cell))) (some (.v (.int mx))) x none) []) : sFor (iSeq (eSl (eVar 0) oNone (oSome (eC (.int 6))))) (.nm 4) (sSet 3 (eOp2 modP (eCB intP (aCons (eOp2 addP (eOp2 addP (eOp2 mulP (eVar 3) (eC (.int 69069))) (eOp2 modP (eCB intP (aCons (eVar 4) aNil)) (eC (.int 1000183)))) (eOp2 mulP (eC (.int 3)) (eVar 1))) aNil)) (eC (.int 2147483629)))) (Z0 jj j (some (.v (.int cell))) (some (.v (.int m0))) none none) [] = .nx (Z0 jj j (some (.v (.int cell))) (some (.v (.int mx))) x none) [] := by
  rw [s_for, it]
  exact e
theorem pm_1 {jj : List Da} {j cell : Int} {c3 c4 c5 : Option D} (h : eIf (eOpB ltP (eVar 1) (eCB lenP (aCons (eVar 0) aNil))) (eCB intP (aCons (eOp2 ixP (eVar 0) (eVar 1)) aNil)) (eOp2 addP (eOp2 mulP (eC (.int 6151)) (eVar 1)) (eC (.int 89))) (Z0 jj j none c3 c4 c5) [] = .ok (.v (.int cell)) []) : sSet 2 (eIf (eOpB ltP (eVar 1) (eCB lenP (aCons (eVar 0) aNil))) (eCB intP (aCons (eOp2 ixP (eVar 0) (eVar 1)) aNil)) (eOp2 addP (eOp2 mulP (eC (.int 6151)) (eVar 1)) (eC (.int 89)))) (Z0 jj j none c3 c4 c5) [] = .nx (Z0 jj j (some (.v (.int cell))) c3 c4 c5) [] := by
  rw [s_set, h]
  rfl
theorem pail_ok {g x : Int} (h1 : 0 ≤ g) (h2 : 0 ≤ x) (h3 : x ≤ 2147483629) : PailOk 0 (pailC g x 0) := ⟨g, x, 0, rfl, h1, h2, h3, Int.le_refl _, Int.le_refl _⟩
theorem pail_made (js : List Int) {j : Int} (hj : 0 ≤ j ∧ j < 5) : ∃ g x : Int, F__law_pail [.v (.flst (js.map Da.int)), .v (.int j)] [] = .ok (.nl [.int g, .int x, .int 0]) [] ∧ PailOk 0 (pailC g x 0) := by
  have cu : cutD (js.map Da.int) none (some 6) = (js.take 6).map Da.int := by
    rw [show (6 : Int) = ((6 : Nat) : Int) from rfl, cut_n, List.map_take]
  obtain ⟨cell, hc⟩ := pm_cell js hj (c2 := none) (c3 := none) (c4 := none) (c5 := none)
  obtain ⟨x, mx, e, g0, g1⟩ := pm_loop (jj := js.map Da.int) (cell := cell) (m0 := 131071 + 8191 * j) hj ⟨by omega, by omega⟩ (js.take 6)
  obtain ⟨gr, h4, gp⟩ := pm_4 (jj := js.map Da.int) (j := j) (cell := cell) (c3 := some (.v (.int mx))) (c4 := x) (c5 := none)
  have m5 : mulOk mx 48271 = true := mulOk_of (by omega) (by omega) (by omega) (by omega)
  have h5 := pm_5 (jj := js.map Da.int) (j := j) (cell := cell) (gr := gr) (c4 := x) m5 (fun i => modOk_of (by decide))
  have q0 := Int.emod_nonneg (mx * 48271 + cell % 2147483629) (show (2147483629 : Int) ≠ 0 by decide)
  have q1 := Int.emod_lt_of_pos (mx * 48271 + cell % 2147483629) (show (0 : Int) < 2147483629 by decide)
  exact ⟨gr, _, run_o rfl (pm_all (j6 := []) (pm_1 hc) (pm_2 (pm_big hj).2.1) (pm_3 (pm_it cu) e) h4 h5), pail_ok gp q0 (Int.le_of_lt q1)⟩
theorem callF_nl {n : Nat} {F : Fn} {ps : List Da} {l : List Da} {S : List Cell} (hn : ps.length = n) (h : F (ps.map D.v) [] = .ok (.nl l) []) : callF n F (ps.map D.v) S = .ok (.nl l) S := by
  unfold callF
  rw [splitA_plain, if_pos ⟨by rw [List.length_map]; exact hn, List.nodup_nil⟩]
  simp only [cellsAt, callR, h, List.all_nil, if_true, putCells]
theorem law_true (js : List Int) : ∃ S, F_law [.v (.flst (js.map Da.int))] [] = .ok (.v (.bl true)) S := by
  obtain ⟨n, hn, it⟩ : ∃ n : Int, (2 ≤ n ∧ n ≤ 5) ∧ iRange1 (aCons (eCB max2P (aCons (eC (.int 2)) (aCons (eCB min2P (aCons (eCB lenP (aCons (eVar 0) aNil)) (aCons (eC (.int 5)) aNil))) aNil))) aNil) [some (.v (.flst (js.map Da.int))), none] [] = .ok (rngD 0 n.toNat) [] := by
    refine ⟨if (if (5 : Int) < js.length then 5 else (js.length : Int)) > 2 then (if (5 : Int) < js.length then 5 else (js.length : Int)) else 2, by split <;> split <;> omega, ?_⟩
    refine r1_ok ?_ (small_of (by split <;> split <;> omega) (by split <;> split <;> omega))
    simp only [s_cons, s_cb, s_eC, s_eVar, s_nil, b_ok, List.getElem?_cons_zero, s_vwC, s_vwN, s_vw, l_fl, List.length_map, o_mn2, o_mx2]
  have ln : (rngD 0 n.toNat).length = n.toNat := by simp [rngD]
  obtain ⟨res, S', e, hl, hq, _⟩ := lcLoop_st (T := .nm 1) (t := eYes) (f := eCall 1 F__law_right (aCons (eCallN 2 F__law_pail (aCons (eVar 0) (aCons (eVar 1) aNil))) aNil)) (ρ := [some (.v (.flst (js.map Da.int))), none]) (fun _ _ => True) (fun d => d = .bl true) (rngD 0 n.toNat) 0 [] [] trivial (fun d hd j S hj _ => by
    obtain ⟨i, hi, rfl⟩ := List.mem_map.mp (show d ∈ (List.range n.toNat).map fun i => Da.int (0 + (i : Nat)) from hd)
    have hi' := List.mem_range.mp hi
    obtain ⟨g, x, e1, o1⟩ := pail_made js (j := 0 + (i : Nat)) (by omega)
    obtain ⟨S2, e2, o2⟩ := right_ok o1 (by omega)
    obtain ⟨g', x', c', rfl, _⟩ := o2
    have q1 : callF 2 F__law_pail [.v (.flst (js.map Da.int)), .v (.int (0 + (i : Nat)))] S = .ok (.nl [.int g, .int x, .int 0]) S := callF_nl (ps := [.flst (js.map Da.int), .int (0 + (i : Nat))]) rfl e1
    have at1 : (S ++ [Cell.lst [.int g, .int x, .int 0]])[S.length]? = some (.lst [.int g, .int x, .int 0]) := by simp
    have q2 := callF_o (ps := []) (n := 1) (j := S.length) (S := S ++ [Cell.lst [.int g, .int x, .int 0]]) at1 rfl e2
    refine ⟨_, rfl, rfl, .bl true, (S ++ [Cell.lst [.int g, .int x, .int 0]]).set S.length (.lst [.int g', .int x', .int c']), ?_, trivial, rfl⟩
    have ea : aCons (eCallN 2 F__law_pail (aCons (eVar 0) (aCons (eVar 1) aNil))) aNil [some (.v (.flst (js.map Da.int))), some (.v (.int (0 + (i : Nat))))] S = .ok [.o S.length] (S ++ [Cell.lst [.int g, .int x, .int 0]]) := by
      have eb : aCons (eVar 0) (aCons (eVar 1) aNil) [some (.v (.flst (js.map Da.int))), some (.v (.int (0 + (i : Nat))))] S = .ok [.v (.flst (js.map Da.int)), .v (.int (0 + (i : Nat)))] S := rfl
      rw [s_cons]
      unfold eCallN
      rw [eb, b_ok, q1]
      rfl
    show eCall 1 F__law_right (aCons (eCallN 2 F__law_pail (aCons (eVar 0) (aCons (eVar 1) aNil))) aNil) [some (.v (.flst (js.map Da.int))), some (.v (.int (0 + (i : Nat))))] S = _
    rw [s_call, ea, b_ok]
    change callF 1 F__law_right [.o S.length] _ = _ at q2
    rw [q2]
    rfl)
  refine ⟨[], ?_⟩
  have al : allP [.lst res] = some (.bl true) := by
    have er : res = (res.map fun _ => true).map Da.bl := by
      rw [List.map_map]
      clear e hl
      induction res with
      | nil => rfl
      | cons d r ih => rw [List.map_cons, ← ih fun r hr => hq r (List.mem_cons_of_mem _ hr), hq d List.mem_cons_self]; rfl
    rw [er, o_all]
    congr 2
    rw [List.all_map]
    exact List.all_eq_true.mpr fun _ _ => rfl
  have lc : eLc (iRange1 (aCons (eCB max2P (aCons (eC (.int 2)) (aCons (eCB min2P (aCons (eCB lenP (aCons (eVar 0) aNil)) (aCons (eC (.int 5)) aNil))) aNil))) aNil)) (.nm 1) eYes (eCall 1 F__law_right (aCons (eCallN 2 F__law_pail (aCons (eVar 0) (aCons (eVar 1) aNil))) aNil)) [1] [some (.v (.flst (js.map Da.int))), none] [] = .ok (.v (.lst res)) S' := by
    unfold eLc
    rw [it, b_ok, if_pos (by rw [ln]; omega)]
    show (match lcLoop _ _ _ _ _ _ [] with | .ok r S2 => ER.ok (D.v (.lst r)) S2 | _ => .bad) = _
    rw [show wipeR [some (.v (.flst (js.map Da.int))), none] [1] = [some (.v (.flst (js.map Da.int))), none] from rfl, e]
    rfl
  have hs : sem_law [some (.v (.flst (js.map Da.int))), none] [] = .rt (.v (.bl true)) S' := by
    unfold sem_law
    rw [s_ret, s_cb, s_cons, lc]
    simp only [b_ok, s_nil, s_vwC, s_vwN, s_vw, al]
  exact run_rt' rfl hs
end M76
end
open PySem PySem.W PyProof.Rows
set_option maxRecDepth 100000 in
set_option maxHeartbeats 0 in
theorem PySem.Challenge.cw_restlands_k76_whole_numbers_left_holds : PySem.Challenge.rw_restlands_k76_whole_numbers_left.Holds := by
  w_on; o_law; k_head; (case hw => w_witness2)
  k_fill
  refine FL.walkT (l := PySem.Challenge.rw_restlands_k76_whole_numbers_left) (n := 63) (k := 13) (x := "script") (Fl := M76.F_law) [(507, 503), (512, 510), (524, 522)] [(503, ("_law_near_right" ++ ".<locals>." ++ "<lambda>")), (510, ("_law_far_right" ++ ".<locals>." ++ "<lambda>")), (522, ("_law_kin_right" ++ ".<locals>." ++ "<lambda>"))] (FL.clsOf [("NoNumber", 145), ("InvalidIndex", 63)]) rfl (by decide) rfl ⟨rfl, by decide, by decide⟩ ?hT (fun w h Y => ⟨PySem.W.km_in_of Y, fun p hp => PySem.W.km_tabs_of Y _ (by simp only [List.mem_cons, List.not_mem_nil, or_false] at hp; rcases hp with rfl | rfl | rfl <;> simp)⟩) ?hcs ?F (fun w => @M76.law_true ⟨[(503, ("_law_near_right" ++ ".<locals>." ++ "<lambda>")), (510, ("_law_far_right" ++ ".<locals>." ++ "<lambda>")), (522, ("_law_kin_right" ++ ".<locals>." ++ "<lambda>"))], PySem.Challenge.rw_restlands_k76_whole_numbers_left.prog, w, FL.clsOf [("NoNumber", 145), ("InvalidIndex", 63)]⟩)
  case hT =>
    intro p hp
    simp only [List.mem_cons, List.not_mem_nil, or_false] at hp
    rcases hp with rfl | rfl | rfl
    · exact ⟨_, (List.Mem.head _), rfl⟩
    · exact ⟨_, (List.Mem.tail _ (List.Mem.head _)), rfl⟩
    · exact ⟨_, (List.Mem.tail _ (List.Mem.tail _ (List.Mem.head _))), rfl⟩
  case hcs =>
    intro w p hp
    simp only [List.mem_cons, List.not_mem_nil, or_false] at hp
    rcases hp with rfl | rfl | rfl
    · exact ⟨by first | k_is | rfl, by first | k_is | rfl⟩
    · exact ⟨by first | k_is | rfl, by first | k_is | rfl⟩
    · exact ⟨by first | k_is | rfl, by first | k_is | rfl⟩
  case F =>
    intro w mg h KX G XL base hb hG TB
    letI inst : FL.TabsOf := ⟨[(503, ("_law_near_right" ++ ".<locals>." ++ "<lambda>")), (510, ("_law_far_right" ++ ".<locals>." ++ "<lambda>")), (522, ("_law_kin_right" ++ ".<locals>." ++ "<lambda>"))], PySem.Challenge.rw_restlands_k76_whole_numbers_left.prog, w, FL.clsOf [("NoNumber", 145), ("InvalidIndex", 63)]⟩
    have b_abs : mg "abs" = none := by refine' PySem.W.mg_none_of KX G ?z; (case z => k_is)
    have b_all : mg "all" = none := by refine' PySem.W.mg_none_of KX G ?z; (case z => k_is)
    have b_any : mg "any" = none := by refine' PySem.W.mg_none_of KX G ?z; (case z => k_is)
    have b_bool : mg "bool" = none := by refine' PySem.W.mg_none_of KX G ?z; (case z => k_is)
    have b_dict : mg "dict" = none := by refine' PySem.W.mg_none_of KX G ?z; (case z => k_is)
    have b_divmod : mg "divmod" = none := by refine' PySem.W.mg_none_of KX G ?z; (case z => k_is)
    have b_enumerate : mg "enumerate" = none := by refine' PySem.W.mg_none_of KX G ?z; (case z => k_is)
    have b_int : mg "int" = none := by refine' PySem.W.mg_none_of KX G ?z; (case z => k_is)
    have b_isinstance : mg "isinstance" = none := by refine' PySem.W.mg_none_of KX G ?z; (case z => k_is)
    have b_len : mg "len" = none := by refine' PySem.W.mg_none_of KX G ?z; (case z => k_is)
    have b_max : mg "max" = none := by refine' PySem.W.mg_none_of KX G ?z; (case z => k_is)
    have b_min : mg "min" = none := by refine' PySem.W.mg_none_of KX G ?z; (case z => k_is)
    have b_range : mg "range" = none := by refine' PySem.W.mg_none_of KX G ?z; (case z => k_is)
    have b_repr : mg "repr" = none := by refine' PySem.W.mg_none_of KX G ?z; (case z => k_is)
    have b_sum : mg "sum" = none := by refine' PySem.W.mg_none_of KX G ?z; (case z => k_is)
    have b_tuple : mg "tuple" = none := by refine' PySem.W.mg_none_of KX G ?z; (case z => k_is)
    have g_ALL := by refine' FL.tup2_at (x := "ALL") (i := 0) (j := 1) KX G ?ta ?tl ?te; (case ta => k_is); (case tl => k_is); (case te => rfl)
    have g_MOST_FACT : ∃ t, mg "MOST_FACT" = some (.int 1000000000000000000000000000000 t) := FL.loose_int XL (by first | exact List.Mem.head _ | exact List.Mem.tail _ (List.Mem.head _) | exact List.Mem.tail _ (List.Mem.tail _ (List.Mem.head _)) | simp)
    have g_MOST_FACTS : ∃ t, mg "MOST_FACTS" = some (.int 40 t) := by refine' FL.gk KX G ?z; (case z => k_is)
    have g_MOST_FALSE : ∃ t, mg "MOST_FALSE" = some (.int 12 t) := by refine' FL.gk KX G ?z; (case z => k_is)
    have g_MOST_LAMPS : ∃ t, mg "MOST_LAMPS" = some (.int 12 t) := by refine' FL.gk KX G ?z; (case z => k_is)
    have g_MOST_NUMBER : ∃ t, mg "MOST_NUMBER" = some (.int 10000000000000000000000000000000000000000 t) := FL.loose_int XL (by first | exact List.Mem.head _ | exact List.Mem.tail _ (List.Mem.head _) | exact List.Mem.tail _ (List.Mem.tail _ (List.Mem.head _)) | simp)
    have e_NoNumber := by refine' FL.errC_of (x := "NoNumber") (a := 145) (bm := [.type "ArithmeticError", .type "Exception", .type "BaseException", .type "object"]) (id := "ArithmeticError.__new__") KX G (show FL.clsOf [("NoNumber", 145), ("InvalidIndex", 63)] "NoNumber" = 145 from by decide +kernel) ?a ?qq ?k ?b ?t; (case a => k_is); (case qq => k_exc); (case k => k_is); (case b => k_is); (case t => k_is)
    have i_InvalidIndex := by refine' FL.errI_of (x := "InvalidIndex") (f := "given") (q := "InvalidIndex.__init__") (a := 63) (fI := 60) (st := M76.st_InvalidIndex) KX G (show FL.clsOf [("NoNumber", 145), ("InvalidIndex", 63)] "InvalidIndex" = 63 from by decide +kernel) ?ia ?il ?ie ?irv ?isa ?iex ?ity ?ik ?ifi ?itf ?ino ?iga ?igg ?ihd ?ilf ?icq ?iki; (case ia => k_is); (case il => k_is); (case ie => rfl); (case irv => decide +kernel); (case isa => k_is); (case iex => k_is); (case ity => k_is); (case ik => k_is); (case ifi => k_is); (case itf => k_is); (case ino => k_is); (case iga => k_is); (case igg => k_is); (case ihd => k_is); (case ilf => k_is); (case icq => k_is); (case iki => k_is)
    have h__law_heard := by refine' FL.mkf (x := "_law_heard") (st := M76.st__law_heard) KX G ?a ?l ?c ?k; (case a => k_is); (case l => k_is); (case c => k_is); (case k => k_is)
    have x_InvalidIndex_InvalidIndex := by refine' FL.exm_at (x := "InvalidIndex") (y := "InvalidIndex") true KX (show FL.clsOf [("NoNumber", 145), ("InvalidIndex", 63)] "InvalidIndex" = 63 from by decide +kernel) (show FL.clsOf [("NoNumber", 145), ("InvalidIndex", 63)] "InvalidIndex" = 63 from by decide +kernel) ?xq ?xc ?xt ?xs; (case xq => k_is); (case xc => k_is); (case xt => k_is); (case xs => k_is)
    have x_NoNumber_InvalidIndex := by refine' FL.exm_at (x := "NoNumber") (y := "InvalidIndex") false KX (show FL.clsOf [("NoNumber", 145), ("InvalidIndex", 63)] "NoNumber" = 145 from by decide +kernel) (show FL.clsOf [("NoNumber", 145), ("InvalidIndex", 63)] "InvalidIndex" = 63 from by decide +kernel) ?xq ?xc ?xt ?xs; (case xq => k_is); (case xc => k_is); (case xt => k_is); (case xs => k_is)
    have x_NoNumber_NoNumber := by refine' FL.exm_at (x := "NoNumber") (y := "NoNumber") true KX (show FL.clsOf [("NoNumber", 145), ("InvalidIndex", 63)] "NoNumber" = 145 from by decide +kernel) (show FL.clsOf [("NoNumber", 145), ("InvalidIndex", 63)] "NoNumber" = 145 from by decide +kernel) ?xq ?xc ?xt ?xs; (case xq => k_is); (case xc => k_is); (case xt => k_is); (case xs => k_is)
    have l__law_near_right := by refine' FL.lamT_of (x := "_law_near_right") (st := M76.st__law_near_right) (q := ("_law_near_right" ++ ".<locals>." ++ "<lambda>")) (c := 507) (P := 503) KX G ?a ?l (TB _ (List.Mem.head _)) (List.Mem.head _) (by intro p hp e; replace hp : p ∈ ([(503, ("_law_near_right" ++ ".<locals>." ++ "<lambda>")), (510, ("_law_far_right" ++ ".<locals>." ++ "<lambda>")), (522, ("_law_kin_right" ++ ".<locals>." ++ "<lambda>"))] : List (PySem.Addr × PySem.Str)) := hp; simp only [List.mem_cons, List.not_mem_nil, or_false] at hp; rcases hp with rfl | rfl | rfl <;> first | exact absurd e (by decide) | rfl); (case a => k_is); (case l => k_is)
    have l__law_far_right := by refine' FL.lamT_of (x := "_law_far_right") (st := M76.st__law_far_right) (q := ("_law_far_right" ++ ".<locals>." ++ "<lambda>")) (c := 512) (P := 510) KX G ?a ?l (TB _ (List.Mem.tail _ (List.Mem.head _))) (List.Mem.tail _ (List.Mem.head _)) (by intro p hp e; replace hp : p ∈ ([(503, ("_law_near_right" ++ ".<locals>." ++ "<lambda>")), (510, ("_law_far_right" ++ ".<locals>." ++ "<lambda>")), (522, ("_law_kin_right" ++ ".<locals>." ++ "<lambda>"))] : List (PySem.Addr × PySem.Str)) := hp; simp only [List.mem_cons, List.not_mem_nil, or_false] at hp; rcases hp with rfl | rfl | rfl <;> first | exact absurd e (by decide) | rfl); (case a => k_is); (case l => k_is)
    have l__law_kin_right := by refine' FL.lamT_of (x := "_law_kin_right") (st := M76.st__law_kin_right) (q := ("_law_kin_right" ++ ".<locals>." ++ "<lambda>")) (c := 524) (P := 522) KX G ?a ?l (TB _ (List.Mem.tail _ (List.Mem.tail _ (List.Mem.head _)))) (List.Mem.tail _ (List.Mem.tail _ (List.Mem.head _))) (by intro p hp e; replace hp : p ∈ ([(503, ("_law_near_right" ++ ".<locals>." ++ "<lambda>")), (510, ("_law_far_right" ++ ".<locals>." ++ "<lambda>")), (522, ("_law_kin_right" ++ ".<locals>." ++ "<lambda>"))] : List (PySem.Addr × PySem.Str)) := hp; simp only [List.mem_cons, List.not_mem_nil, or_false] at hp; rcases hp with rfl | rfl | rfl <;> first | exact absurd e (by decide) | rfl); (case a => k_is); (case l => k_is)
    have f_is_integer := by refine' FL.mkf (x := "is_integer") (st := M76.st_is_integer) KX G ?a ?l ?c ?k; (case a => k_is); (case l => k_is); (case c => k_is); (case k => k_is)
    have f_is_between := by refine' FL.mkf (x := "is_between") (st := M76.st_is_between) KX G ?a ?l ?c ?k; (case a => k_is); (case l => k_is); (case c => k_is); (case k => k_is)
    have f_check_between := by refine' FL.mkf (x := "check_between") (st := M76.st_check_between) KX G ?a ?l ?c ?k; (case a => k_is); (case l => k_is); (case c => k_is); (case k => k_is)
    have f_check_number := by refine' FL.mkf (x := "check_number") (st := M76.st_check_number) KX G ?a ?l ?c ?k; (case a => k_is); (case l => k_is); (case c => k_is); (case k => k_is)
    have f_check_span := by refine' FL.mkf (x := "check_span") (st := M76.st_check_span) KX G ?a ?l ?c ?k; (case a => k_is); (case l => k_is); (case c => k_is); (case k => k_is)
    have f_check_index := by refine' FL.mkf (x := "check_index") (st := M76.st_check_index) KX G ?a ?l ?c ?k; (case a => k_is); (case l => k_is); (case c => k_is); (case k => k_is)
    have f_is_fact := by refine' FL.mkf (x := "is_fact") (st := M76.st_is_fact) KX G ?a ?l ?c ?k; (case a => k_is); (case l => k_is); (case c => k_is); (case k => k_is)
    have f_facts_fault := by refine' FL.mkf (x := "facts_fault") (st := M76.st_facts_fault) KX G ?a ?l ?c ?k; (case a => k_is); (case l => k_is); (case c => k_is); (case k => k_is)
    have f_check_facts := by refine' FL.mkf (x := "check_facts") (st := M76.st_check_facts) KX G ?a ?l ?c ?k; (case a => k_is); (case l => k_is); (case c => k_is); (case k => k_is)
    have f_check_lamps := by refine' FL.mkf (x := "check_lamps") (st := M76.st_check_lamps) KX G ?a ?l ?c ?k; (case a => k_is); (case l => k_is); (case c => k_is); (case k => k_is)
    have f_common_of := by refine' FL.mkf (x := "common_of") (st := M76.st_common_of) KX G ?a ?l ?c ?k; (case a => k_is); (case l => k_is); (case c => k_is); (case k => k_is)
    have f_combined_of := by refine' FL.mkf (x := "combined_of") (st := M76.st_combined_of) KX G ?a ?l ?c ?k; (case a => k_is); (case l => k_is); (case c => k_is); (case k => k_is)
    have f_back_of := by refine' FL.mkf (x := "back_of") (st := M76.st_back_of) KX G ?a ?l ?c ?k; (case a => k_is); (case l => k_is); (case c => k_is); (case k => k_is)
    have f_raised := by refine' FL.mkf (x := "raised") (st := M76.st_raised) KX G ?a ?l ?c ?k; (case a => k_is); (case l => k_is); (case c => k_is); (case k => k_is)
    have f_do_quarrel := by refine' FL.mkf (x := "do_quarrel") (st := M76.st_do_quarrel) KX G ?a ?l ?c ?k; (case a => k_is); (case l => k_is); (case c => k_is); (case k => k_is)
    have f_all_quarrels := by refine' FL.mkf (x := "all_quarrels") (st := M76.st_all_quarrels) KX G ?a ?l ?c ?k; (case a => k_is); (case l => k_is); (case c => k_is); (case k => k_is)
    have f_least_pair := by refine' FL.mkf (x := "least_pair") (st := M76.st_least_pair) KX G ?a ?l ?c ?k; (case a => k_is); (case l => k_is); (case c => k_is); (case k => k_is)
    have f_put_together := by refine' FL.mkf (x := "put_together") (st := M76.st_put_together) KX G ?a ?l ?c ?k; (case a => k_is); (case l => k_is); (case c => k_is); (case k => k_is)
    have f_joined_of := by refine' FL.mkf (x := "joined_of") (st := M76.st_joined_of) KX G ?a ?l ?c ?k; (case a => k_is); (case l => k_is); (case c => k_is); (case k => k_is)
    have f_check_joined := by refine' FL.mkf (x := "check_joined") (st := M76.st_check_joined) KX G ?a ?l ?c ?k; (case a => k_is); (case l => k_is); (case c => k_is); (case k => k_is)
    have f_does_fit := by refine' FL.mkf (x := "does_fit") (st := M76.st_does_fit) KX G ?a ?l ?c ?k; (case a => k_is); (case l => k_is); (case c => k_is); (case k => k_is)
    have f_count_of := by refine' FL.mkf (x := "count_of") (st := M76.st_count_of) KX G ?a ?l ?c ?k; (case a => k_is); (case l => k_is); (case c => k_is); (case k => k_is)
    have f_first_from := by refine' FL.mkf (x := "first_from") (st := M76.st_first_from) KX G ?a ?l ?c ?k; (case a => k_is); (case l => k_is); (case c => k_is); (case k => k_is)
    have f_quarrels := by refine' FL.mkf (x := "quarrels") (st := M76.st_quarrels) KX G ?a ?l ?c ?k; (case a => k_is); (case l => k_is); (case c => k_is); (case k => k_is)
    have f_count := by refine' FL.mkf (x := "count") (st := M76.st_count) KX G ?a ?l ?c ?k; (case a => k_is); (case l => k_is); (case c => k_is); (case k => k_is)
    have f_nth := by refine' FL.mkf (x := "nth") (st := M76.st_nth) KX G ?a ?l ?c ?k; (case a => k_is); (case l => k_is); (case c => k_is); (case k => k_is)
    have f_with_fact := by refine' FL.mkf (x := "with_fact") (st := M76.st_with_fact) KX G ?a ?l ?c ?k; (case a => k_is); (case l => k_is); (case c => k_is); (case k => k_is)
    have f_without_fact := by refine' FL.mkf (x := "without_fact") (st := M76.st_without_fact) KX G ?a ?l ?c ?k; (case a => k_is); (case l => k_is); (case c => k_is); (case k => k_is)
    have f_count_weighed := by refine' FL.mkf (x := "count_weighed") (st := M76.st_count_weighed) KX G ?a ?l ?c ?k; (case a => k_is); (case l => k_is); (case c => k_is); (case k => k_is)
    have f_is_ask := by refine' FL.mkf (x := "is_ask") (st := M76.st_is_ask) KX G ?a ?l ?c ?k; (case a => k_is); (case l => k_is); (case c => k_is); (case k => k_is)
    have f_asks_fault := by refine' FL.mkf (x := "asks_fault") (st := M76.st_asks_fault) KX G ?a ?l ?c ?k; (case a => k_is); (case l => k_is); (case c => k_is); (case k => k_is)
    have f_check_asks := by refine' FL.mkf (x := "check_asks") (st := M76.st_check_asks) KX G ?a ?l ?c ?k; (case a => k_is); (case l => k_is); (case c => k_is); (case k => k_is)
    have f_check_looked := by refine' FL.mkf (x := "check_looked") (st := M76.st_check_looked) KX G ?a ?l ?c ?k; (case a => k_is); (case l => k_is); (case c => k_is); (case k => k_is)
    have f_weighed := by refine' FL.mkf (x := "weighed") (st := M76.st_weighed) KX G ?a ?l ?c ?k; (case a => k_is); (case l => k_is); (case c => k_is); (case k => k_is)
    have f_place_weighed := by refine' FL.mkf (x := "place_weighed") (st := M76.st_place_weighed) KX G ?a ?l ?c ?k; (case a => k_is); (case l => k_is); (case c => k_is); (case k => k_is)
    have f_check_left := by refine' FL.mkf (x := "check_left") (st := M76.st_check_left) KX G ?a ?l ?c ?k; (case a => k_is); (case l => k_is); (case c => k_is); (case k => k_is)
    have f_count_left := by refine' FL.mkf (x := "count_left") (st := M76.st_count_left) KX G ?a ?l ?c ?k; (case a => k_is); (case l => k_is); (case c => k_is); (case k => k_is)
    have f_least_left := by refine' FL.mkf (x := "least_left") (st := M76.st_least_left) KX G ?a ?l ?c ?k; (case a => k_is); (case l => k_is); (case c => k_is); (case k => k_is)
    have f_nth_left := by refine' FL.mkf (x := "nth_left") (st := M76.st_nth_left) KX G ?a ?l ?c ?k; (case a => k_is); (case l => k_is); (case c => k_is); (case k => k_is)
    have f_is_lit := by refine' FL.mkf (x := "is_lit") (st := M76.st_is_lit) KX G ?a ?l ?c ?k; (case a => k_is); (case l => k_is); (case c => k_is); (case k => k_is)
    have f_terms_of := by refine' FL.mkf (x := "terms_of") (st := M76.st_terms_of) KX G ?a ?l ?c ?k; (case a => k_is); (case l => k_is); (case c => k_is); (case k => k_is)
    have f_sign_of := by refine' FL.mkf (x := "sign_of") (st := M76.st_sign_of) KX G ?a ?l ?c ?k; (case a => k_is); (case l => k_is); (case c => k_is); (case k => k_is)
    have f_dark_between := by refine' FL.mkf (x := "dark_between") (st := M76.st_dark_between) KX G ?a ?l ?c ?k; (case a => k_is); (case l => k_is); (case c => k_is); (case k => k_is)
    have f_first_dark := by refine' FL.mkf (x := "first_dark") (st := M76.st_first_dark) KX G ?a ?l ?c ?k; (case a => k_is); (case l => k_is); (case c => k_is); (case k => k_is)
    have f_count_dark := by refine' FL.mkf (x := "count_dark") (st := M76.st_count_dark) KX G ?a ?l ?c ?k; (case a => k_is); (case l => k_is); (case c => k_is); (case k => k_is)
    have f_dark_from := by refine' FL.mkf (x := "dark_from") (st := M76.st_dark_from) KX G ?a ?l ?c ?k; (case a => k_is); (case l => k_is); (case c => k_is); (case k => k_is)
    have f__law_pail := by refine' FL.mkf (x := "_law_pail") (st := M76.st__law_pail) KX G ?a ?l ?c ?k; (case a => k_is); (case l => k_is); (case c => k_is); (case k => k_is)
    have f__law_dip := by refine' FL.mkf (x := "_law_dip") (st := M76.st__law_dip) KX G ?a ?l ?c ?k; (case a => k_is); (case l => k_is); (case c => k_is); (case k => k_is)
    have f__law_of := by refine' FL.mkf (x := "_law_of") (st := M76.st__law_of) KX G ?a ?l ?c ?k; (case a => k_is); (case l => k_is); (case c => k_is); (case k => k_is)
    have f__law_asks := by refine' FL.mkf (x := "_law_asks") (st := M76.st__law_asks) KX G ?a ?l ?c ?k; (case a => k_is); (case l => k_is); (case c => k_is); (case k => k_is)
    have f__law_is_left := by refine' FL.mkf (x := "_law_is_left") (st := M76.st__law_is_left) KX G ?a ?l ?c ?k; (case a => k_is); (case l => k_is); (case c => k_is); (case k => k_is)
    have f__law_lefts := by refine' FL.mkf (x := "_law_lefts") (st := M76.st__law_lefts) KX G ?a ?l ?c ?k; (case a => k_is); (case l => k_is); (case c => k_is); (case k => k_is)
    have f__law_near_right := by refine' FL.mkf (x := "_law_near_right") (st := M76.st__law_near_right) KX G ?a ?l ?c ?k; (case a => k_is); (case l => k_is); (case c => k_is); (case k => k_is)
    have f__law_far_right := by refine' FL.mkf (x := "_law_far_right") (st := M76.st__law_far_right) KX G ?a ?l ?c ?k; (case a => k_is); (case l => k_is); (case c => k_is); (case k => k_is)
    have f__law_parted_right := by refine' FL.mkf (x := "_law_parted_right") (st := M76.st__law_parted_right) KX G ?a ?l ?c ?k; (case a => k_is); (case l => k_is); (case c => k_is); (case k => k_is)
    have f__law_kin_right := by refine' FL.mkf (x := "_law_kin_right") (st := M76.st__law_kin_right) KX G ?a ?l ?c ?k; (case a => k_is); (case l => k_is); (case c => k_is); (case k => k_is)
    have f__law_right := by refine' FL.mkf (x := "_law_right") (st := M76.st__law_right) KX G ?a ?l ?c ?k; (case a => k_is); (case l => k_is); (case c => k_is); (case k => k_is)
    have f_law := by refine' FL.mkf (x := "law") (st := M76.st_law) KX G ?a ?l ?c ?k; (case a => k_is); (case l => k_is); (case c => k_is); (case k => k_is)
    exact M76.ok_law ⟨b_abs, b_all, b_any, b_bool, b_dict, b_divmod, b_enumerate, b_int, b_isinstance, b_len, b_max, b_min, b_range, b_repr, b_sum, b_tuple, g_ALL, g_MOST_FACT, g_MOST_FACTS, g_MOST_FALSE, g_MOST_LAMPS, g_MOST_NUMBER, e_NoNumber, i_InvalidIndex, h__law_heard, x_InvalidIndex_InvalidIndex, x_NoNumber_InvalidIndex, x_NoNumber_NoNumber, l__law_near_right, l__law_far_right, l__law_kin_right, f_is_integer, f_is_between, f_check_between, f_check_number, f_check_span, f_check_index, f_is_fact, f_facts_fault, f_check_facts, f_check_lamps, f_common_of, f_combined_of, f_back_of, f_raised, f_do_quarrel, f_all_quarrels, f_least_pair, f_put_together, f_joined_of, f_check_joined, f_does_fit, f_count_of, f_first_from, f_quarrels, f_count, f_nth, f_with_fact, f_without_fact, f_count_weighed, f_is_ask, f_asks_fault, f_check_asks, f_check_looked, f_weighed, f_place_weighed, f_check_left, f_count_left, f_least_left, f_nth_left, f_is_lit, f_terms_of, f_sign_of, f_dark_between, f_first_dark, f_count_dark, f_dark_from, f__law_pail, f__law_dip, f__law_of, f__law_asks, f__law_is_left, f__law_lefts, f__law_near_right, f__law_far_right, f__law_parted_right, f__law_kin_right, f__law_right, f_law⟩
#print axioms PySem.Challenge.cw_restlands_k76_whole_numbers_left_holds
