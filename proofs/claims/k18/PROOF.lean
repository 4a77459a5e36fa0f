import PyProof.Rows.All
import HandS.Conv
import HandS.Deep
import HandS.Dict
import HandS.EndTab
import HandS.ExcField
import HandS.ExcInit
import HandS.ExcIs
import HandS.ExcSuper
import HandS.ForExc
import HandS.ForMost
import HandS.HotCalls
import HandS.IsInst
import HandS.Lambda
import HandS.More
import HandS.Remove
import HandS.SetFor
import HandS.SortInts
import HandS.Strs
import HandS.Style
import HandS.TryMany
import HandS.TupAny
import HandS.TupMul
import HandS.Wide
import HandS.Zip
import KE.GoesMore
import KE.GoesZip
import KE.KExcIs
import KE.KExcSuper
import KE.RegKSuper
import OpenK.AllK
import Wide.All
import Wide.FinOn
import PySem.Challenge.RW_spelledways_k18_who_looks_at_which_stamp
set_option Elab.async false
set_option linter.all false
set_option maxRecDepth 100000
section
set_option maxHeartbeats 2000000
namespace DM
open PySem PySem.Spec PyProof.Rows L2

/-- data: tuples (and lists that nobody changes) by value, changing objects by number; exv: an exception in an except suite's hand; cl: an own class; fnv: a lambda, its code at c, made at the slots σ -/
inductive D where
  | non | bl (b : Bool) | int (i : Int) | str (x : Str) | ty (n : String) | abs (a : Addr) | cl (C : Str)
  | tup (xs : List D) | lst (xs : List D) | ref (n : Nat) | exv (a : Addr) (d : Option Addr) (ns : List Str) (ds : List D) | fnv (f c : Addr) (q : Str) (σ : List (Option V)) (ρ : List (Option D))
/-- a changing object; tab: a code object's table -/
inductive AO where
  | lst (xs : List D) | dk (kvs : List (Key × D)) | dt (kvs : List (List Key × D)) | ins (C : Str) (fs : List (Str × D)) | tab (P : Addr) (q : Str)
abbrev AH := List AO
/-- C: the class's name -/
inductive Res (α : Type) where
  | ok (a : α) (A : AH) | exc (C : Str) (fs : List (Str × D)) (A : AH) | no
def Res.bind {α β : Type} (r : Res α) (k : α → AH → Res β) : Res β := match r with
  | .ok a A => k a A
  | .exc C fs A => .exc C fs A
  | .no => .no
@[simp] theorem bind_ok {α β : Type} (a : α) (A : AH) (k : α → AH → Res β) : Res.bind (.ok a A) k = k a A := rfl
@[simp] theorem bind_exc {α β : Type} (C : Str) (fs : List (Str × D)) (A : AH) (k : α → AH → Res β) : Res.bind (.exc C fs A) k = .exc C fs A := rfl
@[simp] theorem bind_no {α β : Type} (k : α → AH → Res β) : Res.bind .no k = .no := rfl
abbrev Env := List (Option D)
abbrev ME := Env → AH → Res D
abbrev MT := Env → AH → Res Bool
abbrev MA := Env → AH → Res (List D)
inductive SRes where
  | nx (ρ : Env) (A : AH) | rt (d : D) (A : AH) | bk (ρ : Env) (A : AH) | ct (ρ : Env) (A : AH) | exc (C : Str) (fs : List (Str × D)) (ρ : Env) (A : AH) | no
abbrev MS := Env → AH → SRes

/-! ### what stands for what -/
/-- the class of a name -/
def clsV (K : PySem.W.Frag) (C : Str) : Option Value := (PySem.W.nsIn K mainGlobals C).join
/-- the numbered objects' addresses; those of lists that are being made -/
abbrev Mp := List Addr × List Addr
def Out (m : Mp) (a : Addr) : Prop := a ∉ m.1 ∧ a ∉ m.2
def SqT' (K : PySem.W.Frag) (m : Mp) (H : Hp) (a : Addr) (vs : List V) : Prop :=
  (Rd H a (.tup vs) ∧ Out m a) ∨ ∃ (o : Obj) (its : Array Value) (n : Nat), K.lookup a = some o ∧ o.cls = .type "tuple" ∧ o.data = .seq its n ∧ its.size ≤ sizeLine ∧ Vals vs its.toList
def SqL' (K : PySem.W.Frag) (m : Mp) (H : Hp) (a : Addr) (vs : List V) : Prop :=
  (Rd H a (.lst vs) ∧ Out m a) ∨ ∃ (o : Obj) (its : Array Value) (n : Nat), K.lookup a = some o ∧ o.cls = .type "list" ∧ o.dict = none ∧ o.data = .seq its n ∧ its.size ≤ sizeLine ∧ Vals vs its.toList
theorem SqT'.sq {K : PySem.W.Frag} {m : Mp} {H : Hp} {a : Addr} {vs : List V} (h : SqT' K m H a vs) : SqT K H a vs := h.elim (fun x => .inl x.1) .inr
theorem SqL'.sq {K : PySem.W.Frag} {m : Mp} {H : Hp} {a : Addr} {vs : List V} (h : SqL' K m H a vs) : SqL K H a vs := h.elim (fun x => .inl x.1) .inr
mutual
inductive RD (K : PySem.W.Frag) (m : Mp) (H : Hp) : D → V → Prop
  | non : RD K m H .non .non
  | bl (b : Bool) : RD K m H (.bl b) (.bl b)
  | int (i : Int) : RD K m H (.int i) (.int i)
  | str (x : Str) : RD K m H (.str x) (.str x)
  | ty (n : String) : RD K m H (.ty n) (.ty n)
  | abs (a : Addr) : RD K m H (.abs a) (.ref a)
  | cl {C : Str} {a : Addr} : clsV K C = some (.ref a) → RD K m H (.cl C) (.ref a)
  | tup {a : Addr} {vs : List V} {xs : List D} : SqT' K m H a vs → RDs K m H xs vs → RD K m H (.tup xs) (.ref a)
  | lst {a : Addr} {vs : List V} {xs : List D} : SqL' K m H a vs → RDs K m H xs vs → RD K m H (.lst xs) (.ref a)
  | ref {n : Nat} {a : Addr} : m.1[n]? = some a → RD K m H (.ref n) (.ref a)
  | exv0 (a : Addr) : RD K m H (.exv a none [] []) (.ref a)
  | exv1 {a dd : Addr} {gs : List (Str × V)} {ns : List Str} {ds : List D} : H dd = some (.xd gs) → Out m dd → ns = gs.map (·.1) → RDs K m H ds (gs.map (·.2)) → RD K m H (.exv a (some dd) ns ds) (.ref a)
  | fnv {f c : Addr} {q : Str} {σ : List (Option V)} {ρ : List (Option D)} : H c = some (LamX.CodeO c q) → Out m c → RDo K m H ρ σ → RD K m H (.fnv f c q σ ρ) (.ref f)
inductive RDo (K : PySem.W.Frag) (m : Mp) (H : Hp) : List (Option D) → List (Option V) → Prop
  | nil : RDo K m H [] []
  | none {ρ : List (Option D)} {x : Option V} {σ : List (Option V)} : RDo K m H ρ σ → RDo K m H (none :: ρ) (x :: σ)
  | some {d : D} {v : V} {ρ : List (Option D)} {σ : List (Option V)} : RD K m H d v → RDo K m H ρ σ → RDo K m H (some d :: ρ) (some v :: σ)
inductive RDs (K : PySem.W.Frag) (m : Mp) (H : Hp) : List D → List V → Prop
  | nil : RDs K m H [] []
  | cons {x : D} {xs : List D} {v : V} {vs : List V} : RD K m H x v → RDs K m H xs vs → RDs K m H (x :: xs) (v :: vs)
end
/-- carried over: the numbers stay, what is in nobody's hand stays -/
theorem sqT_move {K : PySem.W.Frag} {m m' : Mp} {H H' : Hp} (ho : ∀ a o, H a = some o → Out m a → H' a = some o ∧ Out m' a) {a : Addr} {vs : List V} (h : SqT' K m H a vs) : SqT' K m' H' a vs := by
  rcases h with ⟨r, hn⟩ | h
  · refine .inl ?_
    rcases r with r | ⟨o, r⟩
    · exact ⟨.inl (ho _ _ r hn).1, (ho _ _ r hn).2⟩
    · exact ⟨.inr ⟨o, (ho _ _ r hn).1⟩, (ho _ _ r hn).2⟩
  · exact .inr h
theorem sqL_move {K : PySem.W.Frag} {m m' : Mp} {H H' : Hp} (ho : ∀ a o, H a = some o → Out m a → H' a = some o ∧ Out m' a) {a : Addr} {vs : List V} (h : SqL' K m H a vs) : SqL' K m' H' a vs := by
  rcases h with ⟨r, hn⟩ | h
  · refine .inl ?_
    rcases r with r | ⟨o, r⟩
    · exact ⟨.inl (ho _ _ r hn).1, (ho _ _ r hn).2⟩
    · exact ⟨.inr ⟨o, (ho _ _ r hn).1⟩, (ho _ _ r hn).2⟩
  · exact .inr h
/-! no number of n or more is named -/
mutual
def clo (n : Nat) : D → Prop
  | .ref i => i < n
  | .tup xs => clos n xs
  | .lst xs => clos n xs
  | .exv _ _ _ ds => clos n ds
  | .fnv _ _ _ _ ρ => cloo n ρ
  | .non => True
  | .bl _ => True
  | .int _ => True
  | .str _ => True
  | .ty _ => True
  | .abs _ => True
  | .cl _ => True
def cloo (n : Nat) : List (Option D) → Prop
  | [] => True
  | none :: ρ => cloo n ρ
  | some d :: ρ => clo n d ∧ cloo n ρ
def clos (n : Nat) : List D → Prop
  | [] => True
  | d :: ds => clo n d ∧ clos n ds
end
mutual
theorem RD.moveN {K : PySem.W.Frag} {m m' : Mp} {H H' : Hp} {n : Nat} (hr : ∀ (i : Nat) (a : Addr), i < n → m.1[i]? = some a → m'.1[i]? = some a) (ho : ∀ a o, H a = some o → Out m a → H' a = some o ∧ Out m' a) : ∀ (d : D) (v : V), clo n d → RD K m H d v → RD K m' H' d v
  | .non, _, _, h => by cases h; exact .non
  | .bl b, _, _, h => by cases h; exact .bl b
  | .int i, _, _, h => by cases h; exact .int i
  | .str x, _, _, h => by cases h; exact .str x
  | .ty x, _, _, h => by cases h; exact .ty x
  | .abs x, _, _, h => by cases h; exact .abs x
  | .cl x, _, _, h => by cases h with | cl h => exact .cl h
  | .ref n, _, c, h => by cases h with | ref h => exact .ref (hr _ _ c h)
  | .tup xs, _, c, h => by cases h with | tup h r => exact .tup (sqT_move ho h) (RDs.moveN hr ho xs _ c r)
  | .lst xs, _, c, h => by cases h with | lst h r => exact .lst (sqL_move ho h) (RDs.moveN hr ho xs _ c r)
  | .exv a d ns ds, _, c, h => by
    cases h with
    | exv0 => exact .exv0 a
    | exv1 h1 h2 h3 r => exact .exv1 (ho _ _ h1 h2).1 (ho _ _ h1 h2).2 h3 (RDs.moveN hr ho ds _ c r)
  | .fnv f a q σ ρ, _, c, h => by cases h with | fnv h1 h2 r => exact .fnv (ho _ _ h1 h2).1 (ho _ _ h1 h2).2 (RDo.moveN hr ho ρ _ c r)
theorem RDo.moveN {K : PySem.W.Frag} {m m' : Mp} {H H' : Hp} {n : Nat} (hr : ∀ (i : Nat) (a : Addr), i < n → m.1[i]? = some a → m'.1[i]? = some a) (ho : ∀ a o, H a = some o → Out m a → H' a = some o ∧ Out m' a) : ∀ (ρ : List (Option D)) (σ : List (Option V)), cloo n ρ → RDo K m H ρ σ → RDo K m' H' ρ σ
  | [], _, _, h => by cases h; exact .nil
  | none :: ρ, _, c, h => by cases h with | none h => exact .none (RDo.moveN hr ho ρ _ c h)
  | some d :: ρ, _, c, h => by cases h with | some h r => exact .some (RD.moveN hr ho d _ c.1 h) (RDo.moveN hr ho ρ _ c.2 r)
theorem RDs.moveN {K : PySem.W.Frag} {m m' : Mp} {H H' : Hp} {n : Nat} (hr : ∀ (i : Nat) (a : Addr), i < n → m.1[i]? = some a → m'.1[i]? = some a) (ho : ∀ a o, H a = some o → Out m a → H' a = some o ∧ Out m' a) : ∀ (ds : List D) (vs : List V), clos n ds → RDs K m H ds vs → RDs K m' H' ds vs
  | [], _, _, h => by cases h; exact .nil
  | d :: ds, _, c, h => by cases h with | cons h r => exact .cons (RD.moveN hr ho d _ c.1 h) (RDs.moveN hr ho ds _ c.2 r)
end
mutual
theorem RD.clo {K : PySem.W.Frag} {m : Mp} {H : Hp} : ∀ (d : D) (v : V), RD K m H d v → DM.clo m.1.length d
  | .non, _, _ => trivial
  | .bl b, _, _ => trivial
  | .int b, _, _ => trivial
  | .str b, _, _ => trivial
  | .ty b, _, _ => trivial
  | .abs b, _, _ => trivial
  | .cl b, _, _ => trivial
  | .ref n, _, h => by cases h with | ref h => exact (List.getElem?_eq_some_iff.mp h).1
  | .tup xs, _, h => by cases h with | tup s r => exact RDs.clos xs _ r
  | .lst xs, _, h => by cases h with | lst s r => exact RDs.clos xs _ r
  | .exv a d ns ds, _, h => by
    cases h with
    | exv0 => trivial
    | exv1 _ _ _ r => exact RDs.clos ds _ r
  | .fnv f a q σ ρ, _, h => by cases h with | fnv _ _ r => exact RDo.cloo ρ _ r
theorem RDo.cloo {K : PySem.W.Frag} {m : Mp} {H : Hp} : ∀ (ρ : List (Option D)) (σ : List (Option V)), RDo K m H ρ σ → DM.cloo m.1.length ρ
  | [], _, _ => trivial
  | none :: ρ, _, h => by cases h with | none h => exact RDo.cloo ρ _ h
  | some d :: ρ, _, h => by cases h with | some h r => exact ⟨RD.clo d _ h, RDo.cloo ρ _ r⟩
theorem RDs.clos {K : PySem.W.Frag} {m : Mp} {H : Hp} : ∀ (ds : List D) (vs : List V), RDs K m H ds vs → DM.clos m.1.length ds
  | [], _, _ => trivial
  | d :: ds, _, h => by cases h with | cons h r => exact ⟨RD.clo d _ h, RDs.clos ds _ r⟩
end
/-- as above, all numbers -/
theorem RD.move {K : PySem.W.Frag} {m m' : Mp} {H H' : Hp} (hr : ∀ (i : Nat) (a : Addr), m.1[i]? = some a → m'.1[i]? = some a) (ho : ∀ a o, H a = some o → Out m a → H' a = some o ∧ Out m' a) (d : D) (v : V) (h : RD K m H d v) : RD K m' H' d v :=
  RD.moveN (n := m.1.length) (fun i a _ => hr i a) ho d v (RD.clo d v h) h
theorem RDs.move {K : PySem.W.Frag} {m m' : Mp} {H H' : Hp} (hr : ∀ (i : Nat) (a : Addr), m.1[i]? = some a → m'.1[i]? = some a) (ho : ∀ a o, H a = some o → Out m a → H' a = some o ∧ Out m' a) (d : List D) (v : List V) (h : RDs K m H d v) : RDs K m' H' d v :=
  RDs.moveN (n := m.1.length) (fun i a _ => hr i a) ho d v (RDs.clos d v h) h
structure Ext (m : Mp) (H : Hp) (m' : Mp) (H' : Hp) : Prop where
  pre : ∃ l, m'.1 = m.1 ++ l
  sub : ∀ p ∈ m.2, p ∈ m'.2
  pvs : ∀ p ∈ m'.2, p ∈ m.2 ∨ p ∈ m.1 ∨ H p = none
  new : ∀ p ∈ m'.1, p ∈ m.1 ∨ H p = none
  keep : ∀ p o, H p = some o → p ∉ m.1 → H' p = some o
theorem Ext.refl (m : Mp) (H : Hp) : Ext m H m H := ⟨⟨[], (List.append_nil m.1).symm⟩, fun _ h => h, fun _ h => .inl h, fun _ h => .inl h, fun _ _ h _ => h⟩
theorem Ext.none {m m1 : Mp} {H H1 : Hp} (a : Ext m H m1 H1) {p : Addr} (hm : p ∉ m.1) (z : H1 p = none) : H p = none := by
  cases q : H p with
  | none => rfl
  | some o =>
    have := a.keep p o q hm
    rw [z] at this; cases this
theorem Ext.trans {m m1 m2 : Mp} {H H1 H2 : Hp} (a : Ext m H m1 H1) (b : Ext m1 H1 m2 H2) : Ext m H m2 H2 := by
  have out : ∀ p o, H p = some o → p ∉ m.1 → p ∉ m1.1 := fun p o h hn hm => by
    rcases a.new p hm with z | z
    · exact hn z
    · rw [z] at h; cases h
  refine ⟨?_, fun p h => b.sub p (a.sub p h), fun p hp => ?_, fun p hp => ?_, fun p o h hn => b.keep p o (a.keep p o h hn) (out p o h hn)⟩
  · obtain ⟨l, h1⟩ := a.pre
    obtain ⟨l2, h2⟩ := b.pre
    exact ⟨l ++ l2, by rw [h2, h1, List.append_assoc]⟩
  · by_cases hm : p ∈ m.1
    · exact .inr (.inl hm)
    · rcases b.pvs p hp with z | z | z
      · exact a.pvs p z
      · rcases a.new p z with y | y
        · exact .inr (.inl y)
        · exact .inr (.inr y)
      · exact .inr (.inr (a.none hm z))
  · by_cases hm : p ∈ m.1
    · exact .inl hm
    · rcases b.new p hp with z | z
      · exact a.new p z
      · exact .inr (a.none hm z)
theorem Ext.get {m m' : Mp} {H H' : Hp} (e : Ext m H m' H') {n : Nat} {a : Addr} (h : m.1[n]? = some a) : m'.1[n]? = some a := by
  obtain ⟨l, h0⟩ := e.pre
  obtain ⟨h1, h2⟩ := List.getElem?_eq_some_iff.mp h
  rw [h0, List.getElem?_append_left h1]; exact h
theorem Ext.out {m m' : Mp} {H H' : Hp} (e : Ext m H m' H') {a : Addr} {o : HO} (q : H a = some o) (hn : Out m a) : H' a = some o ∧ Out m' a := by
  refine ⟨e.keep a o q hn.1, fun hm => ?_, fun hm => ?_⟩
  · rcases e.new a hm with z | z
    · exact hn.1 z
    · rw [z] at q; cases q
  · rcases e.pvs a hm with z | z | z
    · exact hn.2 z
    · exact hn.1 z
    · rw [z] at q; cases q
theorem RD.mono {K : PySem.W.Frag} {m m' : Mp} {H H' : Hp} (e : Ext m H m' H') (d : D) (v : V) (h : RD K m H d v) : RD K m' H' d v := RD.move (fun _ _ => e.get) (fun _ _ => e.out) d v h
theorem RDs.mono {K : PySem.W.Frag} {m m' : Mp} {H H' : Hp} (e : Ext m H m' H') (d : List D) (v : List V) (h : RDs K m H d v) : RDs K m' H' d v := RDs.move (fun _ _ => e.get) (fun _ _ => e.out) d v h
theorem RDs.length {K : PySem.W.Frag} {m : Mp} {H : Hp} : ∀ {ds : List D} {vs : List V}, RDs K m H ds vs → ds.length = vs.length
  | [], _, h => by cases h; rfl
  | d :: ds, _, h => by cases h with | cons h r => rw [List.length_cons, List.length_cons, RDs.length r]
theorem RDs.get {K : PySem.W.Frag} {m : Mp} {H : Hp} : ∀ {ds : List D} {vs : List V} {i : Nat} {d : D}, RDs K m H ds vs → ds[i]? = some d → ∃ v, vs[i]? = some v ∧ RD K m H d v
  | [], _, _, _, _, e => by simp at e
  | d :: ds, _, 0, x, h, e => by cases h with | cons h r => (simp at e; subst e; exact ⟨_, rfl, h⟩)
  | d :: ds, _, i + 1, x, h, e => by
    cases h with
    | cons h r =>
      obtain ⟨v, h1, h2⟩ := RDs.get (i := i) (d := x) r (by simpa using e)
      exact ⟨v, by simpa using h1, h2⟩
theorem RDs.get' {K : PySem.W.Frag} {m : Mp} {H : Hp} {ds : List D} {vs : List V} {i : Nat} {v : V} (h : RDs K m H ds vs) (e : vs[i]? = some v) : ∃ d, ds[i]? = some d ∧ RD K m H d v := by
  obtain ⟨h1, _⟩ := List.getElem?_eq_some_iff.mp e
  have hl := h.length
  have q : ds[i]? = some ds[i] := List.getElem?_eq_getElem (by omega)
  obtain ⟨w, e2, r⟩ := h.get q
  rw [e] at e2; cases e2
  exact ⟨_, q, r⟩
theorem RDs.append {K : PySem.W.Frag} {m : Mp} {H : Hp} : ∀ {ds es : List D} {vs ws : List V}, RDs K m H ds vs → RDs K m H es ws → RDs K m H (ds ++ es) (vs ++ ws)
  | [], _, _, _, h, q => by cases h; exact q
  | d :: ds, _, _, _, h, q => by cases h with | cons h r => exact .cons h (RDs.append r q)
theorem RDs.take {K : PySem.W.Frag} {m : Mp} {H : Hp} : ∀ {ds : List D} {vs : List V} (n : Nat), RDs K m H ds vs → RDs K m H (ds.take n) (vs.take n)
  | _, _, 0, _ => by simp; exact .nil
  | [], _, n + 1, h => by cases h; exact .nil
  | d :: ds, _, n + 1, h => by cases h with | cons h r => exact .cons h (RDs.take n r)
theorem RDs.drop {K : PySem.W.Frag} {m : Mp} {H : Hp} : ∀ {ds : List D} {vs : List V} (n : Nat), RDs K m H ds vs → RDs K m H (ds.drop n) (vs.drop n)
  | _, _, 0, h => h
  | [], _, n + 1, h => by cases h; exact .nil
  | d :: ds, _, n + 1, h => by cases h with | cons h r => exact RDs.drop n r
theorem RDs.set {K : PySem.W.Frag} {m : Mp} {H : Hp} {d : D} {v : V} (q : RD K m H d v) : ∀ {ds : List D} {vs : List V} (n : Nat), RDs K m H ds vs → RDs K m H (ds.set n d) (vs.set n v)
  | [], _, n, h => by cases h; exact .nil
  | _ :: ds, _, 0, h => by cases h with | cons h r => exact .cons q r
  | _ :: ds, _, n + 1, h => by cases h with | cons h r => exact .cons h (RDs.set q n r)


def RFs (K : PySem.W.Frag) (m : Mp) (H : Hp) (fs : List (Str × D)) (gs : List (Str × V)) : Prop := fs.map (·.1) = gs.map (·.1) ∧ RDs K m H (fs.map (·.2)) (gs.map (·.2))
/-- the values of a changing object -/
def AO.vals : AO → List D
  | .lst xs => xs
  | .dk kvs => kvs.map (·.2)
  | .dt kvs => kvs.map (·.2)
  | .ins _ fs => fs.map (·.2)
  | .tab _ _ => []
/-- the table at P: each code object that it tells bears the name q -/
def TabR (m : Mp) (H : Hp) (P : Addr) (q : Str) : Prop := ∃ ps : Array Value, H P = some (.tbl ps) ∧ TriplesOk ps.toList ∧ ∀ (pos : Pos) (cv : Value), codeAmong pos ps.toList = some cv → ∃ c, cv = .ref c ∧ H c = some (LamX.CodeO c q) ∧ Out m c
def ObjR (K : PySem.W.Frag) (m : Mp) (H : Hp) : AO → Addr → Prop
  | .lst xs, a => ∃ vs, H a = some (.lst vs) ∧ RDs K m H xs vs
  | .dk kvs, a => ∃ ws : List (Key × V), (H a = some (.dK ws) ∧ kvs.map (·.1) = ws.map (·.1)) ∧ RDs K m H (kvs.map (·.2)) (ws.map (·.2))
  | .dt kvs, a => ∃ ws : List (List Key × V), (H a = some (.dT ws) ∧ kvs.map (·.1) = ws.map (·.1)) ∧ RDs K m H (kvs.map (·.2)) (ws.map (·.2))
  | .ins C fs, a => ∃ gs : List (Str × V), (∃ c dx, clsV K C = some (.ref c) ∧ H a = some (.ins c dx gs) ∧ H dx = some (.own a) ∧ Out m dx ∧ fs.map (·.1) = gs.map (·.1)) ∧ RDs K m H (fs.map (·.2)) (gs.map (·.2))
  | .tab P q, a => a = P ∧ TabR m H P q
/-- its shape is carried over where its object is the same, its values where they are -/
theorem ObjR.moveN {K : PySem.W.Frag} {m m' : Mp} {H H' : Hp} {n : Nat} (hr : ∀ (i : Nat) (a : Addr), i < n → m.1[i]? = some a → m'.1[i]? = some a) (ho : ∀ a o, H a = some o → Out m a → H' a = some o ∧ Out m' a) {o : AO} {q : Addr} (hq : H' q = H q) (c : clos n o.vals) (h : ObjR K m H o q) : ObjR K m' H' o q := by
  cases o with
  | lst xs => obtain ⟨vs, e1, r⟩ := h; exact ⟨vs, hq.trans e1, RDs.moveN hr ho _ _ c r⟩
  | dk kvs => obtain ⟨vs, ⟨e1, e2⟩, r⟩ := h; exact ⟨vs, ⟨hq.trans e1, e2⟩, RDs.moveN hr ho _ _ c r⟩
  | dt kvs => obtain ⟨vs, ⟨e1, e2⟩, r⟩ := h; exact ⟨vs, ⟨hq.trans e1, e2⟩, RDs.moveN hr ho _ _ c r⟩
  | ins C fs =>
    obtain ⟨gs, ⟨cc, dx, e0, e1, e2, e3, e4⟩, r⟩ := h
    exact ⟨gs, ⟨cc, dx, e0, hq.trans e1, (ho _ _ e2 e3).1, (ho _ _ e2 e3).2, e4⟩, RDs.moveN hr ho _ _ c r⟩
  | tab P q =>
    obtain ⟨rfl, ps, e1, e2, e3⟩ := h
    refine ⟨rfl, ps, hq.trans e1, e2, fun pos cv hc => ?_⟩
    obtain ⟨c', f1, f2, f3⟩ := e3 pos cv hc
    exact ⟨c', f1, (ho _ _ f2 f3).1, (ho _ _ f2 f3).2⟩
theorem ObjR.clos {K : PySem.W.Frag} {m : Mp} {H : Hp} {o : AO} {q : Addr} (h : ObjR K m H o q) : DM.clos m.1.length o.vals := by
  cases o with
  | lst xs => obtain ⟨vs, e1, r⟩ := h; exact RDs.clos _ _ r
  | dk kvs => obtain ⟨vs, e1, r⟩ := h; exact RDs.clos _ _ r
  | dt kvs => obtain ⟨vs, e1, r⟩ := h; exact RDs.clos _ _ r
  | ins C fs => obtain ⟨vs, e1, r⟩ := h; exact RDs.clos _ _ r
  | tab P q => trivial
theorem ObjR.move {K : PySem.W.Frag} {m m' : Mp} {H H' : Hp} (hr : ∀ (i : Nat) (a : Addr), m.1[i]? = some a → m'.1[i]? = some a) (ho : ∀ a o, H a = some o → Out m a → H' a = some o ∧ Out m' a) {o : AO} {q : Addr} (hq : H' q = H q) (h : ObjR K m H o q) : ObjR K m' H' o q :=
  ObjR.moveN (n := m.1.length) (fun i a _ => hr i a) ho hq h.clos h
theorem ObjR.held {K : PySem.W.Frag} {m : Mp} {H : Hp} {o : AO} {q : Addr} (h : ObjR K m H o q) : H q ≠ none := by
  cases o with
  | lst xs => obtain ⟨vs, e, _⟩ := h; rw [e]; exact fun z => nomatch z
  | dk xs => obtain ⟨vs, ⟨e, _⟩, _⟩ := h; rw [e]; exact fun z => nomatch z
  | dt xs => obtain ⟨vs, ⟨e, _⟩, _⟩ := h; rw [e]; exact fun z => nomatch z
  | ins C fs => obtain ⟨gs, ⟨c, dx, _, e, _⟩, _⟩ := h; rw [e]; exact fun z => nomatch z
  | tab P q => obtain ⟨rfl, ps, e, _⟩ := h; rw [e]; exact fun z => nomatch z
structure Rel (K : PySem.W.Frag) (m : Mp) (A : AH) (H : Hp) : Prop where
  len : m.1.length = A.length
  nd : m.1.Nodup
  pv : ∀ p ∈ m.2, H p ≠ none
  obj : ∀ (n : Nat) (o : AO), A[n]? = some o → ∃ a, m.1[n]? = some a ∧ ObjR K m H o a
/-- slots -/
def REnv (K : PySem.W.Frag) (m : Mp) (H : Hp) (ρ : Env) (σ : L2.St) : Prop := ρ.length = σ.length ∧ ∀ (i : Nat) (d : D), ρ[i]? = some (some d) → ∃ v, σ[i]? = some (some v) ∧ RD K m H d v
theorem REnv.mono {K : PySem.W.Frag} {m m' : Mp} {H H' : Hp} {ρ : Env} {σ : L2.St} (e : Ext m H m' H') (h : REnv K m H ρ σ) : REnv K m' H' ρ σ :=
  ⟨h.1, fun i d q => let ⟨v, h1, h2⟩ := h.2 i d q; ⟨v, h1, RD.mono e _ _ h2⟩⟩
theorem REnv.set {K : PySem.W.Frag} {m : Mp} {H : Hp} {ρ : Env} {σ : L2.St} {d : D} {v : V} (h : REnv K m H ρ σ) (r : RD K m H d v) (i : Nat) : REnv K m H (ρ.set i (some d)) (σ.set i (some v)) := by
  refine ⟨by rw [List.length_set, List.length_set]; exact h.1, fun j e q => ?_⟩
  by_cases hj : i = j
  · subst hj
    by_cases hl : i < ρ.length
    · rw [List.getElem?_set_self hl] at q
      cases q
      exact ⟨v, List.getElem?_set_self (by rw [← h.1]; exact hl), r⟩
    · rw [List.getElem?_eq_none (by simpa using hl)] at q; cases q
  · rw [List.getElem?_set_ne hj] at q ⊢
    exact h.2 j e q
theorem REnv.unset {K : PySem.W.Frag} {m : Mp} {H : Hp} {ρ : Env} {σ : L2.St} (h : REnv K m H ρ σ) (i : Nat) (x : Option V) : REnv K m H (ρ.set i none) (σ.set i x) := by
  refine ⟨by rw [List.length_set, List.length_set]; exact h.1, fun j e q => ?_⟩
  by_cases hj : i = j
  · subst hj
    by_cases hl : i < ρ.length
    · rw [List.getElem?_set_self hl] at q; cases q
    · rw [List.getElem?_eq_none (by simpa using hl)] at q; cases q
  · rw [List.getElem?_set_ne hj] at q ⊢
    exact h.2 j e q

theorem REnv.toO {K : PySem.W.Frag} {m : Mp} {H : Hp} : ∀ {ρ : Env} {σ : L2.St}, REnv K m H ρ σ → RDo K m H ρ σ
  | [], [], _ => .nil
  | [], _ :: _, h => by have := h.1; simp at this
  | _ :: _, [], h => by have := h.1; simp at this
  | o :: ρ, x :: σ, h => by
    have hr : REnv K m H ρ σ := ⟨by have := h.1; simpa using this, fun i d e => by
      have := h.2 (i + 1) d (by simpa using e)
      simpa using this⟩
    cases o with
    | none => exact .none (REnv.toO hr)
    | some d =>
      obtain ⟨v, e, r⟩ := h.2 0 d (by simp)
      simp at e
      subst e
      exact .some r (REnv.toO hr)
theorem RDo.env {K : PySem.W.Frag} {m : Mp} {H : Hp} : ∀ {ρ : Env} {σ : L2.St}, RDo K m H ρ σ → REnv K m H ρ σ
  | [], _, h => by cases h; exact ⟨rfl, fun i d e => by simp at e⟩
  | Option.none :: ρ, _, h => by
    cases h with
    | none h =>
      have r := RDo.env h
      refine ⟨by simp [r.1], fun i d e => ?_⟩
      cases i with
      | zero => simp at e
      | succ i => simpa using r.2 i d (by simpa using e)
  | Option.some x :: ρ, _, h => by
    cases h with
    | some q h =>
      have r := RDo.env h
      refine ⟨by simp [r.1], fun i d e => ?_⟩
      cases i with
      | zero => simp at e; subst e; exact ⟨_, by simp, q⟩
      | succ i => simpa using r.2 i d (by simpa using e)

/-! ### what follows -/
/-- an exception's dict -/
def ExcAt (K : PySem.W.Frag) (m : Mp) (H : Hp) (fs : List (Str × D)) (d : Option Addr) : Prop := match d with
  | some dx => fs ≠ [] ∧ ∃ gs, H dx = some (.xd gs) ∧ Out m dx ∧ RFs K m H fs gs
  | none => fs = []
def Post {α β : Type} (K : PySem.W.Frag) (R : Mp → Hp → α → β → Prop) (W : WX) (σ : L2.St) (m : Mp) (H : Hp) (r : Res α) (Q : β → Hp → Prop) : Prop := match r with
  | .ok d A' => ∀ m' H' v, Ext m H m' H' → Rel K m' A' H' → R m' H' d v → Q v H'
  | .exc C fs A' => ∀ m' H' c dx, Ext m H m' H' → Rel K m' A' H' → clsV K C = some c → ExcAt K m' H' fs dx → W c dx σ H'
  | .no => False
def PostS (K : PySem.W.Frag) (W : WX) (m : Mp) (H : Hp) (r : SRes) (D : Ends) : Prop := match r with
  | .nx ρ A' => ∀ m' H' σ', Ext m H m' H' → Rel K m' A' H' → REnv K m' H' ρ σ' → D.nx σ' H'
  | .bk ρ A' => ∀ m' H' σ', Ext m H m' H' → Rel K m' A' H' → REnv K m' H' ρ σ' → D.bk σ' H'
  | .ct ρ A' => ∀ m' H' σ', Ext m H m' H' → Rel K m' A' H' → REnv K m' H' ρ σ' → D.ct σ' H'
  | .rt d A' => ∀ m' H' v, Ext m H m' H' → Rel K m' A' H' → RD K m' H' d v → D.rt v H'
  | .exc C fs ρ A' => ∀ m' H' c dx σ', Ext m H m' H' → Rel K m' A' H' → REnv K m' H' ρ σ' → clsV K C = some c → ExcAt K m' H' fs dx → W c dx σ' H'
  | .no => False
section
variable {K : PySem.W.Frag} {W : WX} {σ : L2.St} {m m' m1 : Mp} {H H' H1 : Hp} {α β γ δ : Type}
theorem Post.mono {R : Mp → Hp → α → β → Prop} {r : Res α} {Q : β → Hp → Prop} (e : Ext m H m1 H1) (h : Post K R W σ m H r Q) : Post K R W σ m1 H1 r Q := by
  cases r with
  | ok d A' => exact fun m' H' v e' => h m' H' v (e.trans e')
  | exc C fs A' => exact fun m' H' c dx e' => h m' H' c dx (e.trans e')
  | no => exact h
theorem PostS.mono {r : SRes} {D : Ends} (e : Ext m H m1 H1) (h : PostS K W m H r D) : PostS K W m1 H1 r D := by
  cases r with
  | nx ρ A' => exact fun m' H' v e' => h m' H' v (e.trans e')
  | bk ρ A' => exact fun m' H' v e' => h m' H' v (e.trans e')
  | ct ρ A' => exact fun m' H' v e' => h m' H' v (e.trans e')
  | rt d A' => exact fun m' H' v e' => h m' H' v (e.trans e')
  | exc C fs ρ A' => exact fun m' H' c dx σ' e' => h m' H' c dx σ' (e.trans e')
  | no => exact h
theorem Post.imp {R : Mp → Hp → α → β → Prop} {r : Res α} {Q Q' : β → Hp → Prop} (h : Post K R W σ m H r Q) (q : ∀ v H', Q v H' → Q' v H') : Post K R W σ m H r Q' := by
  cases r with
  | ok d A' => exact fun m' H' v e R' r' => q _ _ (h m' H' v e R' r')
  | exc C fs A' => exact h
  | no => exact h
theorem Post.bind {R : Mp → Hp → α → β → Prop} {R2 : Mp → Hp → γ → δ → Prop} {r : Res α} {k : α → AH → Res γ} {Q : δ → Hp → Prop} (h : Post K R2 W σ m H (r.bind k) Q) :
    Post K R W σ m H r fun v H1 => ∃ m1 A1 d, Ext m H m1 H1 ∧ Rel K m1 A1 H1 ∧ R m1 H1 d v ∧ Post K R2 W σ m1 H1 (k d A1) Q := by
  cases r with
  | ok d A' => exact fun m' H' v e R' r' => ⟨m', A', d, e, R', r', Post.mono e h⟩
  | exc C fs A' => exact h
  | no => exact h
end

/-! ### judgements -/
def tE (K : PySem.W.Frag) (W : WX) (me : ME) : TE := fun σ H Q => ∃ m A ρ, Rel K m A H ∧ REnv K m H ρ σ ∧ Post K (RD K) W σ m H (me ρ A) Q
def tT (K : PySem.W.Frag) (W : WX) (me : MT) : TT := fun σ H Q => ∃ m A ρ, Rel K m A H ∧ REnv K m H ρ σ ∧ Post K (fun _ _ a b => a = b) W σ m H (me ρ A) Q
def tA (K : PySem.W.Frag) (W : WX) (me : MA) : TA := fun σ H Q => ∃ m A ρ, Rel K m A H ∧ REnv K m H ρ σ ∧ Post K (RDs K) W σ m H (me ρ A) Q
def tS (K : PySem.W.Frag) (W : WX) (ms : MS) : TS := fun D σ H => ∃ m A ρ, Rel K m A H ∧ REnv K m H ρ σ ∧ PostS K W m H (ms ρ A) D
abbrev DE (X : Cx) (W : WX) (e : Expr) (me : ME) : Prop := PE X e (tE X.K W me)
abbrev DT (X : Cx) (W : WX) (e : Expr) (me : MT) : Prop := PT X e (tT X.K W me)
abbrev DW (X : Cx) (W : WX) (e : Expr) (me : MT) : Prop := PW X e (tT X.K W me)
abbrev DA (X : Cx) (W : WX) (es : List Expr) (me : MA) : Prop := PA X es (tA X.K W me)
abbrev DS (X : Cx) (W : WX) (st : Stmt) (ms : MS) : Prop := PS X st (tS X.K W ms)
abbrev DSs (X : Cx) (W : WX) (st : List Stmt) (ms : MS) : Prop := PSs X st (tS X.K W ms)
theorem PEi {X : Cx} {e : Expr} {t t' : TE} (h : PE X e t) (q : ∀ σ H Q, t' σ H Q → t σ H Q) : PE X e t' := ⟨fun pins s σ H Q I w => h.run pins s σ H Q I (q σ H Q w)⟩
theorem PTi {X : Cx} {e : Expr} {t t' : TT} (h : PT X e t) (q : ∀ σ H Q, t' σ H Q → t σ H Q) : PT X e t' := ⟨fun pins s σ H Q I w => h.run pins s σ H Q I (q σ H Q w)⟩
theorem PWi {X : Cx} {e : Expr} {t t' : TT} (h : PW X e t) (q : ∀ σ H Q, t' σ H Q → t σ H Q) : PW X e t' := ⟨fun wh pins s σ H Q I w => h.run wh pins s σ H Q I (q σ H Q w)⟩
theorem PAi {X : Cx} {e : List Expr} {t t' : TA} (h : PA X e t) (q : ∀ σ H Q, t' σ H Q → t σ H Q) : PA X e t' := ⟨fun pos pins s σ H Q I w => h.run pos pins s σ H Q I (q σ H Q w)⟩
theorem PSi {X : Cx} {e : Stmt} {t t' : TS} (h : PS X e t) (q : ∀ D σ H, t' D σ H → t D σ H) : PS X e t' := ⟨fun pins s σ H D I w => h.run pins s σ H D I (q D σ H w)⟩
theorem PSsi {X : Cx} {e : List Stmt} {t t' : TS} (h : PSs X e t) (q : ∀ D σ H, t' D σ H → t D σ H) : PSs X e t' := ⟨fun pins s σ H D I w => h.run pins s σ H D I (q D σ H w)⟩

section
variable {K : PySem.W.Frag} {W : WX} {σ : L2.St} {m : Mp} {A : AH} {ρ : Env} {H : Hp} {α β γ : Type}
/-- first an expression, then k -/
theorem tE.bind {R2 : Mp → Hp → γ → β → Prop} {me : ME} {k : D → AH → Res γ} {Q : β → Hp → Prop} {T : V → Hp → Prop} (R : Rel K m A H) (E : REnv K m H ρ σ) (h : Post K R2 W σ m H ((me ρ A).bind k) Q)
    (q : ∀ m1 A1 d v H1, Ext m H m1 H1 → Rel K m1 A1 H1 → REnv K m1 H1 ρ σ → RD K m1 H1 d v → Post K R2 W σ m1 H1 (k d A1) Q → T v H1) : tE K W me σ H T :=
  ⟨m, A, ρ, R, E, Post.imp (Post.bind h) fun v H1 ⟨m1, A1, d, e, R1, r, p⟩ => q m1 A1 d v H1 e R1 (E.mono e) r p⟩
theorem tT.bind {R2 : Mp → Hp → γ → β → Prop} {me : MT} {k : Bool → AH → Res γ} {Q : β → Hp → Prop} {T : Bool → Hp → Prop} (R : Rel K m A H) (E : REnv K m H ρ σ) (h : Post K R2 W σ m H ((me ρ A).bind k) Q)
    (q : ∀ m1 A1 b H1, Ext m H m1 H1 → Rel K m1 A1 H1 → REnv K m1 H1 ρ σ → Post K R2 W σ m1 H1 (k b A1) Q → T b H1) : tT K W me σ H T :=
  ⟨m, A, ρ, R, E, Post.imp (Post.bind (R := fun _ _ a b => a = b) h) fun v H1 ⟨m1, A1, d, e, R1, r, p⟩ => by subst r; exact q m1 A1 _ H1 e R1 (E.mono e) p⟩
theorem tA.bind {R2 : Mp → Hp → γ → β → Prop} {me : MA} {k : List D → AH → Res γ} {Q : β → Hp → Prop} {T : List V → Hp → Prop} (R : Rel K m A H) (E : REnv K m H ρ σ) (h : Post K R2 W σ m H ((me ρ A).bind k) Q)
    (q : ∀ m1 A1 ds vs H1, Ext m H m1 H1 → Rel K m1 A1 H1 → REnv K m1 H1 ρ σ → RDs K m1 H1 ds vs → Post K R2 W σ m1 H1 (k ds A1) Q → T vs H1) : tA K W me σ H T :=
  ⟨m, A, ρ, R, E, Post.imp (Post.bind h) fun v H1 ⟨m1, A1, d, e, R1, r, p⟩ => q m1 A1 d v H1 e R1 (E.mono e) r p⟩
/-- the end: a value, nothing changed -/
theorem Post.here {R : Mp → Hp → α → β → Prop} {d : α} {v : β} {Q : β → Hp → Prop} (R1 : Rel K m A H) (r : R m H d v) (h : Post K R W σ m H (.ok d A) Q) : Q v H := h m H v (Ext.refl m H) R1 r
end
end DM
end
section
set_option maxHeartbeats 2000000
namespace DM
open PySem PySem.Spec PyProof.Rows L2
section
variable {X : Cx} {W : WX} {a b c e : Expr} {es : List Expr} {ma mb mc me : ME} {pos p : Pos}
/-! ### names, constants -/
def mVar (i : Nat) : ME := fun ρ A => match ρ[i]? with | some (some d) => .ok d A | _ => .no
def mK (d : D) : ME := fun _ A => .ok d A
theorem d_var (i : Nat) {x : Str} (hN : X.N[i]? = some x := by rfl) (hv : Vis X.env.scope x := by first | exact Or.inl rfl | exact Or.inr (Or.inl rfl) | exact Or.inr (Or.inr rfl)) (hd : (x == ("__debug__" : Str)) = false := by decide)
    (hcd : (x == ("__classdict__" : Str)) = false := by decide) : DE X W (.Name x pos) (mVar i) := PEi (pe_var hN hv hd hcd) fun σ H Q ⟨m, A, ρ, R, E, h⟩ => by
  unfold mVar at h
  split at h
  · rename_i d hd
    obtain ⟨v, h1, h2⟩ := E.2 i d hd
    exact ⟨v, h1, Post.here R h2 h⟩
  · exact h.elim
theorem d_int {i : Int} {j : Nat} : DE X W (.Constant (.int i) j pos) (mK (.int i)) := PEi pe_int fun σ H Q ⟨m, A, ρ, R, E, h⟩ => Post.here R (.int i) h
theorem d_bl {i : Bool} {j : Nat} : DE X W (.Constant (.bool i) j pos) (mK (.bl i)) := PEi pe_bl fun σ H Q ⟨m, A, ρ, R, E, h⟩ => Post.here R (.bl i) h
theorem d_non {j : Nat} : DE X W (.Constant .none j pos) (mK .non) := PEi pe_non fun σ H Q ⟨m, A, ρ, R, E, h⟩ => Post.here R .non h
theorem d_str {i : Str} {j : Nat} : DE X W (.Constant (.str i) j pos) (mK (.str i)) := PEi pe_str fun σ H Q ⟨m, A, ρ, R, E, h⟩ => Post.here R (.str i) h
/-- a module's number, text .. -/
theorem d_glob {x : Str} {d : D} {v : V} {u : Value} (hg : Gl X x) (hm : X.mg x = some u) (r : RelV v u) (q : ∀ m H, RD X.K m H d v) (hd : (x == ("__debug__" : Str)) = false := by decide) : DE X W (.Name x pos) (mK d) :=
  PEi (pe_glob hg hm r hd) fun σ H Q ⟨m, A, ρ, R, E, h⟩ => Post.here R (q m H) h

theorem d_gint {x : Str} {i : Int} {t : Tok} (hm : X.mg x = some (.int i t)) (hg : Gl X x := by rfl) (hd : (x == ("__debug__" : Str)) = false := by decide) : DE X W (.Name x pos) (mK (.int i)) := d_glob hg hm (v := .int i) ⟨t, rfl⟩ (fun _ _ => .int i) hd
/-! ### two-place operations -/
def OpD (K : PySem.W.Frag) (f : D → D → AH → Res D) (r : R2) : Prop :=
  ∀ (W : WX) (σ : L2.St) (m : Mp) (A : AH) (H : Hp) (x y : V) (d e : D) (Q : VK), Rel K m A H → RD K m H d x → RD K m H e y → Post K (RD K) W σ m H (f d e A) Q → r x y H Q
def mOp (f : D → D → AH → Res D) (ma mb : ME) : ME := fun ρ A => (ma ρ A).bind fun x A1 => (mb ρ A1).bind fun y A2 => f x y A2
theorem tOpD {K : PySem.W.Frag} {f : D → D → AH → Res D} {r : R2} (hf : OpD K f r) {σ : L2.St} {H : Hp} {Q : VK} (h : tE K W (mOp f ma mb) σ H Q) : tOp r (tE K W ma) (tE K W mb) σ H Q := by
  obtain ⟨m, A, ρ, R, E, h⟩ := h
  exact tE.bind R E h fun m1 A1 d v H1 e1 R1 E1 r1 h1 => tE.bind R1 E1 h1 fun m2 A2 d2 v2 H2 e2 R2 E2 r2 h2 => hf W σ m2 A2 H2 v v2 d d2 Q R2 (RD.mono e2 _ _ r1) r2 h2
theorem d_op {op : Operator} {f : D → D → AH → Res D} {r : R2} (ho : OpR X (binaryOp op) r) (hf : OpD X.K f r) (ha : DE X W a ma) (hb : DE X W b mb) : DE X W (.BinOp a op b pos) (mOp f ma mb) :=
  PEi (pe_op ho ha hb) fun _ _ _ h => tOpD hf h
theorem OpD.or1 {K : PySem.W.Frag} {f : D → D → AH → Res D} {r r' : R2} (h : OpD K f r) : OpD K f (fun x y H Q => r x y H Q ∨ r' x y H Q) := fun W σ m A H x y d e Q R a b q => .inl (h W σ m A H x y d e Q R a b q)
/-- ints in -/
def fI (C : Int → Int → Prop) [∀ i j, Decidable (C i j)] (g : Int → Int → D) : D → D → AH → Res D := fun d e A => match d, e with
  | .int i, .int j => if C i j then .ok (g i j) A else .no
  | _, _ => .no
theorem fI_ok {K : PySem.W.Frag} {C C' : Int → Int → Prop} [∀ i j, Decidable (C i j)] {g : Int → Int → D} {g' : Int → Int → V} (hC : ∀ i j, C i j → C' i j) (hg : ∀ m H i j, RD K m H (g i j) (g' i j)) : OpD K (fI C g) (rI C' g') := by
  intro W σ m A H x y d e Q R hx hy h
  unfold fI at h
  split at h
  · rename_i i j
    cases hx; cases hy
    split at h
    · rename_i hc
      exact ⟨i, j, rfl, rfl, hC i j hc, Post.here R (hg m H i j) h⟩
    · exact h.elim
  · exact h.elim
def fI0 (g : Int → Int → D) : D → D → AH → Res D := fun d e A => match d, e with
  | .int i, .int j => .ok (g i j) A
  | _, _ => .no
theorem fI0_ok {K : PySem.W.Frag} {g : Int → Int → D} {g' : Int → Int → V} (hg : ∀ m H i j, RD K m H (g i j) (g' i j)) : OpD K (fI0 g) (rI0 g') := by
  intro W σ m A H x y d e Q R hx hy h
  unfold fI0 at h
  split at h
  · rename_i i j
    cases hx; cases hy
    exact ⟨i, j, rfl, rfl, Post.here R (hg m H i j) h⟩
  · exact h.elim
instance (i j : Int) : Decidable (CMul i j) := by unfold CMul; infer_instance
instance (i j : Int) : Decidable (CPow i j) := by unfold CPow; infer_instance
instance (i j : Int) : Decidable (CDiv i j) := by unfold CDiv; infer_instance
def fSub : D → D → AH → Res D := fI0 fun i j => .int (i - j)
def fMul : D → D → AH → Res D := fI CMul fun i j => .int (i * j)
def fDiv : D → D → AH → Res D := fI CDiv fun i j => .int (i / j)
def fMod : D → D → AH → Res D := fI (fun _ j => 0 < j) fun i j => .int (i % j)
def fPow : D → D → AH → Res D := fI CPow fun i j => .int (i ^ j.toNat)
def fShr : D → D → AH → Res D := fI (fun _ j => 0 ≤ j) fun i j => .int (i / 2 ^ j.toNat)
def fShl : D → D → AH → Res D := fI CPow fun i j => .int (i * 2 ^ j.toNat)
def fAnd : D → D → AH → Res D := fI0 fun i j => .int (Builtin.bitAnd i j)
theorem d_sub (ha : DE X W a ma) (hb : DE X W b mb) : DE X W (.BinOp a .Sub b pos) (mOp fSub ma mb) := d_op op_sub (fI0_ok fun _ _ _ _ => .int _) ha hb
theorem d_mul (ha : DE X W a ma) (hb : DE X W b mb) : DE X W (.BinOp a .Mult b pos) (mOp fMul ma mb) := d_op op_mul (fI_ok (fun _ _ h => h) fun _ _ _ _ => .int _) ha hb
theorem d_div (ha : DE X W a ma) (hb : DE X W b mb) : DE X W (.BinOp a .FloorDiv b pos) (mOp fDiv ma mb) := d_op op_fdiv (fI_ok (fun _ _ h => h) fun _ _ _ _ => .int _) ha hb
theorem d_mod (ha : DE X W a ma) (hb : DE X W b mb) : DE X W (.BinOp a .Mod b pos) (mOp fMod ma mb) := d_op op_mod (fI_ok (fun _ _ h => h) fun _ _ _ _ => .int _) ha hb
theorem d_pow (ha : DE X W a ma) (hb : DE X W b mb) : DE X W (.BinOp a .Pow b pos) (mOp fPow ma mb) := d_op op_pow (fI_ok (fun _ _ h => h) fun _ _ _ _ => .int _) ha hb
theorem d_shr (ha : DE X W a ma) (hb : DE X W b mb) : DE X W (.BinOp a .RShift b pos) (mOp fShr ma mb) := d_op op_shr (fI_ok (fun _ _ h => h) fun _ _ _ _ => .int _) ha hb
theorem d_shl (ha : DE X W a ma) (hb : DE X W b mb) : DE X W (.BinOp a .LShift b pos) (mOp fShl ma mb) := d_op op_shl (fI_ok (fun _ _ h => h) fun _ _ _ _ => .int _) ha hb
theorem d_and (ha : DE X W a ma) (hb : DE X W b mb) : DE X W (.BinOp a .BitAnd b pos) (mOp fAnd ma mb) := d_op op_and (fI0_ok fun _ _ _ _ => .int _) ha hb

/-! ### a new object that is a value -/
theorem Rel.there {K : PySem.W.Frag} {m : Mp} {A : AH} {H : Hp} (R : Rel K m A H) {q : Addr} (hq : q ∈ m.1) : ∃ (n : Nat) (o : AO), m.1[n]? = some q ∧ A[n]? = some o ∧ ObjR K m H o q := by
  obtain ⟨n, hn, e⟩ := List.mem_iff_getElem.mp hq
  have hA : A[n]? = some (A[n]'(by rw [← R.len]; exact hn)) := List.getElem?_eq_getElem _
  obtain ⟨a, h1, h2⟩ := R.obj n _ hA
  have h0 : m.1[n]? = some q := by rw [List.getElem?_eq_getElem hn, e]
  rw [h0] at h1; cases h1
  exact ⟨n, _, h0, hA, h2⟩
theorem ObjR.keep {K : PySem.W.Frag} {m m' : Mp} {H H' : Hp} (e : Ext m H m' H') {o : AO} {q : Addr} (hq : H' q = H q) (h : ObjR K m H o q) : ObjR K m' H' o q := ObjR.move (fun _ _ => e.get) (fun _ _ => e.out) hq h
theorem Rel.out {K : PySem.W.Frag} {m : Mp} {A : AH} {H : Hp} (R : Rel K m A H) {q : Addr} (h : H q = none) : Out m q := ⟨fun hq => by
  obtain ⟨n, o, _, _, r⟩ := R.there hq
  exact r.held h, fun hq => R.pv q hq h⟩
theorem held_keep {H H' : Hp} (k : ∀ p o, H p = some o → H' p = some o) {q : Addr} (h : H q ≠ none) : H' q ≠ none := by
  cases z : H q with
  | none => exact absurd z h
  | some u => rw [k q u z]; exact fun y => nomatch y
/-- the numbered objects as they were, something else new -/
theorem Rel.beside {K : PySem.W.Frag} {m : Mp} {A : AH} {H H' : Hp} (R : Rel K m A H) (k : ∀ p o, H p = some o → H' p = some o) : Rel K m A H' ∧ Ext m H m H' := by
  have e : Ext m H m H' := ⟨⟨[], (List.append_nil m.1).symm⟩, fun _ h => h, fun _ h => .inl h, fun _ h => .inl h, fun p o h _ => k p o h⟩
  refine ⟨⟨R.len, R.nd, fun p hp => held_keep k (R.pv p hp), fun n o hn => ?_⟩, e⟩
  obtain ⟨q, h1, h2⟩ := R.obj n o hn
  refine ⟨q, h1, h2.keep e ?_⟩
  cases z : H q with
  | none => exact absurd z h2.held
  | some u => exact k q u z
theorem Rel.new {K : PySem.W.Frag} {m : Mp} {A : AH} {H : Hp} (R : Rel K m A H) {q : Addr} (h : H q = none) (o : HO) : Rel K m A (upd H q o) ∧ Ext m H m (upd H q o) :=
  R.beside fun p u z => by rw [upd_ne (ne_of_none z h)]; exact z
/-- one of them changed -/
theorem Rel.write {K : PySem.W.Frag} {m : Mp} {A : AH} {H H' : Hp} (R : Rel K m A H) {n : Nat} {q : Addr} {o : AO} (hn : m.1[n]? = some q) (k : ∀ p u, p ≠ q → H p = some u → H' p = some u) (ho : Ext m H m H' → ObjR K m H' o q) : Rel K m (A.set n o) H' ∧ Ext m H m H' := by
  have hm : q ∈ m.1 := List.mem_of_getElem? hn
  have e : Ext m H m H' := ⟨⟨[], (List.append_nil m.1).symm⟩, fun _ h => h, fun _ h => .inl h, fun _ h => .inl h, fun p u h hp => k p u (fun z => hp (by rw [z]; exact hm)) h⟩
  refine ⟨⟨by rw [List.length_set]; exact R.len, R.nd, fun p hp z => ?_, fun j u hj => ?_⟩, e⟩
  · by_cases hpq : p = q
    · subst hpq
      exact (ho e).held z
    · cases y : H p with
      | none => exact R.pv p hp y
      | some u => rw [k p u hpq y] at z; cases z
  · by_cases hjn : n = j
    · subst hjn
      have hl : n < A.length := by rw [← R.len]; exact (List.getElem?_eq_some_iff.mp hn).1
      rw [List.getElem?_set_self hl] at hj; cases hj
      exact ⟨q, hn, ho e⟩
    · rw [List.getElem?_set_ne hjn] at hj
      obtain ⟨p, h1, h2⟩ := R.obj j u hj
      refine ⟨p, h1, h2.keep e ?_⟩
      have hpq : p ≠ q := fun z => by
        subst z
        obtain ⟨l1, e1⟩ := List.getElem?_eq_some_iff.mp h1
        obtain ⟨l2, e2⟩ := List.getElem?_eq_some_iff.mp hn
        exact hjn ((List.getElem_inj R.nd).mp (e2.trans e1.symm))
      cases z : H p with
      | none => exact absurd z h2.held
      | some w => exact k p w hpq z
/-- a new one -/
theorem Rel.push {K : PySem.W.Frag} {m : Mp} {A : AH} {H H' : Hp} (R : Rel K m A H) {q : Addr} {o : AO} (h : H q = none) (k : ∀ p u, H p = some u → H' p = some u) (ho : Ext m H (m.1 ++ [q], m.2) H' → ObjR K (m.1 ++ [q], m.2) H' o q) : Rel K (m.1 ++ [q], m.2) (A ++ [o]) H' ∧ Ext m H (m.1 ++ [q], m.2) H' := by
  have e : Ext m H (m.1 ++ [q], m.2) H' := ⟨⟨[q], rfl⟩, fun _ h => h, fun _ h => .inl h, fun p hp => (List.mem_append.mp hp).elim .inl fun z => .inr (by rw [List.mem_singleton.mp z]; exact h), fun p u z _ => k p u z⟩
  refine ⟨⟨by rw [List.length_append, List.length_append, R.len]; rfl, List.nodup_append.mpr ⟨R.nd, by simp, fun x hx y hy z => (R.out h).1 (by rw [← List.mem_singleton.mp hy, ← z]; exact hx)⟩, fun p hp => held_keep k (R.pv p hp), fun n u hn => ?_⟩, e⟩
  by_cases hl : n < A.length
  · rw [List.getElem?_append_left hl] at hn
    obtain ⟨p, h1, h2⟩ := R.obj n u hn
    refine ⟨p, e.get h1, h2.keep e ?_⟩
    cases z : H p with
    | none => exact absurd z h2.held
    | some w => exact k p w z
  · rw [List.getElem?_append_right (by omega)] at hn
    have h0 : n - A.length = 0 := by
      have := (List.getElem?_eq_some_iff.mp hn).1
      simp at this; omega
    rw [h0] at hn
    cases hn
    refine ⟨q, ?_, ho e⟩
    show (m.1 ++ [q])[n]? = some q
    rw [List.getElem?_append_right (by rw [R.len]; omega), R.len, h0]; rfl
theorem tup_new {K : PySem.W.Frag} {m : Mp} {A : AH} {H : Hp} {σ : L2.St} {ds : List D} {vs : List V} {Q : VK} (R : Rel K m A H) (r : RDs K m H ds vs) (h : Post K (RD K) W σ m H (.ok (.tup ds) A) Q) : ∀ p, H p = none → Q (.ref p) (upd H p (.tup vs)) := fun p hp =>
  let ⟨R1, e1⟩ := R.new hp (.tup vs)
  h m _ _ e1 R1 (.tup (.inl ⟨.inl upd_same, R.out hp⟩) (RDs.mono e1 _ _ r))
theorem lst_new {K : PySem.W.Frag} {m : Mp} {A : AH} {H : Hp} {σ : L2.St} {ds : List D} {vs : List V} {Q : VK} (R : Rel K m A H) (r : RDs K m H ds vs) (h : Post K (RD K) W σ m H (.ok (.lst ds) A) Q) : ∀ p, H p = none → Q (.ref p) (upd H p (.lst vs)) := fun p hp =>
  let ⟨R1, e1⟩ := R.new hp (.lst vs)
  h m _ _ e1 R1 (.lst (.inl ⟨.inl upd_same, R.out hp⟩) (RDs.mono e1 _ _ r))
theorem ref_new {K : PySem.W.Frag} {m : Mp} {A : AH} {H : Hp} {σ : L2.St} {ds : List D} {vs : List V} {Q : VK} (R : Rel K m A H) (r : RDs K m H ds vs) (h : Post K (RD K) W σ m H (.ok (.ref A.length) (A ++ [.lst ds])) Q) : ∀ p, H p = none → Q (.ref p) (upd H p (.lst vs)) := fun p hp =>
  let ⟨R1, e1⟩ := R.push (H' := upd H p (.lst vs)) (o := .lst ds) hp (fun q u z => by rw [upd_ne (ne_of_none z hp)]; exact z) fun e => ⟨vs, upd_same, RDs.mono e _ _ r⟩
  h _ _ _ e1 R1 (.ref (by rw [← R.len]; simp))
/-! ### a + b -/
def fAdd : D → D → AH → Res D := fun d e A => match d, e with
  | .int i, .int j => .ok (.int (i + j)) A
  | .str x, .str y => if x.length + y.length ≤ 16777216 then .ok (.str (x ++ y)) A else .no
  | .tup xs, .tup ys => if xs.length + ys.length ≤ 16777216 then .ok (.tup (xs ++ ys)) A else .no
  | .lst xs, .lst ys => if xs.length + ys.length ≤ 16777216 then .ok (.lst (xs ++ ys)) A else .no
  | _, _ => .no
def rCatL (K : PySem.W.Frag) : R2 := fun x y H Q => ∃ l b xs zs, x = .ref l ∧ y = .ref b ∧ SqL K H l xs ∧ SqL K H b zs ∧ xs.length + zs.length ≤ sizeLine ∧ ∀ p, H p = none → Q (.ref p) (upd H p (.lst (xs ++ zs)))
theorem fAdd_ok {K : PySem.W.Frag} : OpD K fAdd (fun x y H Q => rI0 (fun i j => .int (i + j)) x y H Q ∨ (∃ i j, x = .str i ∧ y = .str j ∧ i.length + j.length ≤ sizeLine ∧ Q (.str (i ++ j)) H) ∨ rCatA K x y H Q ∨ rCatL K x y H Q) := by
  intro W σ m A H x y d e Q R hx hy h
  have sz : (sizeLine : Nat) = 16777216 := sizeLine_eq
  unfold fAdd at h
  split at h
  · rename_i i j
    cases hx; cases hy
    exact .inl ⟨i, j, rfl, rfl, Post.here R (.int _) h⟩
  · rename_i i j
    cases hx; cases hy
    split at h
    · rename_i hz
      exact .inr (.inl ⟨i, j, rfl, rfl, by rw [sz]; exact hz, Post.here R (.str _) h⟩)
    · exact h.elim
  · rename_i xs ys
    cases hx with
    | tup sx rx =>
      cases hy with
      | tup sy ry =>
        rename_i a vs b ws
        split at h
        · rename_i hz
          refine .inr (.inr (.inl ⟨a, b, vs, ws, rfl, rfl, sx.sq, sy.sq, by rw [sz, ← rx.length, ← ry.length]; exact hz, fun e0 => ?_, fun _ e0 => ?_, fun _ _ => tup_new R (rx.append ry) h⟩))
          · subst e0
            cases rx
            exact Post.here R (.tup sy ry) h
          · subst e0
            cases ry
            rw [List.append_nil] at h
            exact Post.here R (.tup sx rx) h
        · exact h.elim
  · rename_i xs ys
    cases hx with
    | lst sx rx =>
      cases hy with
      | lst sy ry =>
        rename_i a vs b ws
        split at h
        · rename_i hz
          exact .inr (.inr (.inr ⟨a, b, vs, ws, rfl, rfl, sx.sq, sy.sq, by rw [sz, ← rx.length, ← ry.length]; exact hz, lst_new R (rx.append ry) h⟩))
        · exact h.elim
  · exact h.elim
/-- two lists that are read, joined -/
theorem op_catL : OpR X (binaryOp .Add) (rCatL X.K) := by
  intro pins s σ H x y v u Q I rx ry h
  obtain ⟨l, b, xs, zs, rfl, rfl, hx, hz, hl, q⟩ := h
  cases rx; cases ry
  obtain ⟨i1, r1, ⟨o1, n1, g1, c1, d1, t1⟩, l1⟩ := I.list hx
  obtain ⟨i2, r2, ⟨o2, n2, g2, c2, d2, t2⟩, l2⟩ := I.list hz
  obtain ⟨oc1, od1, ot1, os1⟩ := o1
  obtain ⟨oc2, od2, ot2, os2⟩ := o2
  simp only at c1 d1 t1 c2 d2 t2
  subst c1 d1 t1 c2 d2 t2
  have e1 := r1.length
  have e2 := r2.length
  refine concat_meets ⟨_, g1, rfl⟩ ⟨_, g2, rfl⟩ noFill_list_add seq_list_add PySem.F.slot_list_add PySem.F.entry_list_add (PySem.F.args_list_add_2 _ _)
    (list_addW l b i1.toArray i2.toArray n1 n2 none none os1 os2 (by rw [List.size_toArray, List.size_toArray]; omega)) ⟨g1, g2, ?_⟩
  rw [show i1.toArray ++ i2.toArray = (i1 ++ i2).toArray by simp]
  exact ⟨.ref _, _, I.lnew (t' := s.toks) (r1.append r2) (by rw [List.length_append]; omega), rfl, q _ I.fresh⟩
end
end DM
end
section
set_option maxHeartbeats 2000000
namespace DM
open PySem PySem.Spec PyProof.Rows L2
/-! ### plain data -/
mutual
def toPy : D → Option PyData
  | .non => some .none
  | .bl b => some (.bool b)
  | .int i => some (.int i)
  | .str x => some (.str x)
  | .tup xs => (toPys xs).map .tuple
  | .lst xs => (toPys xs).map .list
  | .ty _ => none
  | .abs _ => none
  | .cl _ => none
  | .ref _ => none
  | .exv _ _ _ _ => none
  | .fnv _ _ _ _ _ => none
def toPys : List D → Option (List PyData)
  | [] => some []
  | x :: xs => match toPy x, toPys xs with
    | some d, some ds => some (d :: ds)
    | _, _ => none
end
mutual
def toPyG (g : Nat → Option PyData) : D → Option PyData
  | .non => some .none
  | .bl b => some (.bool b)
  | .int i => some (.int i)
  | .str x => some (.str x)
  | .tup xs => (toPysG g xs).map .tuple
  | .lst xs => (toPysG g xs).map .list
  | .ty _ => none
  | .abs _ => none
  | .cl _ => none
  | .ref n => g n
  | .exv _ _ _ _ => none
  | .fnv _ _ _ _ _ => none
def toPysG (g : Nat → Option PyData) : List D → Option (List PyData)
  | [] => some []
  | x :: xs => match toPyG g x, toPysG g xs with
    | some d, some ds => some (d :: ds)
    | _, _ => none
end
/-- changing lists, within one another k deep -/
def refPy (A : AH) : Nat → Nat → Option PyData
  | 0, _ => none
  | k + 1, n => match A[n]? with
    | some (.lst xs) => (toPysG (refPy A k) xs).map .list
    | _ => none
def toPyA (A : AH) (d : D) : Option PyData := match toPy d with
  | some p => some p
  | none => toPyG (refPy A 3) d
mutual
theorem RD.dp {K : PySem.W.Frag} {m : Mp} {H : Hp} : ∀ (d : D) (v : V) (p : PyData), RD K m H d v → toPy d = some p → Dp K H v p
  | .non, _, _, h, e => by cases h; cases e; exact .non
  | .bl b, _, _, h, e => by cases h; cases e; exact .bl b
  | .int b, _, _, h, e => by cases h; cases e; exact .int b
  | .str b, _, _, h, e => by cases h; cases e; exact .str b
  | .tup xs, _, _, h, e => by
    cases h with
    | tup s r =>
      simp only [toPy, Option.map_eq_some_iff] at e
      obtain ⟨ds, e1, rfl⟩ := e
      exact .tup s.sq (RDs.dp xs _ ds r e1)
  | .lst xs, _, _, h, e => by
    cases h with
    | lst s r =>
      simp only [toPy, Option.map_eq_some_iff] at e
      obtain ⟨ds, e1, rfl⟩ := e
      exact .lst s.sq (RDs.dp xs _ ds r e1)
  | .ty _, _, _, _, e => by cases e
  | .abs _, _, _, _, e => by cases e
  | .cl _, _, _, _, e => by cases e
  | .ref _, _, _, _, e => by cases e
  | .exv _ _ _ _, _, _, _, e => by cases e
  | .fnv _ _ _ _ _, _, _, _, e => by cases e
theorem RDs.dp {K : PySem.W.Frag} {m : Mp} {H : Hp} : ∀ (ds : List D) (vs : List V) (ps : List PyData), RDs K m H ds vs → toPys ds = some ps → DpAll K H vs ps
  | [], _, _, h, e => by cases h; cases e; exact .nil
  | d :: ds, _, _, h, e => by
    cases h with
    | cons h r =>
      unfold toPys at e
      split at e
      · rename_i p ps e1 e2
        cases e
        exact .cons (RD.dp d _ p h e1) (RDs.dp ds _ ps r e2)
      · cases e
end
mutual
theorem RD.dpG {K : PySem.W.Frag} {m : Mp} {H : Hp} {g : Nat → Option PyData} (hg : ∀ n a p, m.1[n]? = some a → g n = some p → Dp K H (.ref a) p) : ∀ (d : D) (v : V) (p : PyData), RD K m H d v → toPyG g d = some p → Dp K H v p
  | .non, _, _, h, e => by cases h; cases e; exact .non
  | .bl b, _, _, h, e => by cases h; cases e; exact .bl b
  | .int b, _, _, h, e => by cases h; cases e; exact .int b
  | .str b, _, _, h, e => by cases h; cases e; exact .str b
  | .tup xs, _, _, h, e => by
    cases h with
    | tup s r =>
      simp only [toPyG, Option.map_eq_some_iff] at e
      obtain ⟨ds, e1, rfl⟩ := e
      exact .tup s.sq (RDs.dpG hg xs _ ds r e1)
  | .lst xs, _, _, h, e => by
    cases h with
    | lst s r =>
      simp only [toPyG, Option.map_eq_some_iff] at e
      obtain ⟨ds, e1, rfl⟩ := e
      exact .lst s.sq (RDs.dpG hg xs _ ds r e1)
  | .ty _, _, _, _, e => by cases e
  | .abs _, _, _, _, e => by cases e
  | .cl _, _, _, _, e => by cases e
  | .ref n, _, _, h, e => by cases h with | ref hm => exact hg n _ _ hm e
  | .exv _ _ _ _, _, _, _, e => by cases e
  | .fnv _ _ _ _ _, _, _, _, e => by cases e
theorem RDs.dpG {K : PySem.W.Frag} {m : Mp} {H : Hp} {g : Nat → Option PyData} (hg : ∀ n a p, m.1[n]? = some a → g n = some p → Dp K H (.ref a) p) : ∀ (ds : List D) (vs : List V) (ps : List PyData), RDs K m H ds vs → toPysG g ds = some ps → DpAll K H vs ps
  | [], _, _, h, e => by cases h; cases e; exact .nil
  | d :: ds, _, _, h, e => by
    cases h with
    | cons h r =>
      unfold toPysG at e
      split at e
      · rename_i p ps e1 e2
        cases e
        exact .cons (RD.dpG hg d _ p h e1) (RDs.dpG hg ds _ ps r e2)
      · cases e
end
theorem refPy_ok {K : PySem.W.Frag} {m : Mp} {A : AH} {H : Hp} (R : Rel K m A H) : ∀ (k n : Nat) (a : Addr) (p : PyData), m.1[n]? = some a → refPy A k n = some p → Dp K H (.ref a) p
  | 0, _, _, _, _, e => by cases e
  | k + 1, n, a, p, hm, e => by
    unfold refPy at e
    split at e
    · rename_i xs hA
      obtain ⟨q, h1, vs, h2, r⟩ := R.obj n _ hA
      rw [hm] at h1; cases h1
      simp only [Option.map_eq_some_iff] at e
      obtain ⟨ds, e1, rfl⟩ := e
      exact .lst (.inl (.inl h2)) (RDs.dpG (refPy_ok R k) xs _ ds r e1)
    · cases e
theorem RD.dpA {K : PySem.W.Frag} {m : Mp} {A : AH} {H : Hp} {d : D} {v : V} {p : PyData} (R : Rel K m A H) (h : RD K m H d v) (e : toPyA A d = some p) : Dp K H v p := by
  unfold toPyA at e
  split at e
  · rename_i q hq
    cases e
    exact RD.dp _ _ _ h hq
  · exact RD.dpG (refPy_ok R 3) _ _ _ h e

section
variable {X : Cx} {W : WX} {a b c e : Expr} {es : List Expr} {ma mb mc me : ME} {mt mu : MT} {ms : MA} {pos p : Pos}
/-! ### comparisons -/
/-- == -/
def cEq (A : AH) (d e : D) : Option Bool := match d, e with
  | .int i, .int j => some (decide (i = j))
  | .str x, .str y => some (decide (x = y))
  | .bl x, .bl y => some (decide (x = y))
  | d, e => match toPyA A d, toPyA A e with
    | some p, some q => if SeqAt.shaped p = true ∧ SeqAt.shaped q = true then some (PyData.eqv p q) else none
    | _, _ => none
def fEq (neg : Bool) : D → D → AH → Res D := fun d e A => match cEq A d e with
  | some k => .ok (.bl (if neg then !k else k)) A
  | none => .no
theorem cEq_ok {K : PySem.W.Frag} {m : Mp} {A : AH} {H : Hp} {x y : V} {d e : D} {k : Bool} (R : Rel K m A H) (hx : RD K m H d x) (hy : RD K m H e y) (h : cEq A d e = some k) :
    (scal x y = true ∧ k = decide (x = y)) ∨ ∃ p q, Dp K H x p ∧ Dp K H y q ∧ SeqAt.shaped p = true ∧ SeqAt.shaped q = true ∧ k = PyData.eqv p q := by
  unfold cEq at h
  split at h
  · cases hx; cases hy
    cases h
    refine .inl ⟨rfl, ?_⟩
    simp
  · cases hx; cases hy
    cases h
    refine .inl ⟨rfl, ?_⟩
    simp
  · cases hx; cases hy
    cases h
    refine .inl ⟨rfl, ?_⟩
    simp
  · split at h
    · rename_i p q h1 h2
      split at h
      · rename_i hs
        cases h
        exact .inr ⟨p, q, RD.dpA R hx h1, RD.dpA R hy h2, hs.1, hs.2, rfl⟩
      · cases h
    · cases h
theorem fEq_ok {K : PySem.W.Frag} : OpD K (fEq false) (fun x y H Q => rEq x y H Q ∨ rEqD K x y H Q) := by
  intro W σ m A H x y d e Q R hx hy h
  unfold fEq at h
  split at h
  · rename_i k hk
    have q := Post.here R (.bl _) h
    rcases cEq_ok R hx hy hk with ⟨h1, rfl⟩ | ⟨p, q', h1, h2, h3, h4, rfl⟩
    · exact .inl ⟨h1, q⟩
    · exact .inr ⟨p, q', h1, h2, h3, h4, q⟩
  · exact h.elim
theorem fNe_ok {K : PySem.W.Frag} : OpD K (fEq true) (fun x y H Q => rNe x y H Q ∨ rNeD K x y H Q) := by
  intro W σ m A H x y d e Q R hx hy h
  unfold fEq at h
  split at h
  · rename_i k hk
    have q := Post.here R (.bl _) h
    rcases cEq_ok R hx hy hk with ⟨h1, rfl⟩ | ⟨p, q', h1, h2, h3, h4, rfl⟩
    · exact .inl ⟨h1, q⟩
    · exact .inr ⟨p, q', h1, h2, h3, h4, q⟩
  · exact h.elim
/-- is None -/
def isNon : D → Bool
  | .non => true
  | _ => false
def fIsN (neg : Bool) : D → D → AH → Res D := fun d e A => match e with
  | .non => .ok (.bl (if neg then !isNon d else isNon d)) A
  | _ => .no
theorem isNon_ok {K : PySem.W.Frag} {m : Mp} {H : Hp} {d : D} {x : V} (h : RD K m H d x) : isNon d = decide (x = .non) := by
  cases h <;> simp [isNon]
theorem fIsN_ok {K : PySem.W.Frag} : OpD K (fIsN false) (fun x y H Q => y = .non ∧ Q (.bl (decide (x = .non))) H) := by
  intro W σ m A H x y d e Q R hx hy h
  unfold fIsN at h
  split at h
  · cases hy
    rw [← isNon_ok hx]
    exact ⟨rfl, Post.here R (.bl _) h⟩
  · exact h.elim
theorem fNotN_ok {K : PySem.W.Frag} : OpD K (fIsN true) (fun x y H Q => y = .non ∧ Q (.bl (!decide (x = .non))) H) := by
  intro W σ m A H x y d e Q R hx hy h
  unfold fIsN at h
  split at h
  · cases hy
    rw [← isNon_ok hx]
    exact ⟨rfl, Post.here R (.bl _) h⟩
  · exact h.elim
/-- in, flat things -/
def flatD : D → Bool
  | .non => true
  | .bl _ => true
  | .int _ => true
  | .str _ => true
  | _ => false
def eqD : D → D → Bool
  | .non, .non => true
  | .bl a, .bl b => a == b
  | .bl a, .int b => (if a then 1 else 0) == b
  | .int a, .bl b => a == (if b then 1 else 0)
  | .int a, .int b => a == b
  | .str a, .str b => a == b
  | _, _ => false
theorem flat_ok {K : PySem.W.Frag} {m : Mp} {H : Hp} {d : D} {x : V} (h : RD K m H d x) : flatV x = flatD d := by cases h <;> rfl
theorem eq_ok {K : PySem.W.Frag} {m : Mp} {H : Hp} {d e : D} {x y : V} (h : RD K m H d x) (h' : RD K m H e y) : eqV x y = eqD d e := by cases h <;> cases h' <;> rfl
theorem flats_ok {K : PySem.W.Frag} {m : Mp} {H : Hp} : ∀ {ds : List D} {xs : List V}, RDs K m H ds xs → xs.all flatV = ds.all flatD
  | [], _, h => by cases h; rfl
  | d :: ds, _, h => by cases h with | cons h r => rw [List.all_cons, List.all_cons, flat_ok h, flats_ok r]
theorem ins_ok {K : PySem.W.Frag} {m : Mp} {H : Hp} {e : D} {y : V} (h' : RD K m H e y) : ∀ {ds : List D} {xs : List V}, RDs K m H ds xs → inV y xs = ds.any fun d => eqD d e
  | [], _, h => by cases h; rfl
  | d :: ds, _, h => by
    cases h with
    | cons h r =>
      have ih := ins_ok h' r
      unfold inV at ih ⊢
      rw [List.any_cons, List.any_cons, eq_ok h h', ih]
/-- the items of a list, a tuple -/
def seqOf (A : AH) (d : D) : Option (List D) := match d with
  | .tup xs => some xs
  | .lst xs => some xs
  | .ref n => match A[n]? with
    | some (.lst xs) => some xs
    | _ => none
  | _ => none
theorem seqOf_ok {K : PySem.W.Frag} {m : Mp} {A : AH} {H : Hp} {d : D} {v : V} {xs : List D} (R : Rel K m A H) (h : RD K m H d v) (e : seqOf A d = some xs) :
    ∃ a vs, v = .ref a ∧ (SqL K H a vs ∨ SqT K H a vs) ∧ RDs K m H xs vs := by
  unfold seqOf at e
  split at e
  · cases e
    cases h with
    | tup s r => exact ⟨_, _, rfl, .inr s.sq, r⟩
  · cases e
    cases h with
    | lst s r => exact ⟨_, _, rfl, .inl s.sq, r⟩
  · split at e
    · rename_i hA
      cases e
      cases h with
      | ref hm =>
        obtain ⟨q, h1, vs, h2, r⟩ := R.obj _ _ hA
        rw [hm] at h1; cases h1
        exact ⟨_, vs, rfl, .inl (.inl (.inl h2)), r⟩
    · cases e
  · cases e
def fIn (neg : Bool) : D → D → AH → Res D := fun d e A => match seqOf A e with
  | some xs => if flatD d = true ∧ xs.all flatD = true then .ok (.bl (if neg then !(xs.any fun z => eqD z d) else xs.any fun z => eqD z d)) A else .no
  | none => .no
theorem fIn_ok {K : PySem.W.Frag} (neg : Bool) : OpD K (fIn neg) (rIn K neg) := by
  intro W σ m A H x y d e Q R hx hy h
  unfold fIn at h
  split at h
  · rename_i xs hs
    split at h
    · rename_i hf
      obtain ⟨q, vs, rfl, sq, r⟩ := seqOf_ok R hy hs
      refine ⟨q, vs, rfl, sq, (flat_ok hx).trans hf.1, (flats_ok r).trans hf.2, ?_⟩
      rw [ins_ok hx r]
      exact Post.here R (.bl _) h
    · exact h.elim
  · exact h.elim
def fLt : D → D → AH → Res D := fI0 fun i j => .bl (decide (i < j))
def fLe : D → D → AH → Res D := fI0 fun i j => .bl (decide (i ≤ j))
def fGt : D → D → AH → Res D := fI0 fun i j => .bl (decide (j < i))
def fGe : D → D → AH → Res D := fI0 fun i j => .bl (decide (j ≤ i))
theorem fCmp_ok {K : PySem.W.Frag} {g : Int → Int → Bool} : OpD K (fI0 fun i j => .bl (g i j)) (rI0 fun i j => .bl (g i j)) := fI0_ok fun _ _ _ _ => .bl _
/-- a value as a test: a bool -/
def mTst (me : ME) : MT := fun ρ A => (me ρ A).bind fun d A1 => match d with
  | .bl k => .ok k A1
  | _ => .no
theorem d_cmp {op : CmpOp} {f : D → D → AH → Res D} {r : R2} (ho : OpR X (compareOp op) r) (hf : OpD X.K f r) (ha : DE X W a ma) (hb : DE X W b mb) (hm : behindInMarks op b = false := by first | exact nomark _ | rfl) : DE X W (.Compare a [op] [b] pos) (mOp f ma mb) :=
  PEi (pe_cmpR ho ha hb hm) fun _ _ _ h => tOpD hf h
theorem tTstD {K : PySem.W.Frag} {t : TE} {σ : L2.St} {H : Hp} {Q : Bool → Hp → Prop} (ht : ∀ Q' : VK, tE K W me σ H Q' → t σ H Q') (h : tT K W (mTst me) σ H Q) : t σ H fun x H' => ∃ k, x = .bl k ∧ Q k H' := by
  obtain ⟨m, A, ρ, R, E, h⟩ := h
  refine ht _ (tE.bind R E h fun m1 A1 d v H1 e1 R1 E1 r1 h1 => ?_)
  split at h1
  · cases r1
    exact ⟨_, rfl, Post.here R1 rfl h1⟩
  · exact h1.elim
theorem t_cmp {op : CmpOp} {f : D → D → AH → Res D} {r : R2} (ho : OpR X (compareOp op) r) (hf : OpD X.K f r) (ha : DE X W a ma) (hb : DE X W b mb) (hm : behindInMarks op b = false := by first | exact nomark _ | rfl) : DT X W (.Compare a [op] [b] pos) (mTst (mOp f ma mb)) :=
  PTi (pt_cmpR ho ha hb hm) fun _ _ _ h => tTstD (fun _ q => tOpD hf q) h
/-- a < b < c -/
def mChn (f g : D → D → AH → Res D) (ma mb mc : ME) : ME := fun ρ A => (ma ρ A).bind fun x A1 => (mb ρ A1).bind fun y A2 => (f x y A2).bind fun z A3 => match z with
  | .bl true => (mc ρ A3).bind fun w A4 => g y w A4
  | .bl false => .ok (.bl false) A3
  | _ => .no
/-- tests -/
theorem t_val (ha : DE X W a ma) (he : ∀ whole, isTrue a X.env whole = (do let v ← whole; standAt a.pos; holding [v] (truthy v)) := by intro _; rfl) : DT X W a (mTst ma) :=
  PTi (pt_val ha he) fun _ _ _ h => tTstD (fun _ q => q) h
def mAnd (mt mu : MT) : MT := fun ρ A => (mt ρ A).bind fun k A1 => if k = true then mu ρ A1 else .ok false A1
def mOr (mt mu : MT) : MT := fun ρ A => (mt ρ A).bind fun k A1 => if k = true then .ok true A1 else mu ρ A1
def mNot (mt : MT) : MT := fun ρ A => (mt ρ A).bind fun k A1 => .ok (!k) A1
theorem w_and1 (ha : DT X W a mt) : DW X W (.BoolOp .And [a] pos) mt := pw_and1 ha
theorem w_or1 (ha : DT X W a mt) : DW X W (.BoolOp .Or [a] pos) mt := pw_or1 ha
theorem w_and (ha : DT X W a mt) (hb : DW X W (.BoolOp .And (b :: es) pos) mu) : DW X W (.BoolOp .And (a :: b :: es) pos) (mAnd mt mu) :=
  PWi (pw_and ha hb) fun σ H Q ⟨m, A, ρ, R, E, h⟩ => tT.bind R E h fun m1 A1 k H1 e1 R1 E1 h1 => by
    cases k with
    | true => exact ⟨m1, A1, ρ, R1, E1, h1⟩
    | false => exact Post.here R1 rfl h1
theorem w_or (ha : DT X W a mt) (hb : DW X W (.BoolOp .Or (b :: es) pos) mu) : DW X W (.BoolOp .Or (a :: b :: es) pos) (mOr mt mu) :=
  PWi (pw_or ha hb) fun σ H Q ⟨m, A, ρ, R, E, h⟩ => tT.bind R E h fun m1 A1 k H1 e1 R1 E1 h1 => by
    cases k with
    | false => exact ⟨m1, A1, ρ, R1, E1, h1⟩
    | true => exact Post.here R1 rfl h1
theorem t_not (ha : DT X W a mt) : DT X W (.UnaryOp .Not a pos) (mNot mt) :=
  PTi (pt_not ha) fun σ H Q ⟨m, A, ρ, R, E, h⟩ => tT.bind R E h fun m1 A1 k H1 e1 R1 E1 h1 => Post.here R1 rfl h1
/-- as values -/
def mAndV (ma mb : ME) : ME := fun ρ A => (ma ρ A).bind fun d A1 => match d with
  | .bl true => mb ρ A1
  | .bl false => .ok (.bl false) A1
  | _ => .no
def mOrV (ma mb : ME) : ME := fun ρ A => (ma ρ A).bind fun d A1 => match d with
  | .bl true => .ok (.bl true) A1
  | .bl false => mb ρ A1
  | _ => .no
def mNotV (ma : ME) : ME := fun ρ A => (ma ρ A).bind fun d A1 => match d with
  | .bl k => .ok (.bl (!k)) A1
  | _ => .no
theorem d_one {op : BoolOp} (h : DE X W a ma) : DE X W (.BoolOp op [a] pos) ma := pe_one h
theorem d_andV (ha : DE X W a ma) (hb : DE X W (.BoolOp .And (b :: es) pos) mb) : DE X W (.BoolOp .And (a :: b :: es) pos) (mAndV ma mb) :=
  PEi (pe_and ha hb) fun σ H Q ⟨m, A, ρ, R, E, h⟩ => tE.bind R E h fun m1 A1 d v H1 e1 R1 E1 r1 h1 => by
    split at h1
    · cases r1; exact ⟨true, rfl, m1, A1, ρ, R1, E1, h1⟩
    · cases r1; exact ⟨false, rfl, Post.here R1 (.bl _) h1⟩
    · exact h1.elim
theorem d_orV (ha : DE X W a ma) (hb : DE X W (.BoolOp .Or (b :: es) pos) mb) : DE X W (.BoolOp .Or (a :: b :: es) pos) (mOrV ma mb) :=
  PEi (pe_or ha hb) fun σ H Q ⟨m, A, ρ, R, E, h⟩ => tE.bind R E h fun m1 A1 d v H1 e1 R1 E1 r1 h1 => by
    split at h1
    · cases r1; exact ⟨true, rfl, Post.here R1 (.bl _) h1⟩
    · cases r1; exact ⟨false, rfl, m1, A1, ρ, R1, E1, h1⟩
    · exact h1.elim
theorem d_notV (ha : DE X W a ma) : DE X W (.UnaryOp .Not a pos) (mNotV ma) :=
  PEi (pe_not ha) fun σ H Q ⟨m, A, ρ, R, E, h⟩ => tE.bind R E h fun m1 A1 d v H1 e1 R1 E1 r1 h1 => by
    split at h1
    · cases r1; exact ⟨_, rfl, Post.here R1 (.bl _) h1⟩
    · exact h1.elim
def mIf (mt : MT) (ma mb : ME) : ME := fun ρ A => (mt ρ A).bind fun k A1 => if k = true then ma ρ A1 else mb ρ A1
theorem d_if (hc : DT X W c mt) (ha : DE X W a ma) (hb : DE X W b mb) : DE X W (.IfExp c a b pos) (mIf mt ma mb) :=
  PEi (pe_ifExp hc ha hb) fun σ H Q ⟨m, A, ρ, R, E, h⟩ => tT.bind R E h fun m1 A1 k H1 e1 R1 E1 h1 => by
    cases k with
    | true => exact ⟨m1, A1, ρ, R1, E1, h1⟩
    | false => exact ⟨m1, A1, ρ, R1, E1, h1⟩
/-- - a -/
def mNeg (ma : ME) : ME := fun ρ A => (ma ρ A).bind fun d A1 => match d with
  | .int i => .ok (.int (-i)) A1
  | _ => .no
theorem d_neg (ha : DE X W a ma) : DE X W (.UnaryOp .USub a pos) (mNeg ma) :=
  PEi (pe_un un_neg ha) fun σ H Q ⟨m, A, ρ, R, E, h⟩ => tE.bind R E h fun m1 A1 d v H1 e1 R1 E1 r1 h1 => by
    split at h1
    · cases r1; exact ⟨_, rfl, Post.here R1 (.int _) h1⟩
    · exact h1.elim
/-- the comparisons one writes -/
theorem d_add (ha : DE X W a ma) (hb : DE X W b mb) : DE X W (.BinOp a .Add b pos) (mOp fAdd ma mb) := d_op (op_add.or (op_add_str.or (op_catA.or op_catL))) fAdd_ok ha hb
theorem d_eq (hu : X.A.units + 64 < cLine) (ha : DE X W a ma) (hb : DE X W b mb) : DE X W (.Compare a [.Eq] [b] pos) (mOp (fEq false) ma mb) := d_cmp (op_eq.or (op_eqD hu)) fEq_ok ha hb
theorem d_ne (hu : X.A.units + 64 < cLine) (ha : DE X W a ma) (hb : DE X W b mb) : DE X W (.Compare a [.NotEq] [b] pos) (mOp (fEq true) ma mb) := d_cmp (op_ne.or (op_neD hu)) fNe_ok ha hb
theorem t_eq (hu : X.A.units + 64 < cLine) (ha : DE X W a ma) (hb : DE X W b mb) : DT X W (.Compare a [.Eq] [b] pos) (mTst (mOp (fEq false) ma mb)) := t_cmp (op_eq.or (op_eqD hu)) fEq_ok ha hb
theorem t_ne (hu : X.A.units + 64 < cLine) (ha : DE X W a ma) (hb : DE X W b mb) : DT X W (.Compare a [.NotEq] [b] pos) (mTst (mOp (fEq true) ma mb)) := t_cmp (op_ne.or (op_neD hu)) fNe_ok ha hb
theorem d_is (ha : DE X W a ma) (hb : DE X W b mb) : DE X W (.Compare a [.Is] [b] pos) (mOp (fIsN false) ma mb) := d_cmp op_isN fIsN_ok ha hb
theorem d_isnt (ha : DE X W a ma) (hb : DE X W b mb) : DE X W (.Compare a [.IsNot] [b] pos) (mOp (fIsN true) ma mb) := d_cmp op_notN fNotN_ok ha hb
theorem t_is (ha : DE X W a ma) (hb : DE X W b mb) : DT X W (.Compare a [.Is] [b] pos) (mTst (mOp (fIsN false) ma mb)) := t_cmp op_isN fIsN_ok ha hb
theorem t_isnt (ha : DE X W a ma) (hb : DE X W b mb) : DT X W (.Compare a [.IsNot] [b] pos) (mTst (mOp (fIsN true) ma mb)) := t_cmp op_notN fNotN_ok ha hb
theorem d_in (ha : DE X W a ma) (hb : DE X W b mb) (hm : behindInMarks .In b = false := by rfl) : DE X W (.Compare a [.In] [b] pos) (mOp (fIn false) ma mb) := d_cmp op_in_seq (fIn_ok false) ha hb hm
theorem d_nin (ha : DE X W a ma) (hb : DE X W b mb) (hm : behindInMarks .NotIn b = false := by rfl) : DE X W (.Compare a [.NotIn] [b] pos) (mOp (fIn true) ma mb) := d_cmp op_notIn_seq (fIn_ok true) ha hb hm
theorem t_in (ha : DE X W a ma) (hb : DE X W b mb) (hm : behindInMarks .In b = false := by rfl) : DT X W (.Compare a [.In] [b] pos) (mTst (mOp (fIn false) ma mb)) := t_cmp op_in_seq (fIn_ok false) ha hb hm
theorem t_nin (ha : DE X W a ma) (hb : DE X W b mb) (hm : behindInMarks .NotIn b = false := by rfl) : DT X W (.Compare a [.NotIn] [b] pos) (mTst (mOp (fIn true) ma mb)) := t_cmp op_notIn_seq (fIn_ok true) ha hb hm
theorem d_lt (ha : DE X W a ma) (hb : DE X W b mb) : DE X W (.Compare a [.Lt] [b] pos) (mOp fLt ma mb) := d_cmp op_lt fCmp_ok ha hb
theorem d_le (ha : DE X W a ma) (hb : DE X W b mb) : DE X W (.Compare a [.LtE] [b] pos) (mOp fLe ma mb) := d_cmp op_le fCmp_ok ha hb
theorem d_gt (ha : DE X W a ma) (hb : DE X W b mb) : DE X W (.Compare a [.Gt] [b] pos) (mOp fGt ma mb) := d_cmp op_gt fCmp_ok ha hb
theorem d_ge (ha : DE X W a ma) (hb : DE X W b mb) : DE X W (.Compare a [.GtE] [b] pos) (mOp fGe ma mb) := d_cmp op_ge fCmp_ok ha hb
theorem t_lt (ha : DE X W a ma) (hb : DE X W b mb) : DT X W (.Compare a [.Lt] [b] pos) (mTst (mOp fLt ma mb)) := t_cmp op_lt fCmp_ok ha hb
theorem t_le (ha : DE X W a ma) (hb : DE X W b mb) : DT X W (.Compare a [.LtE] [b] pos) (mTst (mOp fLe ma mb)) := t_cmp op_le fCmp_ok ha hb
theorem t_gt (ha : DE X W a ma) (hb : DE X W b mb) : DT X W (.Compare a [.Gt] [b] pos) (mTst (mOp fGt ma mb)) := t_cmp op_gt fCmp_ok ha hb
theorem t_ge (ha : DE X W a ma) (hb : DE X W b mb) : DT X W (.Compare a [.GtE] [b] pos) (mTst (mOp fGe ma mb)) := t_cmp op_ge fCmp_ok ha hb
/-- a chain of two orders of ints -/
theorem chnD {K : PySem.W.Frag} {f g : D → D → AH → Res D} {r r' : R2} (hf : OpD K f r) (hg : OpD K g r') {σ : L2.St} {H : Hp} {Q : VK} (h : tE K W (mChn f g ma mb mc) σ H Q) : tChain r r' (tE K W ma) (tE K W mb) (tE K W mc) σ H Q := by
  obtain ⟨m, A, ρ, R, E, h⟩ := h
  refine tE.bind R E h fun m1 A1 d v H1 e1 R1 E1 r1 h1 => tE.bind R1 E1 h1 fun m2 A2 d2 v2 H2 e2 R2 E2 r2 h2 => ?_
  refine hf W σ m2 A2 H2 v v2 d d2 _ R2 (RD.mono e2 _ _ r1) r2 (Post.imp (Post.bind (R := RD K) h2) fun z H3 ⟨m3, A3, dz, e3, R3, rz, h3⟩ => ?_)
  split at h3
  · cases rz
    refine ⟨true, rfl, ?_⟩
    rw [if_pos rfl]
    exact tE.bind R3 (E2.mono e3) h3 fun m4 A4 d4 v4 H4 e4 R4 E4 r4 h4 => hg W σ m4 A4 H4 v2 v4 d2 d4 Q R4 (RD.mono (e3.trans e4) _ _ r2) r4 h4
  · cases rz
    refine ⟨false, rfl, ?_⟩
    rw [if_neg (by decide)]
    exact Post.here R3 (.bl _) h3
  · exact h3.elim
theorem d_chn {op op' : CmpOp} {f g : D → D → AH → Res D} {r r' : R2} (ho : OpR X (compareOp op) r) (ho' : OpR X (compareOp op') r') (hf : OpD X.K f r) (hg : OpD X.K g r') (ha : DE X W a ma) (hb : DE X W b mb) (hc : DE X W c mc) (hm : lastMarks [op, op'] [b, c] = false := by with_unfolding_all rfl) :
    DE X W (.Compare a [op, op'] [b, c] pos) (mChn f g ma mb mc) := PEi (pe_chain ho ho' ha hb hc hm) fun _ _ _ h => chnD hf hg h
theorem t_chn {op op' : CmpOp} {f g : D → D → AH → Res D} {r r' : R2} (ho : OpR X (compareOp op) r) (ho' : OpR X (compareOp op') r') (hf : OpD X.K f r) (hg : OpD X.K g r') (ha : DE X W a ma) (hb : DE X W b mb) (hc : DE X W c mc) (hm : lastMarks [op, op'] [b, c] = false := by with_unfolding_all rfl) :
    DT X W (.Compare a [op, op'] [b, c] pos) (mTst (mChn f g ma mb mc)) := PTi (pt_chain ho ho' ha hb hc hm) fun _ _ _ h => tTstD (fun _ q => chnD hf hg q) h
end
end DM
end
section
set_option maxHeartbeats 2000000
namespace DM
open PySem PySem.Spec PyProof.Rows L2
section
variable {X : Cx} {W : WX} {a b c e tg : Expr} {es : List Expr} {ma mb mc me : ME} {mt mu : MT} {ms : MA} {pos p p2 : Pos}
/-! ### argument lists, displays -/
def mNil : MA := fun _ A => .ok [] A
def mCons (me : ME) (ms : MA) : MA := fun ρ A => (me ρ A).bind fun d A1 => (ms ρ A1).bind fun ds A2 => .ok (d :: ds) A2
theorem a_nil : DA X W [] mNil := PAi pa_nil fun σ H Q ⟨m, A, ρ, R, E, h⟩ => Post.here R .nil h
theorem a_cons (ha : DE X W e me) (hr : DA X W es ms) (hs : starEach (e :: es) X.env = (false, eval e X.env) :: starEach es X.env := by rfl) : DA X W (e :: es) (mCons me ms) :=
  PAi (pa_cons ha hr hs) fun σ H Q ⟨m, A, ρ, R, E, h⟩ => tE.bind R E h fun m1 A1 d v H1 e1 R1 E1 r1 h1 => tA.bind R1 E1 h1 fun m2 A2 ds vs H2 e2 R2 E2 r2 h2 => Post.here R2 (.cons (RD.mono e2 _ _ r1) r2) h2
def mTup (ms : MA) : ME := fun ρ A => (ms ρ A).bind fun ds A1 => if ds.length ≤ 1000 then .ok (.tup ds) A1 else .no
def mLst (ms : MA) : ME := fun ρ A => (ms ρ A).bind fun ds A1 => if ds.length ≤ 1000 then .ok (.lst ds) A1 else .no
/-- a list that will change -/
def mNew (ms : MA) : ME := fun ρ A => (ms ρ A).bind fun ds A1 => if ds.length ≤ 1000 then .ok (.ref A1.length) (A1 ++ [.lst ds]) else .no
theorem k1000 {ds : List D} {vs : List V} {K : PySem.W.Frag} {m : Mp} {H : Hp} (r : RDs K m H ds vs) (h : ds.length ≤ 1000) : vs.length ≤ sizeLine := by
  rw [← r.length, sizeLine_eq]; omega
theorem d_tup {x1 : Nat} (h : DA X W es ms) : DE X W (.Tuple es x1 pos) (mTup ms) :=
  PEi (pe_tup h) fun σ H Q ⟨m, A, ρ, R, E, h⟩ => tA.bind R E h fun m1 A1 ds vs H1 e1 R1 E1 r1 h1 => by
    split at h1
    · rename_i hz
      exact ⟨k1000 r1 hz, tup_new R1 r1 h1⟩
    · exact h1.elim
theorem d_lst (h : DA X W es ms) : DE X W (.List es pos) (mLst ms) :=
  PEi (pe_lst h) fun σ H Q ⟨m, A, ρ, R, E, h⟩ => tA.bind R E h fun m1 A1 ds vs H1 e1 R1 E1 r1 h1 => by
    split at h1
    · rename_i hz
      exact ⟨k1000 r1 hz, lst_new R1 r1 h1⟩
    · exact h1.elim
theorem d_new (h : DA X W es ms) : DE X W (.List es pos) (mNew ms) :=
  PEi (pe_lst h) fun σ H Q ⟨m, A, ρ, R, E, h⟩ => tA.bind R E h fun m1 A1 ds vs H1 e1 R1 E1 r1 h1 => by
    split at h1
    · rename_i hz
      exact ⟨k1000 r1 hz, ref_new R1 r1 h1⟩
    · exact h1.elim
/-- a list written out, times a number -/
def mRep (ms : MA) (mb : ME) : ME := fun ρ A => (ms ρ A).bind fun ds A1 => if ds.length ≤ 1000 then (mb ρ A1).bind fun y A2 => (match y with
  | .int k => if -(2 ^ 63) ≤ k ∧ k < 2 ^ 63 ∧ ds.length * k.toNat ≤ 16777216 then .ok (.lst (List.replicate k.toNat ds).flatten) A2 else .no
  | _ => .no) else .no
theorem RDs.rep {K : PySem.W.Frag} {m : Mp} {H : Hp} {ds : List D} {vs : List V} (r : RDs K m H ds vs) : ∀ n : Nat, RDs K m H (List.replicate n ds).flatten (List.replicate n vs).flatten
  | 0 => .nil
  | n + 1 => by
    rw [List.replicate_succ, List.replicate_succ, List.flatten_cons, List.flatten_cons]
    exact r.append (RDs.rep r n)
theorem d_rep {b : Expr} {mb : ME} {pos2 : Pos} (h : DA X W es ms) (hb : DE X W b mb) : DE X W (.BinOp (.List es pos2) .Mult b pos) (mRep ms mb) :=
  PEi (pe_op op_rep (pe_lst h) hb) fun σ H Q ⟨m, A, ρ, R, E, h⟩ => tA.bind R E h fun m1 A1 ds vs H1 e1 R1 E1 r1 h1 => by
    split at h1
    · rename_i hz
      refine ⟨k1000 r1 hz, fun p hp => ?_⟩
      obtain ⟨R2, e2⟩ := R1.new hp (.lst vs)
      refine tE.bind R2 (E1.mono e2) (Post.mono e2 h1) fun m2 A2 y v H2 e3 R3 E3 r3 h3 => ?_
      have hH : H2 p = some (.lst vs) := e3.keep p _ upd_same (R1.out hp).1
      split at h3
      · rename_i k
        cases r3
        split at h3
        · rename_i hk
          exact ⟨p, k, vs, rfl, rfl, hH, hk.1, hk.2.1, by rw [← r1.length, sizeLine_eq]; exact hk.2.2, lst_new R3 (RDs.rep (RDs.mono (e2.trans e3) _ _ r1) k.toNat) h3⟩
        · exact h3.elim
      · exact h3.elim
    · exact h1.elim
/-! ### built-ins -/
def CallD (K : PySem.W.Frag) (f : List D → AH → Res D) (r : List V → Hp → VK → Prop) : Prop :=
  ∀ (W : WX) (σ : L2.St) (m : Mp) (A : AH) (H : Hp) (xs : List V) (ds : List D) (Q : VK), Rel K m A H → RDs K m H ds xs → Post K (RD K) W σ m H (f ds A) Q → r xs H Q
def mCall (f : List D → AH → Res D) (ms : MA) : ME := fun ρ A => (ms ρ A).bind fun ds A1 => f ds A1
theorem tCB_D {K : PySem.W.Frag} {f : List D → AH → Res D} {r : List V → Hp → VK → Prop} (hf : CallD K f r) {σ : L2.St} {H : Hp} {Q : VK} (h : tE K W (mCall f ms) σ H Q) : tCB r (tA K W ms) σ H Q := by
  obtain ⟨m, A, ρ, R, E, h⟩ := h
  exact tA.bind R E h fun m1 A1 ds vs H1 e1 R1 E1 r1 h1 => hf W σ m1 A1 H1 vs ds Q R1 r1 h1
theorem d_callB {id : String} {x : Str} {f : List D → AH → Res D} {r : List V → Hp → VK → Prop} (hc : CallR X (.builtin id) r) (hf : CallD X.K f r) (hg : Gl X x) (hm : X.mg x = none) (hv : bootBuiltins x = some (.builtin id)) (ha : DA X W (e :: es) ms) (hn : x ≠ "__name__" := by decide)
    (hdb : (x == ("__debug__" : Str)) = false := by decide) (he : starEach (e :: es) X.env = (false, eval e X.env) :: starEach es X.env := by rfl) (hpl : (backTo pos (starEach es X.env)).any (·.1) = false := by rfl) :
    DE X W (.Call (.Name x p) (e :: es) [] pos) (mCall f ms) := PEi (pe_callB hc hg hm hv ha hn hdb he hpl) fun _ _ _ h => tCB_D hf h
theorem d_callTy {T : String} {x : Str} {f : List D → AH → Res D} {r : List V → Hp → VK → Prop} (hc : CallR X (.type T) r) (hf : CallD X.K f r) (hg : Gl X x) (hm : X.mg x = none) (hv : bootBuiltins x = some (.type T)) (ha : DA X W (e :: es) ms) (hn : x ≠ "__name__" := by decide)
    (hdb : (x == ("__debug__" : Str)) = false := by decide) (he : starEach (e :: es) X.env = (false, eval e X.env) :: starEach es X.env := by rfl) (hpl : (backTo pos (starEach es X.env)).any (·.1) = false := by rfl) :
    DE X W (.Call (.Name x p) (e :: es) [] pos) (mCall f ms) := PEi (pe_callTy hc hg hm hv ha hn hdb he hpl) fun _ _ _ h => tCB_D hf h
theorem RDs.one {K : PySem.W.Frag} {m : Mp} {H : Hp} {d : D} {xs : List V} (h : RDs K m H [d] xs) : ∃ v, xs = [v] ∧ RD K m H d v := by
  cases h with
  | cons h r => cases r; exact ⟨_, rfl, h⟩
/-- len -/
def fLen : List D → AH → Res D := fun ds A => match ds with
  | [.str x] => if x.length ≤ 16777216 then .ok (.int x.length) A else .no
  | [d] => match seqOf A d with
    | some xs => .ok (.int xs.length) A
    | none => .no
  | _ => .no
theorem fLen_ok {K : PySem.W.Frag} : CallD K fLen (fun xs H Q => ∃ x n, xs = [x] ∧ LenV K x H n ∧ Q (.int n) H) := by
  intro W σ m A H xs ds Q R hx h
  unfold fLen at h
  split at h
  · rename_i x
    obtain ⟨v, rfl, r⟩ := hx.one
    cases r
    split at h
    · rename_i hz
      exact ⟨.str x, x.length, rfl, ⟨by rw [sizeLine_eq]; exact hz, rfl⟩, Post.here R (.int _) h⟩
    · exact h.elim
  · rename_i d _
    obtain ⟨v, rfl, r⟩ := hx.one
    split at h
    · rename_i ys hs
      obtain ⟨q, vs, rfl, sq, rs⟩ := seqOf_ok R r hs
      refine ⟨.ref q, vs.length, rfl, ?_, ?_⟩
      · rcases sq with sq | sq
        · exact .inl ⟨vs, sq, rfl⟩
        · exact .inr ⟨vs, sq, rfl⟩
      · rw [← rs.length]
        exact Post.here R (.int _) h
    · exact h.elim
  · exact h.elim
theorem d_len (hm : X.mg "len" = none) (ha : DA X W [e] ms) (hg : Gl X "len" := by rfl) (he : starEach [e] X.env = (false, eval e X.env) :: starEach [] X.env := by rfl) (hpl : (backTo pos (starEach [] X.env)).any (·.1) = false := by rfl) :
    DE X W (.Call (.Name "len" p) [e] [] pos) (mCall fLen ms) := d_callB call_len fLen_ok hg hm PySem.boot_len ha (by decide) (by decide) he hpl
/-- int of an int, of a bool -/
def fInt : List D → AH → Res D := fun ds A => match ds with
  | [.int i] => .ok (.int i) A
  | [.bl k] => .ok (.int (if k then 1 else 0)) A
  | _ => .no
theorem fInt_ok {K : PySem.W.Frag} : CallD K fInt (fun xs H Q => (∃ i, xs = [.int i] ∧ Q (.int i) H) ∨ ∃ k, xs = [.bl k] ∧ Q (.int (if k then 1 else 0)) H) := by
  intro W σ m A H xs ds Q R hx h
  unfold fInt at h
  split at h
  · obtain ⟨v, rfl, r⟩ := hx.one
    cases r
    exact .inl ⟨_, rfl, Post.here R (.int _) h⟩
  · obtain ⟨v, rfl, r⟩ := hx.one
    cases r
    exact .inr ⟨_, rfl, Post.here R (.int _) h⟩
  · exact h.elim
theorem d_intf (hm : X.mg "int" = none) (ha : DA X W [e] ms) (hg : Gl X "int" := by rfl) (he : starEach [e] X.env = (false, eval e X.env) :: starEach [] X.env := by rfl) (hpl : (backTo pos (starEach [] X.env)).any (·.1) = false := by rfl) :
    DE X W (.Call (.Name "int" p) [e] [] pos) (mCall fInt ms) := d_callTy call_int1 fInt_ok hg hm (by decide +kernel) ha (by decide) (by decide) he hpl
def fAbs : List D → AH → Res D := fun ds A => match ds with
  | [.int i] => .ok (.int (if i < 0 then -i else i)) A
  | _ => .no
theorem fAbs_ok {K : PySem.W.Frag} : CallD K fAbs (fun xs H Q => ∃ i, xs = [.int i] ∧ Q (.int (if i < 0 then -i else i)) H) := by
  intro W σ m A H xs ds Q R hx h
  unfold fAbs at h
  split at h
  · obtain ⟨v, rfl, r⟩ := hx.one
    cases r
    exact ⟨_, rfl, Post.here R (.int _) h⟩
  · exact h.elim
theorem d_abs (hm : X.mg "abs" = none) (ha : DA X W [e] ms) (hg : Gl X "abs" := by rfl) (he : starEach [e] X.env = (false, eval e X.env) :: starEach [] X.env := by rfl) (hpl : (backTo pos (starEach [] X.env)).any (·.1) = false := by rfl) :
    DE X W (.Call (.Name "abs" p) [e] [] pos) (mCall fAbs ms) := d_callB call_abs fAbs_ok hg hm (by decide +kernel) ha (by decide) (by decide) he hpl
/-- tuple of a list, a tuple -/
def fTup : List D → AH → Res D := fun ds A => match ds with
  | [d] => match seqOf A d with
    | some xs => .ok (.tup xs) A
    | none => .no
  | _ => .no
def isTup : D → Bool
  | .tup _ => true
  | _ => false
theorem seqOf_is {K : PySem.W.Frag} {m : Mp} {A : AH} {H : Hp} {d : D} {v : V} {xs : List D} (R : Rel K m A H) (h : RD K m H d v) (e : seqOf A d = some xs) :
    ∃ a vs, v = .ref a ∧ RDs K m H xs vs ∧ ((d = .tup xs ∧ SqT K H a vs) ∨ (isTup d = false ∧ SqL K H a vs)) := by
  unfold seqOf at e
  split at e
  · cases e
    cases h with
    | tup s r => exact ⟨_, _, rfl, r, .inl ⟨rfl, s.sq⟩⟩
  · cases e
    cases h with
    | lst s r => exact ⟨_, _, rfl, r, .inr ⟨rfl, s.sq⟩⟩
  · split at e
    · rename_i hA
      cases e
      cases h with
      | ref hm =>
        obtain ⟨q, h1, vs, h2, r⟩ := R.obj _ _ hA
        rw [hm] at h1; cases h1
        exact ⟨_, vs, rfl, r, .inr ⟨rfl, .inl (.inl h2)⟩⟩
    · cases e
  · cases e
theorem fTup_ok {K : PySem.W.Frag} : CallD K fTup (fun xs H Q => ∃ p ys, xs = [.ref p] ∧ ((SqL K H p ys ∧ ∀ l, H l = none → Q (.ref l) (upd H l (.tup ys))) ∨ (SqT K H p ys ∧ Q (.ref p) H))) := by
  intro W σ m A H xs ds Q R hx h
  unfold fTup at h
  split at h
  · rename_i d
    obtain ⟨v, rfl, r⟩ := hx.one
    split at h
    · rename_i ys hs
      obtain ⟨q, vs, rfl, rs, sq⟩ := seqOf_is R r hs
      refine ⟨q, vs, rfl, ?_⟩
      rcases sq with ⟨rfl, sq⟩ | ⟨_, sq⟩
      · exact .inr ⟨sq, Post.here R r h⟩
      · exact .inl ⟨sq, tup_new R rs h⟩
    · exact h.elim
  · exact h.elim
theorem d_tuple (hm : X.mg "tuple" = none) (ha : DA X W [e] ms) (hg : Gl X "tuple" := by rfl) (he : starEach [e] X.env = (false, eval e X.env) :: starEach [] X.env := by rfl) (hpl : (backTo pos (starEach [] X.env)).any (·.1) = false := by rfl) :
    DE X W (.Call (.Name "tuple" p) [e] [] pos) (mCall fTup ms) := d_callTy call_tuple_of fTup_ok hg hm (by decide +kernel) ha (by decide) (by decide) he hpl
/-- list of these: a list that stays -/
def fList : List D → AH → Res D := fun ds A => match ds with
  | [d] => match seqOf A d with
    | some xs => .ok (.lst xs) A
    | none => .no
  | _ => .no
def rListOf (K : PySem.W.Frag) : List V → Hp → VK → Prop := fun xs H Q => ∃ p ys, xs = [.ref p] ∧ (SqL K H p ys ∨ SqT K H p ys) ∧ ∀ l, H l = none → Q (.ref l) (upd H l (.lst ys))
theorem fList_ok {K : PySem.W.Frag} : CallD K fList (rListOf K) := by
  intro W σ m A H xs ds Q R hx h
  unfold fList at h
  split at h
  · obtain ⟨v, rfl, r⟩ := hx.one
    split at h
    · rename_i ys hs
      obtain ⟨q, vs, rfl, sq, rs⟩ := seqOf_ok R r hs
      exact ⟨q, vs, rfl, sq, lst_new R rs h⟩
    · exact h.elim
  · exact h.elim
theorem d_list (hm : X.mg "list" = none) (ha : DA X W [e] ms) (hg : Gl X "list" := by rfl) (he : starEach [e] X.env = (false, eval e X.env) :: starEach [] X.env := by rfl) (hpl : (backTo pos (starEach [] X.env)).any (·.1) = false := by rfl) :
    DE X W (.Call (.Name "list" p) [e] [] pos) (mCall fList ms) := d_callTy call_list_of fList_ok hg hm (by decide +kernel) ha (by decide) (by decide) he hpl
/-- repr -/
def fRepr : List D → AH → Res D := fun ds A => match ds with
  | [d] => match toPyA A d with
    | some q => if q.showable = true ∧ q.shown.length ≤ 16777216 ∧ q.depth ≤ 32 then .ok (.str q.shown) A else .no
    | none => .no
  | _ => .no
def rRepr (K : PySem.W.Frag) : List V → Hp → VK → Prop := fun xs H Q => ∃ x q, xs = [x] ∧ Dp K H x q ∧ q.showable = true ∧ q.shown.length ≤ sizeLine ∧ q.depth ≤ 32 ∧ Q (.str q.shown) H
mutual
theorem Dp.noDict {K : PySem.W.Frag} {H : Hp} : ∀ (q : PyData) (x : V), Dp K H x q → q.hasDict = false
  | .none, _, _ => by simp [PyData.hasDict]
  | .bool _, _, _ => by simp [PyData.hasDict]
  | .int _, _, _ => by simp [PyData.hasDict]
  | .str _, _, _ => by simp [PyData.hasDict]
  | .list ds, _, h => by cases h with | lst s r => (simp only [PyData.hasDict]; exact DpAll.noDict ds _ r)
  | .tuple ds, _, h => by cases h with | tup s r => (simp only [PyData.hasDict]; exact DpAll.noDict ds _ r)
  | .dict _, _, h => by cases h
theorem DpAll.noDict {K : PySem.W.Frag} {H : Hp} : ∀ (qs : List PyData) (xs : List V), DpAll K H xs qs → PyData.hasDictAll qs = false
  | [], _, _ => by simp [PyData.hasDictAll]
  | q :: qs, _, h => by
    cases h with
    | cons h r => simp only [PyData.hasDictAll, Dp.noDict q _ h, DpAll.noDict qs _ r, Bool.or_self]
end
theorem call_reprD (hg : X.A.guards = some []) (hu : X.A.units + 64 < cLine) : CallR X (.builtin "repr") (rRepr X.K) := by
  intro pins s σ H xs us Q I r h
  obtain ⟨x, q, rfl, hd, hs, hz, hdep, k⟩ := h
  obtain ⟨u, rfl, ru⟩ := vals1 r
  obtain ⟨as, rd⟩ := Dp.reads I q x u hd ru
  have hn := Dp.noDict q x hd
  have fin : ∀ h' t tk, (∀ b o, s.heap.get? b = some o → h'.get? b = some o) → EP X pins σ Q (.str q.shown t) { s with heap := h', toks := tk } := fun h' t tk kp => ⟨.str q.shown, H, I.kept (t' := tk) kp, ⟨t, rfl⟩, k⟩
  cases rd with
  | none =>
    simp only [PyData.shown] at fin
    exact PySem.P.repr_of_none (fin s.heap _ _ fun _ _ z => z)
  | bool b => 
    simp only [PyData.shown] at fin
    exact PySem.P.repr_of_bool (fin s.heap _ _ fun _ _ z => z)
  | int i t =>
    simp only [PyData.shown] at fin
    exact PySem.P.repr_of_int (by simpa [PyData.showable] using hs) (fin s.heap _ _ fun _ _ z => z)
  | str y t => 
    simp only [PyData.shown] at fin
    exact PySem.P.repr_of_str (fin s.heap _ _ fun _ _ z => z) (by simpa only [PyData.shown] using hz)
  | list h1 h2 h3 h4 =>
    exact repr_of_reads' (Reads.list h1 h2 h3 h4) hs (fun z => by rw [hn] at z; cases z) hg (by omega) (fun _ _ z => z) fin hz
  | tuple h1 h2 h3 h4 =>
    exact repr_of_reads' (Reads.tuple h1 h2 h3 h4) hs (fun z => by rw [hn] at z; cases z) hg (by omega) (fun _ _ z => z) fin hz
  | dict h1 h2 h3 h4 h5 => exact repr_of_reads' (Reads.dict h1 h2 h3 h4 h5) hs (fun z => by rw [hn] at z; cases z) hg (by omega) (fun _ _ z => z) fin hz
theorem fRepr_ok {K : PySem.W.Frag} : CallD K fRepr (rRepr K) := by
  intro W σ m A H xs ds Q R hx h
  unfold fRepr at h
  split at h
  · obtain ⟨v, rfl, r⟩ := hx.one
    split at h
    · rename_i q hq
      split at h
      · rename_i hc
        exact ⟨v, q, rfl, RD.dpA R r hq, hc.1, by rw [sizeLine_eq]; exact hc.2.1, hc.2.2, Post.here R (.str _) h⟩
      · exact h.elim
    · exact h.elim
  · exact h.elim
theorem d_repr (gd : X.A.guards = some []) (hu : X.A.units + 64 < cLine) (hm : X.mg "repr" = none) (ha : DA X W [e] ms) (hg : Gl X "repr" := by rfl) (he : starEach [e] X.env = (false, eval e X.env) :: starEach [] X.env := by rfl) (hpl : (backTo pos (starEach [] X.env)).any (·.1) = false := by rfl) :
    DE X W (.Call (.Name "repr" p) [e] [] pos) (mCall fRepr ms) := d_callB (call_reprD gd hu) fRepr_ok hg hm (by decide +kernel) ha (by decide) (by decide) he hpl
end
end DM
end
section
set_option maxHeartbeats 2000000
namespace DM
open PySem PySem.Spec PyProof.Rows L2
section
variable {X : Cx} {W : WX} {a b c e tg : Expr} {es : List Expr} {ma mb mc me : ME} {mt mu : MT} {ms : MA} {pos p p2 : Pos}
/-! ### a[b] -/
def fIx : D → D → AH → Res D := fun d e A => match d, e with
  | .str z, .int i => if z.length ≤ 16777216 then (match atI z.cps.toList i with | some c => .ok (.str ⟨#[c]⟩) A | none => .no) else .no
  | d, .int i => match seqOf A d with
    | some xs => match atI xs i with
      | some v => .ok v A
      | none => .no
    | none => .no
  | _, _ => .no
theorem atI_rel {K : PySem.W.Frag} {m : Mp} {H : Hp} {xs : List D} {vs : List V} {i : Int} {d : D} (r : RDs K m H xs vs) (h : atI xs i = some d) : ∃ v, atI vs i = some v ∧ RD K m H d v := by
  unfold atI at h ⊢
  rw [← r.length]
  cases hn : ixN xs.length i with
  | none => rw [hn] at h; cases h
  | some j =>
    rw [hn] at h
    obtain ⟨v, h1, h2⟩ := r.get h
    exact ⟨v, h1, h2⟩
theorem fIx_ok {K : PySem.W.Frag} : OpD K fIx (rIx K) := by
  intro W σ m A H x y d e Q R hx hy h
  unfold fIx at h
  split at h
  · rename_i z i
    cases hx; cases hy
    split at h
    · rename_i hz
      split at h
      · rename_i c hc
        exact .inr (.inr ⟨z, i, c, rfl, rfl, by rw [sizeLine_eq]; exact hz, hc, Post.here R (.str _) h⟩)
      · exact h.elim
    · exact h.elim
  · rename_i i _
    cases hy
    split at h
    · rename_i xs hs
      obtain ⟨q, vs, rfl, rs, sq⟩ := seqOf_is R hx hs
      split at h
      · rename_i v hv
        obtain ⟨w, h1, h2⟩ := atI_rel rs hv
        have k := Post.here R h2 h
        rcases sq with ⟨_, sq⟩ | ⟨_, sq⟩
        · exact .inr (.inl ⟨q, vs, i, w, rfl, rfl, sq, h1, k⟩)
        · exact .inl ⟨q, vs, i, w, rfl, rfl, sq, h1, k⟩
      · exact h.elim
    · exact h.elim
  · exact h.elim
theorem d_ix (ha : DE X W a ma) (hb : DE X W b mb) (hs : PlainIx b := by exact fun _ _ => rfl) : DE X W (.Subscript a b pos) (mOp fIx ma mb) := PEi (pe_ix ix_seq ha hb hs) fun _ _ _ h => tOpD fIx_ok h
/-! ### slices -/
abbrev MO := Env → AH → Res (Option Int)
def tO (K : PySem.W.Frag) (W : WX) (mo : MO) : TO := fun σ H Q => ∃ m A ρ, Rel K m A H ∧ REnv K m H ρ σ ∧ Post K (fun _ _ a b => a = b) W σ m H (mo ρ A) Q
def mNone : MO := fun _ A => .ok none A
def mSome (me : ME) : MO := fun ρ A => (me ρ A).bind fun d A1 => match d with
  | .int i => .ok (some i) A1
  | _ => .no
structure DO (X : Cx) (W : WX) (e : Option Expr) (mo : MO) : Prop where
  go : PO X e (tO X.K W mo)
theorem POi {X : Cx} {e : Option Expr} {t t' : TO} (h : PO X e t) (q : ∀ σ H Q, t' σ H Q → t σ H Q) : PO X e t' := ⟨fun pins s σ H Q I w => h.run pins s σ H Q I (q σ H Q w)⟩
theorem o_none : DO X W none mNone := ⟨POi po_none fun σ H Q ⟨m, A, ρ, R, E, h⟩ => Post.here R rfl h⟩
theorem o_some (ha : DE X W e me) : DO X W (some e) (mSome me) := ⟨POi (po_some ha) fun σ H Q ⟨m, A, ρ, R, E, h⟩ => tE.bind R E h fun m1 A1 d v H1 e1 R1 E1 r1 h1 => by
  split at h1
  · cases r1; exact ⟨_, rfl, Post.here R1 rfl h1⟩
  · exact h1.elim⟩
theorem tO.bind {K : PySem.W.Frag} {σ : L2.St} {m : Mp} {A : AH} {ρ : Env} {H : Hp} {β γ : Type} {R2 : Mp → Hp → γ → β → Prop} {me : MO} {k : Option Int → AH → Res γ} {Q : β → Hp → Prop} {T : Option Int → Hp → Prop} (R : Rel K m A H) (E : REnv K m H ρ σ)
    (h : Post K R2 W σ m H ((me ρ A).bind k) Q) (q : ∀ m1 A1 b H1, Ext m H m1 H1 → Rel K m1 A1 H1 → REnv K m1 H1 ρ σ → Post K R2 W σ m1 H1 (k b A1) Q → T b H1) : tO K W me σ H T :=
  ⟨m, A, ρ, R, E, Post.imp (Post.bind (R := fun _ _ a b => a = b) h) fun v H1 ⟨m1, A1, d, e, R1, r, p⟩ => by subst r; exact q m1 A1 _ H1 e R1 (E.mono e) p⟩
def cutD (xs : List D) (lo hi : Option Int) : List D := (xs.drop (HT.sIx xs.length 0 lo)).take (HT.sIx xs.length xs.length hi - HT.sIx xs.length 0 lo)
theorem cut_rel {K : PySem.W.Frag} {m : Mp} {H : Hp} {xs : List D} {vs : List V} {lo hi : Option Int} (r : RDs K m H xs vs) : RDs K m H (cutD xs lo hi) (cutV vs lo hi) := by
  unfold cutD cutV
  rw [← r.length]
  exact (r.drop _).take _
theorem cut_whole {xs : List D} {lo hi : Option Int} (h : HT.sIx xs.length 0 lo = 0 ∧ HT.sIx xs.length xs.length hi = xs.length) : cutD xs lo hi = xs := by
  unfold cutD
  rw [h.1, h.2]
  simp
def fSl : D → Option Int → Option Int → AH → Res D := fun d lo hi A => match d with
  | .tup xs => .ok (.tup (cutD xs lo hi)) A
  | d => match seqOf A d with
    | some xs => .ok (.lst (cutD xs lo hi)) A
    | none => .no
def mSl (me : ME) (ml mh : MO) : ME := fun ρ A => (me ρ A).bind fun d A1 => (ml ρ A1).bind fun lo A2 => (mh ρ A2).bind fun hi A3 => fSl d lo hi A3
theorem d_sl {lo hi : Option Expr} {ml mh : MO} (he : DE X W e me) (hl : DO X W lo ml) (hh : DO X W hi mh) : DE X W (.Subscript e (.Slice lo hi none p2) pos) (mSl me ml mh) :=
  PEi (pe_slice (sl_tupA.or sl_list) he hl.go hh.go) fun σ H Q ⟨m, A, ρ, R, E, h⟩ => tE.bind R E h fun m1 A1 d v H1 e1 R1 E1 r1 h1 => tO.bind R1 E1 h1 fun m2 A2 l H2 e2 R2 E2 h2 => tO.bind R2 E2 h2 fun m3 A3 u H3 e3 R3 E3 h3 => by
    have r3 := RD.mono (e2.trans e3) _ _ r1
    unfold fSl at h3
    split at h3
    · rename_i xs
      have r3' := r3
      cases r3 with
      | tup s r =>
        rename_i q vs
        refine .inl ⟨q, vs, rfl, s.sq, fun hw => ?_, fun _ => tup_new R3 (cut_rel r) h3⟩
        rw [← r.length] at hw
        rw [cut_whole hw] at h3
        exact Post.here R3 r3' h3
    · rename_i d hd
      split at h3
      · rename_i xs hs
        obtain ⟨q, vs, rfl, rs, sq⟩ := seqOf_is R3 r3 hs
        rcases sq with ⟨rfl, _⟩ | ⟨_, sq⟩
        · exact (hd xs rfl).elim
        · exact .inr ⟨q, vs, rfl, sq, lst_new R3 (cut_rel rs) h3⟩
      · exact h3.elim
theorem RDs.rev {K : PySem.W.Frag} {m : Mp} {H : Hp} : ∀ {xs : List D} {vs : List V}, RDs K m H xs vs → RDs K m H xs.reverse vs.reverse
  | [], _, h => by cases h; exact .nil
  | x :: xs, _, h => by
    cases h with
    | cons h r =>
      rw [List.reverse_cons, List.reverse_cons]
      exact (RDs.rev r).append (.cons h .nil)
/-- xs[::-1] of a list, to stay or to change -/
def mRev (chg : Bool) (me : ME) : ME := fun ρ A => (me ρ A).bind fun d A1 => if isTup d = true then .no else match seqOf A1 d with
  | some xs => if chg then .ok (.ref A1.length) (A1 ++ [.lst xs.reverse]) else .ok (.lst xs.reverse) A1
  | none => .no
theorem d_rev {k : Nat} {q1 q2 q3 : Pos} (chg : Bool) (he : DE X W e me) : DE X W (.Subscript e (.Slice none none (some (.UnaryOp .USub (.Constant (.int 1) k q1) q2)) q3) pos) (mRev chg me) :=
  PEi (pe_revL he) fun σ H Q ⟨m, A, ρ, R, E, h⟩ => tE.bind R E h fun m1 A1 d v H1 e1 R1 E1 r1 h1 => by
    split at h1
    · exact h1.elim
    · rename_i hn
      split at h1
      · rename_i xs hs
        obtain ⟨q, vs, rfl, rs, sq⟩ := seqOf_is R1 r1 hs
        rcases sq with ⟨rfl, _⟩ | ⟨_, sq⟩
        · exact (hn rfl).elim
        · cases chg with
          | true => exact ⟨q, vs, rfl, sq, ref_new R1 rs.rev h1⟩
          | false => exact ⟨q, vs, rfl, sq, lst_new R1 rs.rev h1⟩
      · exact h1.elim
/-! ### methods of lists -/
def fApp : Nat → List D → AH → Res D := fun n ds A => match ds with
  | [x] => match A[n]? with
    | some (.lst xs) => if xs.length < 16777216 then .ok .non (A.set n (.lst (xs ++ [x]))) else .no
    | _ => .no
  | _ => .no
/-- a method of a changing list -/
def mMet (f : Nat → List D → AH → Res D) (mo : ME) (ms : MA) : ME := fun ρ A => (mo ρ A).bind fun d A1 => match d with
  | .ref n => (match A1[n]? with
    | some (.lst _) => (ms ρ A1).bind fun ds A2 => f n ds A2
    | _ => .no)
  | _ => .no
theorem Rel.lst {K : PySem.W.Frag} {m : Mp} {A : AH} {H : Hp} (R : Rel K m A H) {n : Nat} {q : Addr} {xs : List D} (hm : m.1[n]? = some q) (hA : A[n]? = some (.lst xs)) : ∃ vs, H q = some (.lst vs) ∧ RDs K m H xs vs := by
  obtain ⟨q2, h3, ws, h4, rw4⟩ := R.obj _ _ hA
  rw [hm] at h3; cases h3
  exact ⟨ws, h4, rw4⟩
theorem wr_lst {K : PySem.W.Frag} {m : Mp} {A : AH} {H : Hp} {σ : L2.St} {n : Nat} {q : Addr} {ds : List D} {vs : List V} {d : D} {v : V} {Q : VK} (R : Rel K m A H) (hn : m.1[n]? = some q) (r : RDs K m H ds vs) (rv : RD K m H d v)
    (h : Post K (RD K) W σ m H (.ok d (A.set n (.lst ds))) Q) : Q v (upd H q (.lst vs)) :=
  let ⟨R1, e1⟩ := R.write (H' := upd H q (.lst vs)) (o := .lst ds) hn (fun p u hp z => by rw [upd_ne hp]; exact z) fun e => ⟨vs, upd_same, RDs.mono e _ _ r⟩
  h m _ _ e1 R1 (RD.mono e1 _ _ rv)
theorem d_app {o : Expr} {mo : ME} {apos : Pos} (ho : DE X W o mo) (ha : DA X W [e] ms) (hb1 : attributeBase o "append" X.env (eval o X.env) = eval o X.env := by rfl)
    (hfew : ((backTo pos (starEach [e] X.env)).all (fun x => !x.1) && (backToKw pos (keywordEach [] X.env)).all (fun x => x.1.isSome)
      && decide ([e].length + ([] : List Keyword).length + (if ([] : List Keyword).isEmpty then 0 else 1) < 30)) = true := by rfl)
    (hline : (apos.endLine == pos.line) = true := by rfl) (hs : starEach [e] X.env = (false, eval e X.env) :: starEach [] X.env := by rfl) (hpl : (backTo pos (starEach [] X.env)).any (·.1) = false := by rfl) :
    DE X W (.Call (.Attribute o "append" apos) [e] [] pos) (mMet fApp mo ms) :=
  PEi (pe_bm PySem.F.plainAttrs_list PySem.F.slot_list_append PySem.F.type_list_append mt_append ho ha hb1 hfew hline hs hpl) fun σ H Q ⟨m, A, ρ, R, E, h⟩ => tE.bind R E h fun m1 A1 d v H1 e1 R1 E1 r1 h1 => by
    split at h1
    · rename_i n
      split at h1
      rotate_left
      · exact h1.elim
      rename_i xs0 hA0
      cases r1 with
      | ref hm =>
        rename_i q
        obtain ⟨ws, hw, _⟩ := R1.lst hm hA0
        refine ⟨.inl ⟨rfl, ws, .inl (.inl hw)⟩, tA.bind R1 E1 h1 fun m2 A2 ds vs H2 e2 R2 E2 r2 h2 => ?_⟩
        unfold fApp at h2
        split at h2
        · obtain ⟨y, rfl, ry⟩ := r2.one
          split at h2
          · rename_i xs hA
            split at h2
            · rename_i hz
              have hm2 := e2.get hm
              obtain ⟨us, h4, rw4⟩ := R2.lst hm2 hA
              exact ⟨q, us, y, rfl, rfl, h4, by rw [← rw4.length, sizeLine_eq]; exact hz, wr_lst R2 hm2 (rw4.append (.cons ry .nil)) .non h2⟩
            · exact h2.elim
          · exact h2.elim
        · exact h2.elim
    · exact h1.elim
/-- xs.pop() -/
def mPop (mo : ME) : ME := fun ρ A => (mo ρ A).bind fun d A1 => match d with
  | .ref n => match A1[n]? with
    | some (.lst xs) => match xs[xs.length - 1]? with
      | some x => .ok x (A1.set n (.lst xs.dropLast))
      | none => .no
    | _ => .no
  | _ => .no
theorem RDs.dropLast {K : PySem.W.Frag} {m : Mp} {H : Hp} {xs : List D} {vs : List V} (h : RDs K m H xs vs) : RDs K m H xs.dropLast vs.dropLast := by
  rw [List.dropLast_eq_take, List.dropLast_eq_take, ← h.length]
  exact h.take _
theorem d_pop {o : Expr} {mo : ME} {apos : Pos} (ho : DE X W o mo) (hb1 : attributeBase o "pop" X.env (eval o X.env) = eval o X.env := by rfl) (hline : (apos.endLine == pos.line) = true := by rfl) :
    DE X W (.Call (.Attribute o "pop" apos) [] [] pos) (mPop mo) :=
  PEi (pe_bm0 PySem.F.plainAttrs_list PySem.F.slot_list_pop PySem.F.type_list_pop mt_pop ho hb1 hline) fun σ H Q ⟨m, A, ρ, R, E, h⟩ => tE.bind R E h fun m1 A1 d v H1 e1 R1 E1 r1 h1 => by
    split at h1
    · rename_i n
      cases r1 with
      | ref hm =>
        rename_i q
        split at h1
        · rename_i xs hA
          split at h1
          · rename_i x hx
            obtain ⟨us, h4, rw4⟩ := R1.lst hm hA
            obtain ⟨y, h5, r5⟩ := rw4.get hx
            exact ⟨.inl ⟨rfl, us, .inl (.inl h4)⟩, q, us, y, rfl, rfl, h4, by rw [← rw4.length]; exact h5, wr_lst R1 hm rw4.dropLast r5 h1⟩
          · exact h1.elim
        · exact h1.elim
    · exact h1.elim
/-- a changing list's item is stored -/
def mSetI (mv mo mi : ME) : MS := fun ρ A => match (mv ρ A).bind fun v A1 => (mo ρ A1).bind fun o A2 => (mi ρ A2).bind fun i A3 => (match o, i with
    | .ref n, .int k => (match A3[n]? with
      | some (.lst xs) => (match ixN xs.length k with
        | some j => .ok D.non (A3.set n (.lst (xs.set j v)))
        | none => .no)
      | _ => .no)
    | _, _ => .no) with
  | .ok _ A4 => .nx ρ A4
  | .exc C fs A4 => .exc C fs ρ A4
  | .no => .no
end
end DM
end
section
set_option maxHeartbeats 2000000
namespace DM
open PySem PySem.Spec PyProof.Rows L2
/-! ### statements -/
def lift {α : Type} (r : Res α) (ρ : Env) (k : α → AH → SRes) : SRes := match r with
  | .ok d A => k d A
  | .exc C fs A => .exc C fs ρ A
  | .no => .no
@[simp] theorem lift_ok {α : Type} (d : α) (A : AH) (ρ : Env) (k : α → AH → SRes) : lift (.ok d A) ρ k = k d A := rfl
@[simp] theorem lift_exc {α : Type} (C : Str) (fs : List (Str × D)) (A : AH) (ρ : Env) (k : α → AH → SRes) : lift (.exc C fs A) ρ k = .exc C fs ρ A := rfl
@[simp] theorem lift_no {α : Type} (ρ : Env) (k : α → AH → SRes) : lift .no ρ k = .no := rfl
section
variable {K : PySem.W.Frag} {W : WX} {σ : L2.St} {m : Mp} {A : AH} {ρ : Env} {H : Hp} {D0 : Ends}
theorem post_lift {α β : Type} {R0 : Mp → Hp → α → β → Prop} {r : Res α} {k : α → AH → SRes} {T : β → Hp → Prop} (E : REnv K m H ρ σ) (h : PostS K W m H (lift r ρ k) D0)
    (q : ∀ m1 A1 d v H1, Ext m H m1 H1 → Rel K m1 A1 H1 → R0 m1 H1 d v → PostS K W m1 H1 (k d A1) D0 → T v H1) : Post K R0 W σ m H r T := by
  cases r with
  | ok d A' => exact fun m' H' v e R' r' => q m' A' d v H' e R' r' (PostS.mono e h)
  | exc C fs A' => exact fun m' H' c dx e R' hc hx => h m' H' c dx σ e R' (E.mono e) hc hx
  | no => exact h
theorem tE.lift {me : ME} {k : D → AH → SRes} {T : V → Hp → Prop} (R : Rel K m A H) (E : REnv K m H ρ σ) (h : PostS K W m H (lift (me ρ A) ρ k) D0)
    (q : ∀ m1 A1 d v H1, Ext m H m1 H1 → Rel K m1 A1 H1 → REnv K m1 H1 ρ σ → RD K m1 H1 d v → PostS K W m1 H1 (k d A1) D0 → T v H1) : tE K W me σ H T :=
  ⟨m, A, ρ, R, E, post_lift E h fun m1 A1 d v H1 e R1 r p => q m1 A1 d v H1 e R1 (E.mono e) r p⟩
theorem tT.lift {me : MT} {k : Bool → AH → SRes} {T : Bool → Hp → Prop} (R : Rel K m A H) (E : REnv K m H ρ σ) (h : PostS K W m H (lift (me ρ A) ρ k) D0)
    (q : ∀ m1 A1 b H1, Ext m H m1 H1 → Rel K m1 A1 H1 → REnv K m1 H1 ρ σ → PostS K W m1 H1 (k b A1) D0 → T b H1) : tT K W me σ H T :=
  ⟨m, A, ρ, R, E, post_lift E h fun m1 A1 d v H1 e R1 r p => by subst r; exact q m1 A1 _ H1 e R1 (E.mono e) p⟩
theorem tA.lift {me : MA} {k : List D → AH → SRes} {T : List V → Hp → Prop} (R : Rel K m A H) (E : REnv K m H ρ σ) (h : PostS K W m H (lift (me ρ A) ρ k) D0)
    (q : ∀ m1 A1 ds vs H1, Ext m H m1 H1 → Rel K m1 A1 H1 → REnv K m1 H1 ρ σ → RDs K m1 H1 ds vs → PostS K W m1 H1 (k ds A1) D0 → T vs H1) : tA K W me σ H T :=
  ⟨m, A, ρ, R, E, post_lift E h fun m1 A1 d v H1 e R1 r p => q m1 A1 d v H1 e R1 (E.mono e) r p⟩
theorem PostS.nx (R : Rel K m A H) (E : REnv K m H ρ σ) (h : PostS K W m H (.nx ρ A) D0) : D0.nx σ H := h m H σ (Ext.refl m H) R E
theorem PostS.bk (R : Rel K m A H) (E : REnv K m H ρ σ) (h : PostS K W m H (.bk ρ A) D0) : D0.bk σ H := h m H σ (Ext.refl m H) R E
theorem PostS.ct (R : Rel K m A H) (E : REnv K m H ρ σ) (h : PostS K W m H (.ct ρ A) D0) : D0.ct σ H := h m H σ (Ext.refl m H) R E
theorem PostS.rt {d : D} {v : V} (R : Rel K m A H) (r : RD K m H d v) (h : PostS K W m H (.rt d A) D0) : D0.rt v H := h m H v (Ext.refl m H) R r
end
def mNext : MS := fun ρ A => .nx ρ A
def mSeq (a b : MS) : MS := fun ρ A => match a ρ A with
  | .nx ρ1 A1 => b ρ1 A1
  | r => r
def mDrop (me : ME) : MS := fun ρ A => lift (me ρ A) ρ fun _ A1 => .nx ρ A1
def mRet (me : ME) : MS := fun ρ A => lift (me ρ A) ρ fun d A1 => .rt d A1
def mRetN : MS := fun _ A => .rt .non A
def mIfS (mt : MT) (a b : MS) : MS := fun ρ A => lift (mt ρ A) ρ fun k A1 => if k = true then a ρ A1 else b ρ A1
def mSet (i : Nat) (me : ME) : MS := fun ρ A => lift (me ρ A) ρ fun d A1 => .nx (ρ.set i (some d)) A1
def mBk : MS := fun ρ A => .bk ρ A
def mCt : MS := fun ρ A => .ct ρ A
def mBad : MS := fun _ _ => .no
section
variable {X : Cx} {W : WX} {a b c e tg : Expr} {es : List Expr} {st : Stmt} {sts sts' : List Stmt} {ma mb mc me : ME} {mt mu : MT} {ms : MA} {sa sb : MS} {pos p p2 : Pos}
theorem s_nil : DSs X W [] mNext := PSsi pss_nil fun D σ H ⟨m, A, ρ, R, E, h⟩ => PostS.nx R E h
/-- behind a statement, the rest -/
theorem seqD {K : PySem.W.Frag} {t : TS} {D : Ends} {σ : L2.St} {H : Hp} (hs : ∀ D' : Ends, tS K W sa D' σ H → t D' σ H) (h : tS K W (mSeq sa sb) D σ H) : tSeq t (tS K W sb) D σ H := by
  obtain ⟨m, A, ρ, R, E, h⟩ := h
  refine hs _ ⟨m, A, ρ, R, E, ?_⟩
  unfold mSeq at h
  cases hr : sa ρ A with
  | nx ρ1 A1 => rw [hr] at h; exact fun m' H' σ' e R' E' => ⟨m', A1, ρ1, R', E', PostS.mono e h⟩
  | rt d A1 => rw [hr] at h; exact h
  | bk ρ1 A1 => rw [hr] at h; exact h
  | ct ρ1 A1 => rw [hr] at h; exact h
  | exc C fs ρ1 A1 => rw [hr] at h; exact h
  | no => rw [hr] at h; exact h
theorem s_cons (h1 : DS X W st sa) (h2 : DSs X W sts sb) : DSs X W (st :: sts) (mSeq sa sb) := PSsi (pss_cons h1 h2) fun _ _ _ h => seqD (fun _ q => q) h
theorem s_one (h1 : DS X W st sa) : DSs X W [st] sa := pss_one h1
theorem s_pass : DS X W (.Pass pos) mNext := PSi ps_pass fun D σ H ⟨m, A, ρ, R, E, h⟩ => PostS.nx R E h
theorem s_break : DS X W (.Break pos) mBk := PSi ps_break fun D σ H ⟨m, A, ρ, R, E, h⟩ => PostS.bk R E h
theorem s_cont : DS X W (.Continue pos) mCt := PSi ps_continue fun D σ H ⟨m, A, ρ, R, E, h⟩ => PostS.ct R E h
theorem s_bad : DS X W st mBad := PSi ps_never fun D σ H ⟨m, A, ρ, R, E, h⟩ => h
theorem ss_bad : DSs X W sts mBad := PSsi pss_never fun D σ H ⟨m, A, ρ, R, E, h⟩ => h
theorem s_expr (he : DE X W e me) (hs : swapsWith e none pos.line X.env = pure false := by rfl) : DS X W (.Expr e pos) (mDrop me) :=
  PSi (ps_expr he hs) fun D σ H ⟨m, A, ρ, R, E, h⟩ => tE.lift R E h fun m1 A1 d v H1 e1 R1 E1 r1 h1 => PostS.nx R1 E1 h1
theorem s_ret (he : DE X W e me) : DS X W (.Return (some e) pos) (mRet me) :=
  PSi (ps_ret he) fun D σ H ⟨m, A, ρ, R, E, h⟩ => tE.lift R E h fun m1 A1 d v H1 e1 R1 E1 r1 h1 => PostS.rt R1 r1 h1
theorem s_retN : DS X W (.Return none pos) mRetN := PSi ps_retN fun D σ H ⟨m, A, ρ, R, E, h⟩ => PostS.rt R .non h
theorem s_if (hc : DT X W c mt) (ha : DSs X W sts sa) (hb : DSs X W sts' sb) : DS X W (.If c sts sts' pos) (mIfS mt sa sb) :=
  PSi (ps_if hc ha hb) fun D σ H ⟨m, A, ρ, R, E, h⟩ => tT.lift R E h fun m1 A1 k H1 e1 R1 E1 h1 => by
    cases k with
    | true => exact ⟨m1, A1, ρ, R1, E1, h1⟩
    | false => exact ⟨m1, A1, ρ, R1, E1, h1⟩
theorem setD {K : PySem.W.Frag} {t : TE} {D : Ends} {σ : L2.St} {H : Hp} {i : Nat} (ht : ∀ Q : VK, tE K W me σ H Q → t σ H Q) (h : tS K W (mSet i me) D σ H) : tAsg t (gName i) D σ H := by
  obtain ⟨m, A, ρ, R, E, h⟩ := h
  exact ht _ (tE.lift R E h fun m1 A1 d v H1 e1 R1 E1 r1 h1 => PostS.nx R1 (E1.set r1 i) h1)
theorem s_set {i : Nat} {x : Str} {pos' : Pos} (hN : X.N.Nodup) (he : DE X W e me) (hi : X.N[i]? = some x := by rfl) (hx : Loc X.env.scope x := by first | exact Or.inl rfl | exact Or.inr rfl) (hs : swapsWith e (some (.Name x pos')) pos.line X.env = pure false := by rfl)
    (hf : X.fn x = true ∨ X.env.scope.names.lookup x = some .local := by first | exact .inl rfl | exact .inr rfl | assumption) : DS X W (.Assign [.Name x pos'] e pos) (mSet i me) := PSi (ps_set hN hi hx he hs hf) fun _ _ _ h => setD (fun _ q => q) h
/-- x, y = a, b -/
def mPar2 (i j : Nat) (ms : MA) : MS := fun ρ A => lift (ms ρ A) ρ fun ds A1 => match ds with
  | [x, y] => .nx ((ρ.set i (some x)).set j (some y)) A1
  | _ => .no
def mPar3 (i j l : Nat) (ms : MA) : MS := fun ρ A => lift (ms ρ A) ρ fun ds A1 => match ds with
  | [x, y, z] => .nx (((ρ.set i (some x)).set j (some y)).set l (some z)) A1
  | _ => .no
theorem par2D {K : PySem.W.Frag} {i j : Nat} {D : Ends} {σ : L2.St} {H : Hp} (h : tS K W (mPar2 i j ms) D σ H) : tPar i j (tA K W ms) D σ H := by
  obtain ⟨m, A, ρ, R, E, h⟩ := h
  refine tA.lift R E h fun m1 A1 ds vs H1 e1 R1 E1 r1 h1 => ?_
  split at h1
  · cases r1 with
    | cons r1 q => cases q with
      | cons r2 q => cases q; exact ⟨_, _, rfl, PostS.nx R1 ((E1.set r1 i).set r2 j) h1⟩
  · exact h1.elim
theorem par3D {K : PySem.W.Frag} {i j l : Nat} {D : Ends} {σ : L2.St} {H : Hp} (h : tS K W (mPar3 i j l ms) D σ H) : tPar3 i j l (tA K W ms) D σ H := by
  obtain ⟨m, A, ρ, R, E, h⟩ := h
  refine tA.lift R E h fun m1 A1 ds vs H1 e1 R1 E1 r1 h1 => ?_
  split at h1
  · cases r1 with
    | cons r1 q => cases q with
      | cons r2 q => cases q with
        | cons r3 q => cases q; exact ⟨_, _, _, rfl, PostS.nx R1 (((E1.set r1 i).set r2 j).set r3 l) h1⟩
  · exact h1.elim
/-- x += e -/
def mAug (i : Nat) (f : D → D → AH → Res D) (me : ME) : MS := fun ρ A => match ρ[i]? with
  | some (some x) => lift ((me ρ A).bind fun y A1 => f x y A1) ρ fun z A2 => .nx (ρ.set i (some z)) A2
  | _ => .no
/-! ### targets -/
inductive Tg where
  | nm (i : Nat) | tp (ts : List Tg)
mutual
def bindT : Tg → D → Env → Option Env
  | .nm i, d, ρ => some (ρ.set i (some d))
  | .tp ts, .tup ds, ρ => bindTs ts ds ρ
  | .tp _, _, _ => none
def bindTs : List Tg → List D → Env → Option Env
  | [], [], ρ => some ρ
  | t :: ts, d :: ds, ρ => (bindT t d ρ).bind fun ρ1 => bindTs ts ds ρ1
  | _, _, _ => none
end
def outside (sl : List Nat) (σ σ' : L2.St) : Prop := σ'.length = σ.length ∧ ∀ i, i ∉ sl → σ'[i]? = σ[i]?
def GD (K : PySem.W.Frag) (sl : List Nat) (g : TG) (bt : D → Env → Option Env) : Prop :=
  ∀ (m : Mp) (H : Hp) (ρ : Env) (σ : L2.St) (d : D) (v : V) (Q : L2.St → Hp → Prop) (ρ' : Env), REnv K m H ρ σ → RD K m H d v → bt d ρ = some ρ' → (∀ σ', REnv K m H ρ' σ' → outside sl σ σ' → Q σ' H) → g v σ H Q
def GDs (K : PySem.W.Frag) (sl : List Nat) (g : TGs) (bt : List D → Env → Option Env) : Prop :=
  ∀ (m : Mp) (H : Hp) (ρ : Env) (σ : L2.St) (ds : List D) (vs : List V) (Q : L2.St → Hp → Prop) (ρ' : Env), REnv K m H ρ σ → RDs K m H ds vs → bt ds ρ = some ρ' → (∀ σ', REnv K m H ρ' σ' → outside sl σ σ' → Q σ' H) → g vs σ H Q
theorem outside.refl (sl : List Nat) (σ : L2.St) : outside sl σ σ := ⟨rfl, fun _ _ => rfl⟩
theorem outside.trans {sl : List Nat} {σ σ1 σ2 : L2.St} (a : outside sl σ σ1) (b : outside sl σ1 σ2) : outside sl σ σ2 := ⟨b.1.trans a.1, fun i hi => (b.2 i hi).trans (a.2 i hi)⟩
theorem g_nm {K : PySem.W.Frag} {sl : List Nat} {i : Nat} (hi : i ∈ sl) : GD K sl (gName i) (bindT (.nm i)) := by
  intro m H ρ σ d v Q ρ' E r hb h
  cases hb
  exact h _ (E.set r i) ⟨List.length_set .., fun j hj => List.getElem?_set_ne fun z => hj (by rw [← z]; exact hi)⟩
theorem gs_nil {K : PySem.W.Frag} {sl : List Nat} : GDs K sl gNil (bindTs []) := by
  intro m H ρ σ ds vs Q ρ' E r hb h
  cases ds with
  | nil => cases r; cases hb; exact ⟨rfl, h σ E (outside.refl sl σ)⟩
  | cons d ds => cases hb
theorem gs_cons {K : PySem.W.Frag} {sl : List Nat} {g : TG} {gs : TGs} {t : Tg} {ts : List Tg} (h1 : GD K sl g (bindT t)) (h2 : GDs K sl gs (bindTs ts)) : GDs K sl (gCons g gs) (bindTs (t :: ts)) := by
  intro m H ρ σ ds vs Q ρ' E r hb h
  cases ds with
  | nil => cases hb
  | cons d ds =>
    cases r with
    | cons r rs =>
      unfold bindTs at hb
      cases hb1 : bindT t d ρ with
      | none => rw [hb1] at hb; cases hb
      | some ρ1 =>
        rw [hb1] at hb
        exact ⟨_, _, rfl, h1 m H ρ σ d _ _ ρ1 E r hb1 fun σ1 E1 o1 => h2 m H ρ1 σ1 ds _ _ ρ' E1 rs hb fun σ2 E2 o2 => h σ2 E2 (o1.trans o2)⟩
theorem bindTs_len : ∀ (ts : List Tg) (ds : List D) (ρ ρ' : Env), bindTs ts ds ρ = some ρ' → ds.length = ts.length
  | [], [], _, _, _ => rfl
  | [], _ :: _, _, _, h => by cases h
  | t :: ts, [], _, _, h => by cases h
  | t :: ts, d :: ds, ρ, ρ', h => by
    unfold bindTs at h
    cases hb1 : bindT t d ρ with
    | none => rw [hb1] at h; cases h
    | some ρ1 =>
      rw [hb1] at h
      rw [List.length_cons, List.length_cons, bindTs_len ts ds ρ1 ρ' h]
theorem g_tp {K : PySem.W.Frag} {sl : List Nat} {gs : TGs} {ts : List Tg} {n : Nat} (hn : n = ts.length) (h1 : GDs K sl gs (bindTs ts)) : GD K sl (gTup K n gs) (bindT (.tp ts)) := by
  intro m H ρ σ d v Q ρ' E r hb h
  cases d with
  | tup ds =>
    cases r with
    | tup s r => exact ⟨_, _, rfl, s.sq, by rw [hn, ← r.length]; exact bindTs_len ts ds ρ ρ' hb, h1 m H ρ σ ds _ Q ρ' E r hb h⟩
  | _ => cases hb
mutual
def gOf (K : PySem.W.Frag) : Tg → TG
  | .nm i => gName i
  | .tp ts => gTup K ts.length (gOfs K ts)
def gOfs (K : PySem.W.Frag) : List Tg → TGs
  | [] => gNil
  | t :: ts => gCons (gOf K t) (gOfs K ts)
end
mutual
def slots : Tg → List Nat
  | .nm i => [i]
  | .tp ts => slotss ts
def slotss : List Tg → List Nat
  | [] => []
  | t :: ts => slots t ++ slotss ts
end
mutual
theorem gOf_ok {K : PySem.W.Frag} {sl : List Nat} : ∀ t : Tg, (∀ i ∈ slots t, i ∈ sl) → GD K sl (gOf K t) (bindT t)
  | .nm i, h => by
    unfold gOf
    exact g_nm (h i (by simp [slots]))
  | .tp ts, h => by
    unfold gOf
    exact g_tp rfl (gOfs_ok ts fun i hi => h i (by simpa [slots] using hi))
theorem gOfs_ok {K : PySem.W.Frag} {sl : List Nat} : ∀ ts : List Tg, (∀ i ∈ slotss ts, i ∈ sl) → GDs K sl (gOfs K ts) (bindTs ts)
  | [], _ => by unfold gOfs; exact gs_nil
  | t :: ts, h => by
    unfold gOfs
    exact gs_cons (gOf_ok t fun i hi => h i (by simp [slotss, hi])) (gOfs_ok ts fun i hi => h i (by simp [slotss, hi]))
end
abbrev DG (X : Cx) (e : Expr) (t : Tg) : Prop := PG X e (gOf X.K t)
abbrev DGs (X : Cx) (es : List Expr) (ts : List Tg) : Prop := PGs X es (gOfs X.K ts)
theorem tg_nm {i : Nat} {x : Str} (hN : X.N.Nodup) (hi : X.N[i]? = some x := by rfl) (hx : Loc X.env.scope x := by first | exact Or.inl rfl | exact Or.inr rfl) (hf : X.fn x = true ∨ X.env.scope.names.lookup x = some .local := by first | exact .inl rfl | exact .inr rfl | assumption) :
    DG X (.Name x pos) (.nm i) := pg_name hN hi hx hf
theorem tgs_nil : DGs X [] [] := pgs_nil
theorem tgs_cons {t : Tg} {ts : List Tg} (h1 : DG X e t) (h2 : DGs X es ts) (hs : (assignEach (e :: es) X.env).map (·.2) = assign e X.env :: (assignEach es X.env).map (·.2) := by rfl) : DGs X (e :: es) (t :: ts) := pgs_cons h1 h2 hs
theorem tg_tp {ts : List Tg} {k : Nat} (hc : X.calm = true) (h : DGs X es ts) (hn : (assignEach es X.env).length = ts.length := by rfl) (hst : (assignEach es X.env).findIdx? (·.1) = none := by rfl) : DG X (.Tuple es k pos) (.tp ts) := pg_tup hc h hn hst
/-- target = e -/
def mAsg (t : Tg) (me : ME) : MS := fun ρ A => lift (me ρ A) ρ fun d A1 => match bindT t d ρ with
  | some ρ1 => .nx ρ1 A1
  | none => .no
theorem s_asg {t : Tg} (he : DE X W e me) (hg : DG X tg t) (hs : swapsWithSole [tg] e pos.line X.env = pure false := by rfl) (hw : swappedStores [tg] e X.env = pure none := by rfl) (h1 : (assignEach [tg] X.env).map (·.2) = [assign tg X.env] := by rfl) :
    DS X W (.Assign [tg] e pos) (mAsg t me) := PSi (ps_asg he hg hs hw h1) fun D σ H ⟨m, A, ρ, R, E, h⟩ => tE.lift R E h fun m1 A1 d v H1 e1 R1 E1 r1 h1 => by
  split at h1
  · rename_i ρ1 hb
    exact gOf_ok (sl := slots t) t (fun _ h => h) m1 H1 ρ σ d v _ ρ1 E1 r1 hb fun σ' E' _ => PostS.nx R1 E' h1
  · exact h1.elim
end
end DM
end
section
set_option maxHeartbeats 2000000
namespace DM
open PySem PySem.Spec PyProof.Rows L2
/-! ### what is walked -/
inductive ItV where
  | sq (d : D) | rng (lo hi : Int) | en (d : D) | zp (d e : D)
/-- numbered -/
def enumD : Nat → List D → List D
  | _, [] => []
  | i, x :: xs => .tup [.int (i : Nat), x] :: enumD (i + 1) xs
theorem enum_length : ∀ (xs : List D) (i : Nat), (enumD i xs).length = xs.length
  | [], _ => rfl
  | x :: xs, i => by rw [enumD, List.length_cons, enum_length xs, List.length_cons]
theorem enum_at : ∀ (xs : List D) (i j : Nat), (enumD i xs)[j]? = xs[j]?.map fun x => .tup [.int ((i + j : Nat) : Int), x]
  | [], _, _ => rfl
  | x :: xs, i, 0 => rfl
  | x :: xs, i, j + 1 => by
    rw [enumD, List.getElem?_cons_succ, List.getElem?_cons_succ, enum_at xs, show i + 1 + j = i + (j + 1) by omega]
def zipD : List D → List D → List D
  | x :: xs, y :: ys => .tup [x, y] :: zipD xs ys
  | _, _ => []
theorem zip_length : ∀ (xs ys : List D), (zipD xs ys).length = min xs.length ys.length
  | [], ys => by cases ys <;> simp [zipD]
  | x :: xs, [] => by simp [zipD]
  | x :: xs, y :: ys => by rw [zipD, List.length_cons, zip_length xs ys, List.length_cons, List.length_cons]; omega
theorem zip_at : ∀ (xs ys : List D) (i : Nat) (d : D), (zipD xs ys)[i]? = some d → ∃ x y, d = .tup [x, y] ∧ xs[i]? = some x ∧ ys[i]? = some y
  | [], ys, i, d, h => by cases ys <;> simp [zipD] at h
  | x :: xs, [], i, d, h => by simp [zipD] at h
  | x :: xs, y :: ys, 0, d, h => by
    simp [zipD] at h
    exact ⟨x, y, h.symm, rfl, rfl⟩
  | x :: xs, y :: ys, i + 1, d, h => by
    simp only [zipD, List.getElem?_cons_succ] at h ⊢
    exact zip_at xs ys i d h
def itemsOf (A : AH) : ItV → Option (List D)
  | .sq d => seqOf A d
  | .en d => (seqOf A d).map (enumD 0)
  | .zp d e => match seqOf A d, seqOf A e with
    | some xs, some ys => some (zipD xs ys)
    | _, _ => none
  | .rng lo hi => some ((List.range (hi - lo).toNat).map fun i => .int (lo + (i : Nat)))
structure Iter (K : PySem.W.Frag) (J : It) (m : Mp) (H : Hp) (iv : ItV) : Prop where
  go : ∀ (m' : Mp) (A' : AH) (H' : Hp) (all : List D) (i : Nat) (d : D), Ext m H m' H' → Rel K m' A' H' → itemsOf A' iv = some all → all[i]? = some d → J.go i H' ∧ ∀ x H'', J.yld i H' x H'' → Rel K m' A' H'' ∧ Ext m' H' m' H'' ∧ RD K m' H'' d x
  stop : ∀ (m' : Mp) (A' : AH) (H' : Hp) (all : List D) (i : Nat), Ext m H m' H' → Rel K m' A' H' → itemsOf A' iv = some all → all.length ≤ i → J.stop i H'
abbrev MI := Env → AH → Res ItV
def tI (K : PySem.W.Frag) (W : WX) (mi : MI) : TI := fun σ H Q => ∃ m A ρ, Rel K m A H ∧ REnv K m H ρ σ ∧ Post K (fun m' H' iv J => Iter K J m' H' iv) W σ m H (mi ρ A) Q
abbrev DI (X : Cx) (W : WX) (tg e : Expr) (mi : MI) : Prop := PI X tg e (tI X.K W mi)
theorem PIor {X : Cx} {tg e : Expr} {t t' u : TI} (h : PI X tg e t) (h' : PI X tg e t') (q : ∀ σ H R, u σ H R → t σ H R ∨ t' σ H R) : PI X tg e u := ⟨fun pins s σ H Q I w => (q σ H Q w).elim (h.run pins s σ H Q I) (h'.run pins s σ H Q I)⟩
theorem PIi {X : Cx} {tg e : Expr} {t u : TI} (h : PI X tg e t) (q : ∀ σ H R, u σ H R → t σ H R) : PI X tg e u := ⟨fun pins s σ H Q I w => h.run pins s σ H Q I (q σ H Q w)⟩
section
variable {X : Cx} {W : WX} {a b c e tg : Expr} {es : List Expr} {ma mb mc me : ME} {mt mu : MT} {ms : MA} {mi : MI} {sa sb : MS} {pos p p2 : Pos} {sts : List Stmt} {t : Tg}
theorem iter_list {K : PySem.W.Frag} {m : Mp} {A : AH} {H : Hp} {d : D} {q : Addr} (hd : isTup d = false) (r : RD K m H d (.ref q)) : Iter K (Itl K q) m H (.sq d) := by
  refine ⟨fun m' A' H' all i x e R hs hi => ?_, fun m' A' H' all i e R hs hl => ?_⟩
  · obtain ⟨q', vs, hq, rs, sq⟩ := seqOf_is R (RD.mono e _ _ r) hs
    cases hq
    rcases sq with ⟨rfl, _⟩ | ⟨_, sq⟩
    · cases hd
    · obtain ⟨v, h1, h2⟩ := rs.get hi
      refine ⟨⟨vs, v, sq, h1⟩, fun y H'' hy => ?_⟩
      obtain ⟨rfl, hy⟩ := hy
      have := hy vs sq
      rw [h1] at this; cases this
      exact ⟨R, Ext.refl _ _, h2⟩
  · obtain ⟨q', vs, hq, rs, sq⟩ := seqOf_is R (RD.mono e _ _ r) hs
    cases hq
    rcases sq with ⟨rfl, _⟩ | ⟨_, sq⟩
    · cases hd
    · exact ⟨vs, sq, by rw [← rs.length]; exact hl⟩
theorem iter_tup {K : PySem.W.Frag} {m : Mp} {A : AH} {H : Hp} {xs : List D} {q : Addr} (r : RD K m H (.tup xs) (.ref q)) : Iter K (Itt K q) m H (.sq (.tup xs)) := by
  refine ⟨fun m' A' H' all i x e R hs hi => ?_, fun m' A' H' all i e R hs hl => ?_⟩
  · cases hs
    cases RD.mono e _ _ r with
    | tup s rs =>
      obtain ⟨v, h1, h2⟩ := rs.get hi
      refine ⟨⟨_, v, s.sq, h1⟩, fun y H'' hy => ?_⟩
      obtain ⟨rfl, hy⟩ := hy
      have := hy _ s.sq
      rw [h1] at this; cases this
      exact ⟨R, Ext.refl _ _, h2⟩
  · cases hs
    cases RD.mono e _ _ r with
    | tup s rs => exact ⟨_, s.sq, by rw [← rs.length]; exact hl⟩
theorem iter_rng {K : PySem.W.Frag} {m : Mp} {H : Hp} {lo hi : Int} : Iter K (Itr lo (hi - lo).toNat) m H (.rng lo hi) := by
  refine ⟨fun m' A' H' all i x e R hs hx => ?_, fun m' A' H' all i e R hs hl => ?_⟩
  · cases hs
    have hlt : i < (hi - lo).toNat := by
      have := (List.getElem?_eq_some_iff.mp hx).1
      rw [List.length_map, List.length_range] at this
      exact this
    rw [List.getElem?_map, List.getElem?_range hlt] at hx
    cases hx
    refine ⟨hlt, fun y H'' hy => ?_⟩
    obtain ⟨rfl, rfl⟩ := hy
    exact ⟨R, Ext.refl _ _, .int _⟩
  · cases hs
    rw [List.length_map, List.length_range] at hl
    exact hl
theorem iter_enum {K : PySem.W.Frag} {m : Mp} {A : AH} {H : Hp} {d : D} {q : Addr} (hd : isTup d = false) (r : RD K m H d (.ref q)) : Iter K (Ite K q) m H (.en d) := by
  refine ⟨fun m' A' H' all i x e R hs hi => ?_, fun m' A' H' all i e R hs hl => ?_⟩
  · obtain ⟨xs, hs0, rfl⟩ := Option.map_eq_some_iff.mp hs
    obtain ⟨q', vs, hq, rs, sq⟩ := seqOf_is R (RD.mono e _ _ r) hs0
    cases hq
    rcases sq with ⟨rfl, _⟩ | ⟨_, sq⟩
    · cases hd
    · rw [enum_at] at hi
      obtain ⟨x0, hx0, rfl⟩ := Option.map_eq_some_iff.mp hi
      obtain ⟨v, h1, h2⟩ := rs.get hx0
      refine ⟨⟨vs, v, sq, h1⟩, fun y H'' hy => ?_⟩
      obtain ⟨T, v', rfl, hT, rfl, hy⟩ := hy
      have := hy vs sq
      rw [h1] at this; cases this
      obtain ⟨R1, e1⟩ := R.new hT (.tup [.int (i : Nat), v])
      refine ⟨R1, e1, ?_⟩
      rw [Nat.zero_add]
      exact .tup (.inl ⟨.inl upd_same, R.out hT⟩) (.cons (.int _) (.cons (RD.mono e1 _ _ h2) .nil))
  · obtain ⟨xs, hs0, rfl⟩ := Option.map_eq_some_iff.mp hs
    obtain ⟨q', vs, hq, rs, sq⟩ := seqOf_is R (RD.mono e _ _ r) hs0
    cases hq
    rcases sq with ⟨rfl, _⟩ | ⟨_, sq⟩
    · cases hd
    · exact ⟨vs, sq, by rw [enum_length] at hl; rw [← rs.length]; exact hl⟩
/-- enumerate(list) -/
def mEn (ms : MA) : MI := fun ρ A => (ms ρ A).bind fun ds A1 => match ds with
  | [d] => if isTup d = true then .no else (match seqOf A1 d with
    | some _ => .ok (.en d) A1
    | none => .no)
  | _ => .no
theorem i_en {elts : List Expr} {kk : Nat} {tpos : Pos} (hm : X.mg "enumerate" = none) (ha : DA X W [e] ms) (hg : Gl X "enumerate" := by rfl) (hs : starEach [e] X.env = [(false, eval e X.env)] := by rfl) : DI X W (.Tuple elts kk tpos) (.Call (.Name "enumerate" p) [e] [] pos) (mEn ms) :=
  PIi (pi_enum hg hm ha hs) fun σ H Q ⟨m, A, ρ, R, E, h⟩ => tA.bind R E h fun m1 A1 ds vs H1 e1 R1 E1 r1 h1 => by
    split at h1
    · rename_i d
      obtain ⟨v, rfl, r⟩ := r1.one
      split at h1
      · exact h1.elim
      · rename_i ht
        split at h1
        · rename_i xs hs
          obtain ⟨q, ws, rfl, rs, sq⟩ := seqOf_is R1 r hs
          have ht' : isTup d = false := by cases hh : isTup d <;> simp_all
          rcases sq with ⟨rfl, _⟩ | ⟨hd, sq⟩
          · cases ht'
          · exact ⟨q, ws, rfl, sq, Post.here R1 (iter_enum (A := A1) ht' r) h1⟩
        · exact h1.elim
    · exact h1.elim
def mSq (me : ME) : MI := fun ρ A => (me ρ A).bind fun d A1 => match seqOf A1 d with
  | some _ => .ok (.sq d) A1
  | none => .no
theorem i_sq (he : DE X W e me) : DI X W tg e (mSq me) := by
  refine PIor (pi_list he) (pi_tup he) fun σ H Q ⟨m, A, ρ, R, E, h⟩ => ?_
  by_cases ht : ∃ xs A1, me ρ A = .ok (.tup xs) A1
  · obtain ⟨xs, A1, ht⟩ := ht
    refine .inr ⟨m, A, ρ, R, E, ?_⟩
    have h' : Post X.K (fun m' H' iv J => Iter X.K J m' H' iv) W σ m H ((me ρ A).bind fun d A1 => match seqOf A1 d with | some _ => .ok (.sq d) A1 | none => .no) Q := h
    rw [ht] at h' ⊢
    intro m1 H1 v e1 R1 r1
    cases r1 with
    | tup s rs => exact ⟨_, rfl, ⟨_, s.sq⟩, h' m1 H1 _ e1 R1 (iter_tup (A := A1) (.tup s rs))⟩
  · refine .inl ⟨m, A, ρ, R, E, ?_⟩
    have h' : Post X.K (fun m' H' iv J => Iter X.K J m' H' iv) W σ m H ((me ρ A).bind fun d A1 => match seqOf A1 d with | some _ => .ok (.sq d) A1 | none => .no) Q := h
    cases hr : me ρ A with
    | ok d A1 =>
      rw [hr] at h'
      intro m1 H1 v e1 R1 r1
      rw [bind_ok] at h'
      split at h'
      · rename_i xs hs
        obtain ⟨q, vs, rfl, rs, sq⟩ := seqOf_is R1 r1 hs
        rcases sq with ⟨rfl, _⟩ | ⟨hd, sq⟩
        · exact (ht ⟨_, _, hr⟩).elim
        · exact ⟨q, rfl, ⟨vs, sq⟩, h' m1 H1 _ e1 R1 (iter_list (A := A1) hd r1)⟩
      · exact h'.elim
    | exc C fs A1 => rw [hr] at h'; exact h'
    | no => rw [hr] at h'; exact h'
/-- range(n), range(a, b) -/
def mR1 (ms : MA) : MI := fun ρ A => (ms ρ A).bind fun ds A1 => match ds with
  | [.int j] => if -(2 ^ 62) ≤ j ∧ j < 2 ^ 62 then .ok (.rng 0 j) A1 else .no
  | _ => .no
def mR2 (ms : MA) : MI := fun ρ A => (ms ρ A).bind fun ds A1 => match ds with
  | [.int i, .int j] => if -(2 ^ 62) ≤ i ∧ i < 2 ^ 62 ∧ -(2 ^ 62) ≤ j ∧ j < 2 ^ 62 then .ok (.rng i j) A1 else .no
  | _ => .no
theorem i_r1 (hm : X.mg "range" = none) (ha : DA X W [a] ms) (hg : Gl X "range" := by rfl) (hs : starEach [a] X.env = [(false, eval a X.env)] := by rfl) : DI X W tg (.Call (.Name "range" p) [a] [] pos) (mR1 ms) :=
  PIi (pi_range1 hg hm ha hs) fun σ H Q ⟨m, A, ρ, R, E, h⟩ => tA.bind R E h fun m1 A1 ds vs H1 e1 R1 E1 r1 h1 => by
    split at h1
    · obtain ⟨v, rfl, r⟩ := r1.one
      cases r
      split at h1
      · rename_i j hj
        have z := iter_rng (K := X.K) (m := m1) (H := H1) (lo := 0) (hi := j)
        rw [Int.sub_zero] at z
        exact ⟨j, rfl, hj.1, hj.2, Post.here R1 z h1⟩
      · exact h1.elim
    · exact h1.elim
theorem i_r2 (hm : X.mg "range" = none) (ha : DA X W [a, b] ms) (hg : Gl X "range" := by rfl) (hs : starEach [a, b] X.env = [(false, eval a X.env), (false, eval b X.env)] := by rfl) (hs2 : starEach [b] X.env = [(false, eval b X.env)] := by rfl) :
    DI X W tg (.Call (.Name "range" p) [a, b] [] pos) (mR2 ms) :=
  PIi (pi_range2 hg hm ha hs hs2) fun σ H Q ⟨m, A, ρ, R, E, h⟩ => tA.bind R E h fun m1 A1 ds vs H1 e1 R1 E1 r1 h1 => by
    split at h1
    · cases r1 with
      | cons r r1 =>
        obtain ⟨v, rfl, r'⟩ := r1.one
        cases r
        cases r'
        split at h1
        · rename_i i j hj
          exact ⟨i, j, rfl, hj, Post.here R1 iter_rng h1⟩
        · exact h1.elim
    · exact h1.elim
/-! ### for -/
open Classical in
noncomputable def forGo (iv : ItV) (all : List D) (t : Tg) (sb : MS) : List D → Env → AH → SRes
  | [], ρ, A => if itemsOf A iv = some all then .nx ρ A else .no
  | x :: xs, ρ, A => if itemsOf A iv = some all then (match bindT t x ρ with
    | some ρ1 => (match sb ρ1 A with
      | .nx ρ2 A2 => forGo iv all t sb xs ρ2 A2
      | .ct ρ2 A2 => forGo iv all t sb xs ρ2 A2
      | .bk ρ2 A2 => .nx ρ2 A2
      | .rt d A2 => .rt d A2
      | .exc C fs ρ2 A2 => .exc C fs ρ2 A2
      | .no => .no)
    | none => .no) else .no
noncomputable def mFor (mi : MI) (t : Tg) (sb : MS) : MS := fun ρ A => lift (mi ρ A) ρ fun iv A1 => match itemsOf A1 iv with
  | some all => forGo iv all t sb all ρ A1
  | none => .no
theorem s_for (hp : PassesOwn (model X.prog X.w) X.A X.env X.xe) (hc : X.calm = true) (hi : DI X W tg e mi) (hg : DG X tg t) (hb : DSs X W sts sb) (hs : ∀ x, foldedSetIterable e X.env x = pure x := by intro _; rfl) : DS X W (.For tg e sts [] pos) (mFor mi t sb) :=
  PSi (ps_for hp hc hi hg hb hs) fun D0 σ H ⟨m, A, ρ, R, E, h⟩ => by
    refine ⟨m, A, ρ, R, E, post_lift E h fun m1 A1 iv J H1 e1 R1 itr h1 => ?_⟩
    have E1 := E.mono e1
    split at h1
    · rename_i all hall
      refine ⟨fun i n σ' H' => n = all.length - i ∧ i ≤ all.length ∧ ∃ m' A' ρ', Ext m1 H1 m' H' ∧ Rel X.K m' A' H' ∧ REnv X.K m' H' ρ' σ' ∧ PostS X.K W m' H' (forGo iv all t sb (all.drop i) ρ' A') D0,
        ⟨all.length, by simp, Nat.zero_le _, m1, A1, ρ, Ext.refl _ _, R1, E1, by simpa using h1⟩, ?_⟩
      rintro i n σ' H' ⟨rfl, hi, m', A', ρ', e', R', E', h'⟩
      by_cases hlt : i < all.length
      · rw [List.drop_eq_getElem_cons hlt] at h'
        unfold forGo at h'
        split at h'
        · rename_i hit
          have go := itr.go m' A' H' all i _ e' R' hit (List.getElem?_eq_getElem hlt)
          refine .inr ⟨go.1, fun σ2 H2 => ∃ m2 A2 ρ2, Ext m1 H1 m2 H2 ∧ Rel X.K m2 A2 H2 ∧ REnv X.K m2 H2 ρ2 σ2 ∧ PostS X.K W m2 H2 (forGo iv all t sb (all.drop (i + 1)) ρ2 A2) D0,
            fun σ2 H2 h2 => ⟨all.length - (i + 1), by omega, rfl, hlt, h2⟩, fun x H2 hy => ?_⟩
          obtain ⟨R2, e2, rx⟩ := go.2 x H2 hy
          split at h'
          · rename_i ρ1 hb1
            refine gOf_ok (sl := slots t) t (fun _ h => h) m' H2 ρ' σ' _ x _ ρ1 (E'.mono e2) rx hb1 fun σ3 E3 _ => ⟨m', A', ρ1, R2, E3, ?_⟩
            cases hr : sb ρ1 A' with
            | nx ρ2 A2 => rw [hr] at h'; exact fun m3 H3 σ4 e3 R3 E4 => ⟨m3, A2, ρ2, (e'.trans e2).trans e3, R3, E4, PostS.mono (e2.trans e3) h'⟩
            | ct ρ2 A2 => rw [hr] at h'; exact fun m3 H3 σ4 e3 R3 E4 => ⟨m3, A2, ρ2, (e'.trans e2).trans e3, R3, E4, PostS.mono (e2.trans e3) h'⟩
            | bk ρ2 A2 => rw [hr] at h'; exact fun m3 H3 σ4 e3 R3 E4 => h' m3 H3 σ4 (e2.trans e3) R3 E4
            | rt d A2 => rw [hr] at h'; exact fun m3 H3 v e3 R3 r3 => h' m3 H3 v (e2.trans e3) R3 r3
            | exc C fs ρ2 A2 => rw [hr] at h'; exact fun m3 H3 dx gs σ4 e3 => h' m3 H3 dx gs σ4 (e2.trans e3)
            | no => rw [hr] at h'; exact h'
          · exact h'.elim
        · exact h'.elim
      · have hz : all.drop i = [] := List.drop_eq_nil_of_le (by omega)
        rw [hz] at h'
        unfold forGo at h'
        split at h'
        · rename_i hit
          exact .inl ⟨itr.stop m' A' H' all i e' R' hit (by omega), PostS.nx R' E' h'⟩
        · exact h'.elim
    · exact h1.elim
/-! ### while -/
def iterW (mt : MT) (sb : MS) : Nat → Env → AH → SRes
  | 0, _, _ => .no
  | n + 1, ρ, A => match mt ρ A with
    | .ok true A1 => (match sb ρ A1 with
      | .nx ρ2 A2 => iterW mt sb n ρ2 A2
      | .ct ρ2 A2 => iterW mt sb n ρ2 A2
      | .bk ρ2 A2 => .nx ρ2 A2
      | .rt d A2 => .rt d A2
      | .exc C fs ρ2 A2 => .exc C fs ρ2 A2
      | .no => .no)
    | .ok false A1 => .nx ρ A1
    | .exc C fs A1 => .exc C fs ρ A1
    | .no => .no
theorem iterW_more (mt : MT) (sb : MS) : ∀ (n : Nat) (ρ : Env) (A : AH), iterW mt sb n ρ A ≠ .no → iterW mt sb (n + 1) ρ A = iterW mt sb n ρ A
  | 0, _, _, h => (h rfl).elim
  | n + 1, ρ, A, h => by
    unfold iterW at h ⊢
    split
    · rename_i A1 ht
      rw [ht] at h
      simp only at h
      split
      · rename_i ρ2 A2 hb
        rw [hb] at h
        exact iterW_more mt sb n ρ2 A2 h
      · rename_i ρ2 A2 hb
        rw [hb] at h
        exact iterW_more mt sb n ρ2 A2 h
      · rfl
      · rfl
      · rfl
      · rfl
    · rfl
    · rfl
    · rfl
theorem iterW_le (mt : MT) (sb : MS) {n k : Nat} {ρ : Env} {A : AH} (h : iterW mt sb n ρ A ≠ .no) (hk : n ≤ k) : iterW mt sb k ρ A = iterW mt sb n ρ A := by
  induction k with
  | zero => cases Nat.le_zero.mp hk; rfl
  | succ k ih =>
    by_cases hz : n ≤ k
    · have q := ih hz
      rw [iterW_more mt sb k ρ A (by rw [q]; exact h), q]
    · have : n = k + 1 := by omega
      rw [this]
open Classical in
noncomputable def mWhile (mt : MT) (sb : MS) : MS := fun ρ A => if h : ∃ n, iterW mt sb n ρ A ≠ .no then iterW mt sb (Classical.choose h) ρ A else .no
theorem mWhile_eq {mt : MT} {sb : MS} {n : Nat} {ρ : Env} {A : AH} {r : SRes} (h : iterW mt sb n ρ A = r) (hr : r ≠ .no) : mWhile mt sb ρ A = r := by
  have hx : ∃ n, iterW mt sb n ρ A ≠ .no := ⟨n, by rw [h]; exact hr⟩
  unfold mWhile
  rw [dif_pos hx]
  have hs := Classical.choose_spec hx
  rcases Nat.le_total n (Classical.choose hx) with hle | hle
  · rw [iterW_le mt sb (by rw [h]; exact hr) hle, h]
  · rw [← iterW_le mt sb hs hle, h]
theorem s_while (hp : PassesOwn (model X.prog X.w) X.A X.env X.xe) (hc : DT X W c mt) (hb : DSs X W sts sb) : DS X W (.While c sts [] pos) (mWhile mt sb) :=
  PSi (ps_while hp hc hb) fun D0 σ H ⟨m, A, ρ, R, E, h⟩ => by
    unfold mWhile at h
    split at h
    · rename_i hx
      refine ⟨fun n σ' H' => ∃ m' A' ρ', Rel X.K m' A' H' ∧ REnv X.K m' H' ρ' σ' ∧ PostS X.K W m' H' (iterW mt sb n ρ' A') D0, ⟨_, m, A, ρ, R, E, h⟩, ?_⟩
      rintro n σ' H' ⟨m', A', ρ', R', E', h'⟩
      cases n with
      | zero => exact h'.elim
      | succ n =>
        unfold iterW at h'
        refine ⟨m', A', ρ', R', E', ?_⟩
        cases ht : mt ρ' A' with
        | ok k A1 =>
          rw [ht] at h'
          intro m1 H1 b e1 R1 hb
          subst hb
          have E1 := E'.mono e1
          cases k with
          | true =>
            rw [if_pos rfl]
            refine ⟨fun σ2 H2 => ∃ m2 A2 ρ2, Rel X.K m2 A2 H2 ∧ REnv X.K m2 H2 ρ2 σ2 ∧ PostS X.K W m2 H2 (iterW mt sb n ρ2 A2) D0, fun σ2 H2 h2 => ⟨n, Nat.lt_succ_self n, h2⟩, m1, A1, ρ', R1, E1, ?_⟩
            simp only at h'
            cases hr : sb ρ' A1 with
            | nx ρ2 A2 => rw [hr] at h'; exact fun m3 H3 σ4 e3 R3 E4 => ⟨m3, A2, ρ2, R3, E4, PostS.mono (e1.trans e3) h'⟩
            | ct ρ2 A2 => rw [hr] at h'; exact fun m3 H3 σ4 e3 R3 E4 => ⟨m3, A2, ρ2, R3, E4, PostS.mono (e1.trans e3) h'⟩
            | bk ρ2 A2 => rw [hr] at h'; exact fun m3 H3 σ4 e3 R3 E4 => h' m3 H3 σ4 (e1.trans e3) R3 E4
            | rt d A2 => rw [hr] at h'; exact fun m3 H3 v e3 R3 r3 => h' m3 H3 v (e1.trans e3) R3 r3
            | exc C fs ρ2 A2 => rw [hr] at h'; exact fun m3 H3 dx gs σ4 e3 => h' m3 H3 dx gs σ4 (e1.trans e3)
            | no => rw [hr] at h'; exact h'
          | false =>
            rw [if_neg (by decide)]
            exact PostS.nx R1 E1 (PostS.mono e1 h')
        | exc C fs A1 =>
          rw [ht] at h'
          exact fun m1 H1 dx gs e1 R1 hd hf => h' m1 H1 dx gs σ' e1 R1 (E'.mono e1) hd hf
        | no => rw [ht] at h'; exact h'
    · exact h.elim
end
end DM
end
section
set_option maxHeartbeats 2000000
namespace DM
open PySem PySem.Spec PyProof.Rows L2
/-! ### comprehensions -/
def wipeD (ρ : Env) : List Nat → Env
  | [] => ρ
  | v :: vs => (wipeD ρ vs).set v none
theorem REnv.wipe {K : PySem.W.Frag} {m : Mp} {H : Hp} {ρ : Env} {σ : L2.St} (h : REnv K m H ρ σ) : ∀ vs : List Nat, REnv K m H (wipeD ρ vs) (L2.wipe σ vs)
  | [] => h
  | v :: vs => (REnv.wipe h vs).unset v none
theorem wipe_at {σ : L2.St} {i : Nat} : ∀ {vs : List Nat}, (L2.wipe σ vs)[i]? = if i ∈ vs then (if i < σ.length then some none else none) else σ[i]?
  | [] => by simp [L2.wipe]
  | v :: vs => by
    unfold L2.wipe
    have ih := wipe_at (σ := σ) (i := i) (vs := vs)
    have hl := L2.wipe_length σ vs
    by_cases hv : v = i
    · subst hv
      by_cases hl2 : v < σ.length
      · rw [List.getElem?_set_self (by rw [hl]; exact hl2)]
        simp [hl2]
      · rw [List.getElem?_eq_none (by rw [List.length_set, hl]; omega)]
        simp [hl2]
    · rw [List.getElem?_set_ne hv, ih]
      have : (i ∈ v :: vs) ↔ i ∈ vs := by simp [Ne.symm hv]
      simp only [this]
theorem wipe_same {σ σ2 : L2.St} {vs sl : List Nat} (h : outside sl (L2.wipe σ vs) σ2) (hs : ∀ i ∈ sl, i ∈ vs) : L2.wipe σ2 vs = L2.wipe σ vs := by
  have hl : σ2.length = σ.length := h.1.trans (L2.wipe_length σ vs)
  refine List.ext_getElem? fun i => ?_
  rw [wipe_at, wipe_at]
  by_cases hi : i ∈ vs
  · rw [if_pos hi, if_pos hi, hl]
  · rw [if_neg hi, if_neg hi, h.2 i fun z => hi (hs i z), wipe_at, if_neg hi]
theorem RD.less {K : PySem.W.Frag} {m m' : Mp} {H : Hp} (h1 : m'.1 = m.1) (h2 : ∀ p ∈ m'.2, p ∈ m.2) (d : D) (v : V) (h : RD K m H d v) : RD K m' H d v :=
  RD.move (fun i a e => by rw [h1]; exact e) (fun a o e n => ⟨e, fun y => n.1 (by rw [← h1]; exact y), fun y => n.2 (h2 _ y)⟩) d v h
theorem RDs.less {K : PySem.W.Frag} {m m' : Mp} {H : Hp} (h1 : m'.1 = m.1) (h2 : ∀ p ∈ m'.2, p ∈ m.2) (d : List D) (v : List V) (h : RDs K m H d v) : RDs K m' H d v :=
  RDs.move (fun i a e => by rw [h1]; exact e) (fun a o e n => ⟨e, fun y => n.1 (by rw [← h1]; exact y), fun y => n.2 (h2 _ y)⟩) d v h
theorem grow_r {m : Mp} {pv : List Addr} {q : Addr} (i : Nat) (a : Addr) (h : m.1[i]? = some a) : (m.1 ++ [q], pv).1[i]? = some a := by
  show (m.1 ++ [q])[i]? = _
  rw [List.getElem?_append_left (List.getElem?_eq_some_iff.mp h).1]; exact h
theorem grow_o {m : Mp} {pv : List Addr} {q : Addr} {H : Hp} (hq : q ∈ m.2) (h2 : ∀ p ∈ pv, p ∈ m.2) (a : Addr) (o : HO) (e : H a = some o) (n : Out m a) : H a = some o ∧ Out (m.1 ++ [q], pv) a := by
  refine ⟨e, fun y => ?_, fun y => n.2 (h2 _ y)⟩
  rcases List.mem_append.mp y with y | y
  · exact n.1 y
  · exact n.2 (by rw [List.mem_singleton.mp y]; exact hq)
theorem RD.grow {K : PySem.W.Frag} {m : Mp} {pv : List Addr} {q : Addr} {H : Hp} (hq : q ∈ m.2) (h2 : ∀ p ∈ pv, p ∈ m.2) (d : D) (v : V) (h : RD K m H d v) : RD K (m.1 ++ [q], pv) H d v := RD.move grow_r (grow_o hq h2) d v h
theorem RDs.grow {K : PySem.W.Frag} {m : Mp} {pv : List Addr} {q : Addr} {H : Hp} (hq : q ∈ m.2) (h2 : ∀ p ∈ pv, p ∈ m.2) (d : List D) (v : List V) (h : RDs K m H d v) : RDs K (m.1 ++ [q], pv) H d v := RDs.move grow_r (grow_o hq h2) d v h
theorem Rel.less {K : PySem.W.Frag} {m m' : Mp} {A : AH} {H : Hp} (h1 : m'.1 = m.1) (h2 : ∀ p ∈ m'.2, p ∈ m.2) (R : Rel K m A H) : Rel K m' A H := by
  refine ⟨by rw [h1]; exact R.len, by rw [h1]; exact R.nd, fun p hp => R.pv p (h2 p hp), fun n o hn => ?_⟩
  obtain ⟨q, h3, h4⟩ := R.obj n o hn
  exact ⟨q, by rw [h1]; exact h3, h4.move (fun i a e => by rw [h1]; exact e) (fun a o e n => ⟨e, fun y => n.1 (by rw [← h1]; exact y), fun y => n.2 (h2 _ y)⟩) rfl⟩
theorem past_o {m : Mp} {H : Hp} {q : Addr} {o : HO} (hq : q ∈ m.2) (a : Addr) (u : HO) (e : H a = some u) (n : Out m a) : upd H q o a = some u ∧ Out m a :=
  ⟨by rw [upd_ne fun z => n.2 (by rw [z]; exact hq)]; exact e, n⟩
theorem RD.past {K : PySem.W.Frag} {m : Mp} {H : Hp} {q : Addr} {o : HO} (hq : q ∈ m.2) (d : D) (v : V) (h : RD K m H d v) : RD K m (upd H q o) d v := RD.move (fun _ _ e => e) (past_o hq) d v h
theorem RDs.past {K : PySem.W.Frag} {m : Mp} {H : Hp} {q : Addr} {o : HO} (hq : q ∈ m.2) (d : List D) (v : List V) (h : RDs K m H d v) : RDs K m (upd H q o) d v := RDs.move (fun _ _ e => e) (past_o hq) d v h
theorem Rel.past {K : PySem.W.Frag} {m : Mp} {A : AH} {H : Hp} {q : Addr} {o : HO} (hq : q ∈ m.2) (hn : q ∉ m.1) (R : Rel K m A H) : Rel K m A (upd H q o) := by
  refine ⟨R.len, R.nd, fun p hp z => ?_, fun n u hu => ?_⟩
  · by_cases hpq : p = q
    · rw [hpq, upd_same] at z; cases z
    · rw [upd_ne hpq] at z; exact R.pv p hp z
  · obtain ⟨p, h3, h4⟩ := R.obj n u hu
    have hpq : p ≠ q := fun y => hn (by rw [← y]; exact List.mem_of_getElem? h3)
    exact ⟨p, h3, h4.move (fun _ _ e => e) (past_o hq) (upd_ne hpq)⟩
open Classical in
noncomputable def compGo (iv : ItV) (all : List D) (t : Tg) (tt : MT) (me : ME) (ρ : Env) : List D → List D → AH → Res (List D)
  | [], acc, A => if itemsOf A iv = some all then .ok acc A else .no
  | x :: xs, acc, A => if itemsOf A iv = some all then (match bindT t x ρ with
    | some ρ1 => (match tt ρ1 A with
      | .ok true A1 => (match me ρ1 A1 with
        | .ok y A2 => compGo iv all t tt me ρ xs (acc ++ [y]) A2
        | _ => .no)
      | .ok false A1 => compGo iv all t tt me ρ xs acc A1
      | _ => .no)
    | none => .no) else .no
/-- chg: the new list will change -/
noncomputable def mLc (chg : Bool) (mi : MI) (t : Tg) (tt : MT) (me : ME) (vs : List Nat) : ME := fun ρ A => (mi ρ A).bind fun iv A1 => match itemsOf A1 iv with
  | some all => if all.length ≤ 16777216 then (compGo iv all t tt me (wipeD ρ vs) all [] A1).bind fun acc A2 => if chg = true then .ok (.ref A2.length) (A2 ++ [.lst acc]) else .ok (.lst acc) A2 else .no
  | none => .no
def mYes : MT := fun _ A => .ok true A
abbrev WNo : WX := fun _ _ _ _ => False
section
variable {X : Cx} {W : WX} {a b c e tg iter elt : Expr} {es : List Expr} {ma mb mc me : ME} {mt mu tt : MT} {ms mk : MA} {mi : MI} {sa sb : MS} {pos p p2 : Pos} {sts ifs : List Expr} {t : Tg}
def tTs (K : PySem.W.Frag) (mt : MT) : TT := tT K WNo mt
theorem l_nil : PTs X [] (tTs X.K mYes) := ⟨fun pins s σ H Q I ⟨m, A, ρ, R, E, h⟩ => pts_nil.run pins s σ H Q I (Post.here R rfl h)⟩
theorem l_one (h : DT X WNo c mt) : PTs X [c] (tTs X.K mt) := pts_one h
theorem lcD {K : PySem.W.Frag} {vs : List Nat} {chg : Bool} (hsl : ∀ i ∈ slots t, i ∈ vs) {σ : L2.St} {H : Hp} {Q : VK} (h : tE K W (mLc chg mi t tt me vs) σ H Q) : tLc (tI K W mi) (gOf K t) (tTs K tt) (tE K WNo me) vs σ H Q := by
  obtain ⟨m, A, ρ, R, E, h⟩ := h
  refine ⟨m, A, ρ, R, E, Post.imp (Post.bind (R := fun m' H' iv J => Iter K J m' H' iv) h) fun J H1 ⟨m1, A1, iv, e1, R1, itr, h1⟩ Dl hD => ?_⟩
  have E1 := E.mono e1
  split at h1
  rotate_left
  · exact h1.elim
  rename_i all hall
  split at h1
  rotate_left
  · exact h1.elim
  rename_i hz
  have hout := R1.out hD
  -- the state between two turns
  refine ⟨fun i n H' => n = all.length - i ∧ i ≤ all.length ∧ ∃ (m' : Mp) (A' : AH) (acc : List D) (us : List V), Dl ∈ m'.2 ∧ Dl ∉ m'.1 ∧ Ext m1 H1 m' H' ∧ Rel K m' A' H' ∧ H' Dl = some (.lst us) ∧ RDs K m' H' acc us ∧ acc.length ≤ i ∧
      Post K (RD K) W σ m1 H1 ((compGo iv all t tt me (wipeD ρ vs) (all.drop i) acc A').bind fun acc A2 => if chg = true then .ok (.ref A2.length) (A2 ++ [.lst acc]) else .ok (.lst acc) A2) Q, ?_, ?_⟩
  · refine ⟨all.length, by simp, Nat.zero_le _, (m1.1, Dl :: m1.2), A1, [], [], List.mem_cons_self, hout.1, ?_, ?_, upd_same, .nil, Nat.le_refl _, by simpa using h1⟩
    · refine ⟨⟨[], (List.append_nil _).symm⟩, fun p hp => List.mem_cons_of_mem _ hp, fun p hp => ?_, fun p hp => .inl hp, fun p o ho hn => by rw [upd_ne (ne_of_none ho hD)]; exact ho⟩
      rcases List.mem_cons.mp hp with z | z
      · exact .inr (.inr (by rw [z]; exact hD))
      · exact .inl z
    · have e2 : Ext m1 H1 (m1.1, Dl :: m1.2) (upd H1 Dl (.lst [])) := by
        refine ⟨⟨[], (List.append_nil _).symm⟩, fun p hp => List.mem_cons_of_mem _ hp, fun p hp => ?_, fun p hp => .inl hp, fun p o ho hn => by rw [upd_ne (ne_of_none ho hD)]; exact ho⟩
        rcases List.mem_cons.mp hp with z | z
        · exact .inr (.inr (by rw [z]; exact hD))
        · exact .inl z
      refine ⟨R1.len, R1.nd, fun p hp z => ?_, fun n o hn => ?_⟩
      · rcases List.mem_cons.mp hp with y | y
        · rw [y, upd_same] at z; cases z
        · by_cases hpq : p = Dl
          · rw [hpq, upd_same] at z; cases z
          · rw [upd_ne hpq] at z; exact R1.pv p y z
      · obtain ⟨q, h3, h4⟩ := R1.obj n o hn
        refine ⟨q, h3, h4.keep e2 ?_⟩
        rw [upd_ne fun y => hout.1 (by rw [← y]; exact List.mem_of_getElem? h3)]
  · rintro i n H' ⟨rfl, hi, m', A', acc, us, hp2, hp1, e', R', hDl, ra, hal, h'⟩
    by_cases hlt : i < all.length
    · rw [List.drop_eq_getElem_cons hlt] at h'
      unfold compGo at h'
      split at h'
      rotate_left
      · exact h'.elim
      rename_i hit
      have go := itr.go m' A' H' all i _ e' R' hit (List.getElem?_eq_getElem hlt)
      refine .inr ⟨go.1, fun H2 => ∃ (m' : Mp) (A' : AH) (acc : List D) (us : List V), Dl ∈ m'.2 ∧ Dl ∉ m'.1 ∧ Ext m1 H1 m' H2 ∧ Rel K m' A' H2 ∧ H2 Dl = some (.lst us) ∧ RDs K m' H2 acc us ∧ acc.length ≤ i + 1 ∧
        Post K (RD K) W σ m1 H1 ((compGo iv all t tt me (wipeD ρ vs) (all.drop (i + 1)) acc A').bind fun acc A2 => if chg = true then .ok (.ref A2.length) (A2 ++ [.lst acc]) else .ok (.lst acc) A2) Q,
        fun H2 h2 => ⟨all.length - (i + 1), by omega, rfl, hlt, h2⟩, fun x H2 hy => ?_⟩
      obtain ⟨R2, e2, rx⟩ := go.2 x H2 hy
      have hD2 : H2 Dl = some (.lst us) := e2.keep Dl _ hDl hp1
      split at h'
      rotate_left
      · exact h'.elim
      rename_i ρ1 hb1
      refine gOf_ok (sl := slots t) t (fun _ h => h) m' H2 _ _ _ x _ ρ1 ((E1.wipe vs).mono (e'.trans e2)) rx hb1 fun σ3 E3 o3 => ⟨wipe_same o3 hsl, m', A', ρ1, R2, E3, ?_⟩
      split at h'
      · rename_i A2 htt
        rw [htt]
        intro m3 H3 k e3 R3 hk
        subst hk
        have h31 : Dl ∉ m3.1 := fun z => (e3.new _ z).elim hp1 fun y => by rw [hD2] at y; cases y
        rw [if_pos rfl]
        refine ⟨m3, A2, ρ1, R3, E3.mono e3, ?_⟩
        split at h'
        rotate_left
        · exact h'.elim
        rename_i y A3 hme
        rw [hme]
        intro m4 H4 v e4 R4 r4
        have hD4 : H4 Dl = some (.lst us) := e4.keep Dl _ (e3.keep Dl _ hD2 hp1) h31
        have h41 : Dl ∉ m4.1 := fun z => (e4.new _ z).elim h31 fun y => by rw [e3.keep Dl _ hD2 hp1] at y; cases y
        have h42 : Dl ∈ m4.2 := e4.sub _ (e3.sub _ hp2)
        have et := (e2.trans e3).trans e4
        refine ⟨us, hD4, by rw [← ra.length, sizeLine_eq]; omega, m4, A3, acc ++ [y], us ++ [v], h42, h41, ?_, R4.past h42 h41, upd_same, RDs.past h42 _ _ ((RDs.mono et _ _ ra).append (.cons r4 .nil)), by rw [List.length_append]; simp; omega, h'⟩
        have ez := e'.trans et
        exact ⟨ez.pre, ez.sub, ez.pvs, ez.new, fun p o ho hn => by
          rw [upd_ne (ne_of_none ho hD)]
          exact ez.keep p o ho hn⟩
      · rename_i A2 htt
        rw [htt]
        intro m3 H3 k e3 R3 hk
        subst hk
        have h31 : Dl ∉ m3.1 := fun z => (e3.new _ z).elim hp1 fun y => by rw [hD2] at y; cases y
        rw [if_neg (by decide)]
        exact ⟨m3, A2, acc, us, e3.sub _ hp2, h31, (e'.trans e2).trans e3, R3, e3.keep Dl _ hD2 hp1, RDs.mono (e2.trans e3) _ _ ra, by omega, h'⟩
      · exact h'.elim
    · have hnil : all.drop i = [] := List.drop_eq_nil_of_le (by omega)
      rw [hnil] at h'
      unfold compGo at h'
      split at h'
      rotate_left
      · exact h'.elim
      rename_i hit
      refine .inl ⟨itr.stop m' A' H' all i e' R' hit (by omega), ?_⟩
      rw [bind_ok] at h'
      have sub2 : ∀ p ∈ m1.2, p ∈ m'.2 := e'.sub
      cases chg with
      | false =>
        have eF : Ext m1 H1 (m'.1, m1.2) H' := ⟨e'.pre, fun _ h => h, fun _ h => .inl h, e'.new, e'.keep⟩
        exact h' (m'.1, m1.2) H' _ eF (Rel.less (m := m') (m' := (m'.1, m1.2)) rfl sub2 R') (.lst (.inl ⟨.inl hDl, hp1, hout.2⟩) (RDs.less (m := m') (m' := (m'.1, m1.2)) rfl sub2 _ _ ra))
      | true =>
        obtain ⟨l, hl⟩ := e'.pre
        have eF : Ext m1 H1 (m'.1 ++ [Dl], m1.2) H' := by
          refine ⟨⟨l ++ [Dl], by show m'.1 ++ [Dl] = _; rw [hl, List.append_assoc]⟩, fun _ h => h, fun _ h => .inl h, fun p hp => ?_, e'.keep⟩
          rcases List.mem_append.mp hp with z | z
          · exact e'.new p z
          · exact .inr (by rw [List.mem_singleton.mp z]; exact hD)
        refine h' (m'.1 ++ [Dl], m1.2) H' (.ref Dl) eF ?_ (.ref (by show (m'.1 ++ [Dl])[A'.length]? = some Dl; rw [← R'.len]; simp))
        refine ⟨by rw [List.length_append, List.length_append, R'.len]; rfl, List.nodup_append.mpr ⟨R'.nd, by simp, fun x hx y hy z => hp1 (by rw [← List.mem_singleton.mp hy, ← z]; exact hx)⟩, fun p hp => R'.pv p (sub2 p hp), fun n o hn => ?_⟩
        by_cases hlen : n < A'.length
        · rw [List.getElem?_append_left hlen] at hn
          obtain ⟨q, h3, h4⟩ := R'.obj n o hn
          refine ⟨q, by show (m'.1 ++ [Dl])[n]? = some q; rw [List.getElem?_append_left (by rw [R'.len]; exact hlen)]; exact h3, ?_⟩
          exact h4.move grow_r (grow_o hp2 sub2) rfl
        · rw [List.getElem?_append_right (by omega)] at hn
          have h0 : n - A'.length = 0 := by
            have := (List.getElem?_eq_some_iff.mp hn).1
            simp at this; omega
          rw [h0] at hn
          cases hn
          refine ⟨Dl, ?_, us, hDl, RDs.grow hp2 sub2 _ _ ra⟩
          show (m'.1 ++ [Dl])[n]? = some Dl
          rw [List.getElem?_append_right (by rw [R'.len]; omega), R'.len, h0]; rfl
end
end DM
end
section
set_option maxHeartbeats 2000000
namespace DM
open PySem PySem.Spec PyProof.Rows L2
section
variable {X : Cx} {W : WX} {a b c e tg iter elt : Expr} {es ifs : List Expr} {ma mb mc me : ME} {mt mu tt : MT} {ms mk : MA} {mi : MI} {sa sb : MS} {pos p p2 : Pos} {t : Tg}
theorem d_lc {scope : Scope} (chg : Bool) (own : List (Str × Nat)) (hc : X.calm = true) (hN : X.N.Nodup) (hi : DI X W tg iter mi) (ok : BlkOk X.N X.env.scope scope own)
    (hg : ∀ (s : Shared) (H : Hp) (C : Addr) (cl : List (Str × Addr)) (fp : List Addr), DG (X.blk s H scope (compEnvC scope cl C X.env) fp) tg t)
    (ht : ∀ (s : Shared) (H : Hp) (C : Addr) (cl : List (Str × Addr)) (fp : List Addr), PTs (X.blk s H scope (compEnvC scope cl C X.env) fp) ifs (tTs X.K tt))
    (he : ∀ (s : Shared) (H : Hp) (C : Addr) (cl : List (Str × Addr)) (fp : List Addr), DE (X.blk s H scope (compEnvC scope cl C X.env) fp) WNo elt me)
    {sl : List Nat} (hsl : ∀ i ∈ slots t, i ∈ sl) (ho : own.map (·.2) = sl := by rfl) (hs : ∀ x, foldedSetIterable iter X.env x = pure x := by intro _; rfl) : DE X W (.ListComp elt [⟨tg, iter, ifs, 0⟩] scope pos) (mLc chg mi t tt me sl) := by
  subst ho
  exact PEi (pe_lc hc hN hi ok hg ht he hs) fun _ _ _ h => lcD hsl h
theorem s_setLc {i : Nat} {y : Str} {py spos : Pos} {scope : Scope} (chg : Bool) (own : List (Str × Nat)) (hc : X.calm = true) (hN : X.N.Nodup) (hy : X.N[i]? = some y) (hyl : X.env.scope.names.lookup y = some .local)
    (hsw : swapsWith (.ListComp elt [⟨tg, iter, ifs, 0⟩] scope pos) (some (.Name y py)) spos.line X.env = pure true) (hi : DI X W tg iter mi) (ok : BlkOk X.N X.env.scope scope own)
    (hg : ∀ (s : Shared) (H : Hp) (C : Addr) (cl : List (Str × Addr)) (fp : List Addr), DG (X.blk s H scope (compEnvC scope cl C X.env) fp) tg t)
    (ht : ∀ (s : Shared) (H : Hp) (C : Addr) (cl : List (Str × Addr)) (fp : List Addr), PTs (X.blk s H scope (compEnvC scope cl C X.env) fp) ifs (tTs X.K tt))
    (he : ∀ (s : Shared) (H : Hp) (C : Addr) (cl : List (Str × Addr)) (fp : List Addr), DE (X.blk s H scope (compEnvC scope cl C X.env) fp) WNo elt me)
    {sl : List Nat} (hsl : ∀ i ∈ slots t, i ∈ sl) (ho : own.map (·.2) = sl := by rfl) (hs : ∀ x, foldedSetIterable iter X.env x = pure x := by intro _; rfl) : DS X W (.Assign [.Name y py] (.ListComp elt [⟨tg, iter, ifs, 0⟩] scope pos) spos) (mSet i (mLc chg mi t tt me sl)) := by
  subst ho
  exact PSi (ps_setLc hc hN hy hyl hsw hi ok hg ht he hs) fun _ _ _ h => setD (fun _ q => lcD hsl q) h
theorem s_par2 {i j : Nat} {x y : Str} {px py pt : Pos} {kt k2 : Nat} {pt2 : Pos} (hc : X.calm = true) (hN : X.N.Nodup) (hi : X.N[i]? = some x) (hj : X.N[j]? = some y) (hij : i ≠ j) (hx : X.env.scope.names.lookup x = some .local) (hy : X.env.scope.names.lookup y = some .local)
    (ha : DA X W [a, b] ms) (hw : swappedStores [.Tuple [.Name x px, .Name y py] kt pt] (.Tuple [a, b] k2 pt2) X.env = pure (some [x, y]))
    (hs : swapsWithSole [.Tuple [.Name x px, .Name y py] kt pt] (.Tuple [a, b] k2 pt2) pos.line X.env = pure false := by rfl) :
    DS X W (.Assign [.Tuple [.Name x px, .Name y py] kt pt] (.Tuple [a, b] k2 pt2) pos) (mPar2 i j ms) := PSi (ps_par hc hN hi hj hij hx hy ha hw hs) fun _ _ _ h => par2D h
theorem s_par3 {i j l : Nat} {x y z : Str} {px py pz pt : Pos} {kt k2 : Nat} {pt2 : Pos} (hc : X.calm = true) (hN : X.N.Nodup) (hi : X.N[i]? = some x) (hj : X.N[j]? = some y) (hl : X.N[l]? = some z) (hij : i ≠ j) (hil : i ≠ l) (hjl : j ≠ l)
    (hx : X.env.scope.names.lookup x = some .local) (hy : X.env.scope.names.lookup y = some .local) (hz : X.env.scope.names.lookup z = some .local)
    (ha : DA X W [a, b, c] ms) (hw : swappedStores [.Tuple [.Name x px, .Name y py, .Name z pz] kt pt] (.Tuple [a, b, c] k2 pt2) X.env = pure (some [x, y, z]))
    (hs : swapsWithSole [.Tuple [.Name x px, .Name y py, .Name z pz] kt pt] (.Tuple [a, b, c] k2 pt2) pos.line X.env = pure false := by rfl) :
    DS X W (.Assign [.Tuple [.Name x px, .Name y py, .Name z pz] kt pt] (.Tuple [a, b, c] k2 pt2) pos) (mPar3 i j l ms) := PSi (ps_par3 hc hN hi hj hl hij hil hjl hx hy hz ha hw hs) fun _ _ _ h => par3D h
/-! ### x += e -/
theorem s_aug {i : Nat} {x : Str} {pos' : Pos} {op : Operator} {f : D → D → AH → Res D} {r : R2} (ho : OpR X (inplaceOp op) r) (hf : OpD X.K f r) (hN : X.N.Nodup) (hi : X.N[i]? = some x) (hx : Loc X.env.scope x) (he : DE X W e me)
    (hx2 : X.fn x = true ∨ X.env.scope.names.lookup x = some .local := by first | exact .inl rfl | exact .inr rfl | assumption) : DS X W (.AugAssign (.Name x pos') op e pos) (mAug i f me) :=
  PSi (ps_aug hN hi hx he (ti := r) (fun pins s σ H x y u v Q I rx ry q => ho pins s σ H x y u v Q I rx ry q) hx2) fun D0 σ H ⟨m, A, ρ, R, E, h⟩ => by
    unfold mAug at h
    split at h
    · rename_i d hd
      obtain ⟨v, h1, h2⟩ := E.2 i d hd
      refine ⟨v, h1, ?_⟩
      have h' : PostS X.K W m H (lift (me ρ A) ρ fun y A1 => lift (f d y A1) ρ fun z A2 => .nx (ρ.set i (some z)) A2) D0 := by
        cases hr : me ρ A with
        | ok y A1 => rw [hr] at h; exact h
        | exc C fs A1 => rw [hr] at h; exact h
        | no => rw [hr] at h; exact h
      refine tE.lift R E h' fun m1 A1 d1 v1 H1 e1 R1 E1 r1 h3 => hf W σ m1 A1 H1 v v1 d d1 _ R1 (RD.mono e1 _ _ h2) r1 (post_lift E1 h3 fun m2 A2 d2 v2 H2 e2 R2 r2 h4 => PostS.nx R2 ((E1.mono e2).set r2 i) h4)
    · exact h.elim
end
/-! ### defs -/
def spD (K : PySem.W.Frag) (n : Nat) (mf : List D → AH → Res D) : Sp := fun vs H Q E => vs.length = n ∧ ∃ m A ds, Rel K m A H ∧ RDs K m H ds vs ∧ Post K (RD K) (fun c d _ H' => E c d H') [] m H (mf ds A) Q
structure FnD (P : Program) (w : World) (K : PySem.W.Frag) (mg : Str → Option Value) (base : Heap) (k : Nat) (f : Addr) (fd : FuncData) (ps : List Str) (mf : List D → AH → Res D) : Prop where
  run : ∀ (A : Around) (outer : List PySem.Env) (s : Shared) (H : Hp) (args : Args) (us : List Value) (vs : List V) (Q : VK) (E : XK), Room k A → A.guards = some [] → Env0 P w K mg base A outer s H → BindsTo s fd args (ps.zip us) → Vals vs us →
    spD K ps.length mf vs H Q E → codeAny (model P w) A (.call (.ref f) args) (CR (L2.CX P w) outer P w H s Q E) s
def mFun (n : Nat) (ms : MS) : List D → AH → Res D := fun ds A => match ms (ds.map some ++ List.replicate (n - ds.length) none) A with
  | .nx _ A1 => .ok .non A1
  | .rt d A1 => .ok d A1
  | .exc C fs _ A1 => .exc C fs A1
  | .bk _ _ => .no
  | .ct _ _ => .no
  | .no => .no
theorem start_rel {K : PySem.W.Frag} {m : Mp} {H : Hp} {ds : List D} {vs : List V} {N : List Str} (r : RDs K m H ds vs) : REnv K m H (ds.map some ++ List.replicate (N.length - ds.length) none) (L2.start N vs) := by
  unfold L2.start
  refine ⟨by rw [List.length_append, List.length_append, List.length_map, List.length_map, List.length_replicate, List.length_replicate, r.length], fun i d h => ?_⟩
  by_cases hi : i < ds.length
  · rw [List.getElem?_append_left (by rw [List.length_map]; exact hi), List.getElem?_map] at h
    cases hd : ds[i]? with
    | none => rw [hd] at h; cases h
    | some d' =>
      rw [hd] at h
      cases h
      obtain ⟨v, h1, h2⟩ := r.get hd
      exact ⟨v, by rw [List.getElem?_append_left (by rw [List.length_map, ← r.length]; exact hi), List.getElem?_map, h1]; rfl, h2⟩
  · rw [List.getElem?_append_right (by rw [List.length_map]; omega), List.getElem?_replicate] at h
    split at h <;> cases h
section
variable {P : Program} {w : World} {K : PySem.W.Frag} {mg : Str → Option Value} {base : Heap}
/-- a def by its body -/
theorem FnD.of {x qual : Str} {st : Stmt} {f : Addr} {fd : FuncData} {N ps : List Str} {k : Nat} {ms : MS} (F : Fun K x qual st f fd) (S : FnScope N ps (defScope st))
    (hb : ∀ (cdv : Value), fd.code = cdv → ∀ (A : Around) (outer : List PySem.Env) (s : Shared) (H : Hp) (E : XK), Room k (A.deeper (envOfC qual (defScope st) s.heap.objs.size f cdv)) → (A.deeper (envOfC qual (defScope st) s.heap.objs.size f cdv)).guards = some [] →
      Takes (cxOf (L2.CX P w) P w K mg base N qual (defScope st) f cdv A outer s H E) (fun c d _ H' => E c d H') →
      PassesOwn (model P w) (A.deeper (envOfC qual (defScope st) s.heap.objs.size f cdv)) (envOfC qual (defScope st) s.heap.objs.size f cdv) (cxOf (L2.CX P w) P w K mg base N qual (defScope st) f cdv A outer s H E).xe → DSs (cxOf (L2.CX P w) P w K mg base N qual (defScope st) f cdv A outer s H E) (fun c d _ H' => E c d H') (defBody st) ms) {n : Nat} (hn : N.length = n := by rfl) : FnD P w K mg base (k + 1) f fd ps (mFun n ms) := by
  subst hn
  obtain ⟨oc, od, kV, doc, pm, an, cdv, ct, osl, rfl, lk, hcd⟩ := F.ex
  refine ⟨fun A outer s H args us vs Q E room gd en bi rel hsp => ?_⟩
  obtain ⟨hlen, m, AA, ds, R, rds, post⟩ := hsp
  have kin : K.In s.heap := en.mod.kin.keeps fun b o h => (en.bs b o h).1
  have nolim : s.heap.NoLimit := en.mod.nolimit.keeps fun b o h => (en.bs b o h).1
  have kinds : ∀ y ∈ ps.zip us, (defScope st).names.lookup y.1 = some .local ∨ ((defScope st).names.lookup y.1 = some .cell ∧ ((cellsFrom (s.heap.objs.size + 1) (defScope st).names []).lookup y.1).isSome = true) := by
    rintro ⟨n, v⟩ hy
    rcases S.par n (List.of_mem_zip hy).1 with z | z
    · exact .inl z
    · exact .inr ⟨z, PySem.W.cellsFrom_some _ _ _ (.inl z)⟩
  refine codeAny_call_function room.depth (kin _ _ lk) rfl S.co S.gen rfl (PySem.W.codeRec_of kin hcd) (bi _ _ _ _ (wpAny_newFunctionEnv_cells S.kind kinds fun env henv s1 hx => ?_))
  subst henv
  refine ⟨nolim.keeps hx.toInCall.keep, codeAny_func ?_⟩
  have body := hb cdv rfl A outer s H E (room.deeper _) gd (takes_of rfl rfl rfl rfl) (passes_of rfl)
  have I := inv_start (CX := L2.CX P w) (E := E) S room.hd en hlen rel hx
  have want : tS K (fun c d _ H' => E c d H') ms { nx := fun _ H' => Q .non H', rt := Q } (L2.start N vs) H := by
    refine ⟨m, AA, _, R, start_rel (N := N) rds, ?_⟩
    unfold mFun at post
    cases hr : ms (ds.map some ++ List.replicate (N.length - ds.length) none) AA with
    | nx ρ1 A1 => rw [hr] at post; exact fun m' H' σ' e1 R1 _ => post m' H' .non e1 R1 .non
    | rt d A1 => rw [hr] at post; exact fun m' H' v e1 R1 r1 => post m' H' v e1 R1 r1
    | exc C fs ρ1 A1 => rw [hr] at post; exact fun m' H' c dx σ' e1 R1 _ hc hx => post m' H' c dx e1 R1 hc hx
    | bk ρ1 A1 => rw [hr] at post; exact post.elim
    | ct ρ1 A1 => rw [hr] at post; exact post.elim
    | no => rw [hr] at post; exact post.elim
  have back : ∀ {σ' : L2.St} {H' : Hp} {v : V} {u : Value} {s' : Shared}, Inv (cxOf (L2.CX P w) P w K mg base N qual (defScope st) f cdv A outer s H E) [] σ' H' s' → RelV v u → Q v H' → CE outer P w H s Q u s' :=
    fun J ru q => ⟨_, _, J.os, J.bare, J.base, J.hok, ru, q⟩
  refine wpAny_mono (body.run [] s1 (L2.start N vs) H _ I want) (fun fl s' z => ?_) fun _ _ z => z
  cases fl with
  | next =>
    obtain ⟨_, _, J, q⟩ := z
    exact back (v := V.non) (u := Value.none) J rfl q
  | ret u =>
    obtain ⟨_, _, _, J, ru, q⟩ := z
    exact back J ru q
  | brk =>
    obtain ⟨_, _, _, q⟩ := z
    exact q.elim
  | cont =>
    obtain ⟨_, _, _, q⟩ := z
    exact q.elim
theorem FnD.up {j k : Nat} {f : Addr} {fd : FuncData} {ps : List Str} {mf : List D → AH → Res D} (F : FnD P w K mg base j f fd ps mf) (h : j ≤ k) : FnD P w K mg base k f fd ps mf :=
  ⟨fun A outer s H args us vs Q E hr => F.run A outer s H args us vs Q E (hr.mono h)⟩
end
/-! ### calls -/
def mCallF (n : Nat) (mf : List D → AH → Res D) (ms : MA) : ME := fun ρ A => (ms ρ A).bind fun ds A1 => if ds.length = n then mf ds A1 else .no
section
variable {X : Cx} {W : WX} {k : Nat} {f : Addr} {fd : FuncData} {ps ks : List Str} {mf : List D → AH → Res D} {x : Str} {p pos kpos : Pos} {e : Expr} {es : List Expr} {ms mk : MA} {me : ME} {kws : List Keyword} {nm : Option Str}
theorem run_D {pins : List (Addr × Obj)} {σ : L2.St} {H : Hp} {s : Shared} {Q : VK} {us : List Value} {vs : List V} {args : Args} (F : FnD X.prog X.w X.K X.mg X.base k f fd ps mf) (hr : Room k X.A) (gd : X.A.guards = some []) (tk : Takes X W)
    (I : Inv X pins σ H s) (bi : BindsTo s fd args (ps.zip us)) (r : Vals vs us) (h : spD X.K ps.length mf vs H Q (WE W σ)) : codeAny (model X.prog X.w) X.A (.call (.ref f) args) (fun r s' => match r with
      | .ok (.ret u) => EP X pins σ Q u s'
      | .ok _ => False
      | .error z => X.xe z s') s := by
  refine codeAny_mono (F.run X.A X.stack s H args us vs Q (WE W σ) hr gd I.env0 bi r h) fun r s' hq => ?_
  cases r with
  | error z => exact passAt tk σ pins H s z s' I hq
  | ok fl =>
    cases fl with
    | ret u => exact I.after hq
    | next => exact hq
    | brk => exact hq
    | cont => exact hq
theorem call_D {pins : List (Addr × Obj)} {σ : L2.St} {s : Shared} {Q : VK} {us : List Value} {kw : List (Str × Value)} (h : codeAny (model X.prog X.w) X.A (.call (.ref f) ⟨us, kw⟩) (fun r s' => match r with
      | .ok (.ret u) => EP X pins σ Q u s'
      | .ok _ => False
      | .error z => X.xe z s') s) : wpAny (model X.prog X.w) X.A (call (.ref f) us kw) (EP X pins σ Q) X.xe s := by
  refine wpAny_call (codeAny_mono h fun r s' z => ?_)
  cases r with
  | error y => exact z
  | ok fl => cases fl <;> first | exact z | exact z.elim
/-- f(a, ..) -/
theorem d_call (F : FnD X.prog X.w X.K X.mg X.base k f fd ps mf) (hr : Room k X.A) (gd : X.A.guards = some []) (tk : Takes X W) (hm : X.mg x = some (.ref f)) (hk : PySem.W.keepIn X.K (.ref f) = true) (hb : Binds X.K fd ps []) (ha : DA X W (e :: es) ms) {n : Nat} (hn : ps.length = n := by rfl)
    (hg : Gl X x := by rfl) (hdb : (x == ("__debug__" : Str)) = false := by decide) (he : starEach (e :: es) X.env = (false, eval e X.env) :: starEach es X.env := by rfl) (hpl : (backTo pos (starEach es X.env)).any (·.1) = false := by rfl) :
    DE X W (.Call (.Name x p) (e :: es) [] pos) (mCallF n mf ms) := by
  subst hn
  refine ⟨fun pins s σ H Q I ⟨m, A, ρ, R, E, h⟩ => wpAny_Call_Name_kw (ld_glob I hg hm (PySem.W.callWith_K (h₀ := X.base) I.ok.mod.kin hk (thn (ha.run pos pins s σ H _ I (tA.bind (T := fun vs H1 => spD X.K ps.length mf vs H1 Q (WE W σ)) R E h fun m1 A1 ds vs H1 e1 R1 E1 r1 h1 => ?_)) fun us s1 ⟨vs, H1, I1, r, q⟩ => ⟨I1.kIn, call_D ?_⟩) he hpl) hdb)⟩
  · split at h1
    · rename_i hl
      exact ⟨by rw [← r1.length]; exact hl, m1, A1, ds, R1, r1, by
        cases hz : mf ds A1 with
        | ok d A2 => rw [hz] at h1; exact h1
        | exc C fs A2 => rw [hz] at h1; exact h1
        | no => rw [hz] at h1; exact h1⟩
    · exact h1.elim
  · have b := hb s1 us I1.kIn (by rw [List.append_nil, ← r.length]; exact q.1)
    rw [List.append_nil] at b
    exact run_D F hr gd tk I1 b r q
/-- f() -/
theorem d_call0 (F : FnD X.prog X.w X.K X.mg X.base k f fd ps mf) (hr : Room k X.A) (gd : X.A.guards = some []) (tk : Takes X W) (hm : X.mg x = some (.ref f)) (hk : PySem.W.keepIn X.K (.ref f) = true) (hb : Binds X.K fd ps []) {n : Nat} (hn : ps.length = n := by rfl)
    (hg : Gl X x := by rfl) (hdb : (x == ("__debug__" : Str)) = false := by decide) : DE X W (.Call (.Name x p) [] [] pos) (mCallF n mf mNil) := by
  subst hn
  refine ⟨fun pins s σ H Q I ⟨m, A, ρ, R, E, h⟩ => wpAny_Call_Name_kw (ld_glob I hg hm (PySem.W.callWith_K0 I.kIn hk (call_D ?_)) hdb)⟩
  have h' : Post X.K (RD X.K) W σ m H (if ([] : List D).length = ps.length then mf [] A else .no) Q := h
  split at h'
  · rename_i hl
    have b := hb s [] I.kIn (by rw [List.append_nil]; exact hl)
    rw [List.append_nil] at b
    exact run_D F hr gd tk I b .nil ⟨hl, m, A, [], R, .nil, by
        cases hz : mf [] A with
        | ok d A2 => rw [hz] at h'; exact h'
        | exc C fs A2 => rw [hz] at h'; exact h'
        | no => rw [hz] at h'; exact h'⟩
  · exact h'.elim
/-- keywords -/
abbrev DK (X : Cx) (W : WX) (kws : List Keyword) (mk : MA) : Prop := PK X kws (tA X.K W mk)
theorem k_nil : DK X W [] mNil := ⟨fun pos pins s σ H Q I ⟨m, A, ρ, R, E, h⟩ => pk_nil.run pos pins s σ H Q I (Post.here R .nil h)⟩
theorem k_cons (ha : DE X W e me) (hr : DK X W kws mk) : DK X W (⟨nm, e, kpos⟩ :: kws) (mCons me mk) :=
  ⟨fun pos pins s σ H Q I ⟨m, A, ρ, R, E, h⟩ => (pk_cons ha hr).run pos pins s σ H Q I (tE.bind R E h fun m1 A1 d v H1 e1 R1 E1 r1 h1 => tA.bind R1 E1 h1 fun m2 A2 ds vs H2 e2 R2 E2 r2 h2 => Post.here R2 (.cons (RD.mono e2 _ _ r1) r2) h2)⟩
def pick {α : Type} (pm : List Nat) (xs : List α) : List α := pm.filterMap fun i => xs[i]?
theorem RDs.pick {K : PySem.W.Frag} {m : Mp} {H : Hp} {ds : List D} {vs : List V} (r : RDs K m H ds vs) : ∀ pm : List Nat, RDs K m H (DM.pick pm ds) (DM.pick pm vs)
  | [] => .nil
  | i :: pm => by
    have ih := RDs.pick r pm
    unfold DM.pick at ih ⊢
    rw [List.filterMap_cons, List.filterMap_cons]
    cases hd : ds[i]? with
    | none =>
      have : vs[i]? = none := List.getElem?_eq_none (by rw [← r.length]; exact List.getElem?_eq_none_iff.mp hd)
      rw [this]; exact ih
    | some d =>
      obtain ⟨v, h1, h2⟩ := r.get hd
      rw [h1]; exact .cons h2 ih
theorem Vals.pick {vs : List V} {us : List Value} (r : Vals vs us) : ∀ pm : List Nat, Vals (DM.pick pm vs) (DM.pick pm us)
  | [] => .nil
  | i :: pm => by
    have ih := Vals.pick r pm
    unfold DM.pick at ih ⊢
    rw [List.filterMap_cons, List.filterMap_cons]
    cases hd : vs[i]? with
    | none =>
      have : us[i]? = none := L2.Vals.none_of r hd
      rw [this]; exact ih
    | some v =>
      obtain ⟨u, h1, h2⟩ := L2.Vals.get r hd
      rw [h1]; exact .cons h2 ih
def KB (K : PySem.W.Frag) (fd : FuncData) (ps : List Str) (n : Nat) (ks : List Str) (pm : List Nat) : Prop := ∀ (s : Shared) (us ws : List Value), K.In s.heap → us.length = n → ws.length = ks.length → BindsTo s fd ⟨us, ks.zip ws⟩ (ps.zip (DM.pick pm (us ++ ws)))
def mCallK (n l a : Nat) (pm : List Nat) (mf : List D → AH → Res D) (ms mk : MA) : ME := fun ρ A => (ms ρ A).bind fun ds A1 => (mk ρ A1).bind fun es A2 => if ds.length = n ∧ es.length = l ∧ (DM.pick pm (ds ++ es)).length = a then mf (DM.pick pm (ds ++ es)) A2 else .no
theorem d_callK0 {pm : List Nat} (F : FnD X.prog X.w X.K X.mg X.base k f fd ps mf) (hr : Room k X.A) (gd : X.A.guards = some []) (tk : Takes X W) (hm : X.mg x = some (.ref f)) (hk : PySem.W.keepIn X.K (.ref f) = true) (hb : KB X.K fd ps 0 ks pm) (hkw : DK X W kws mk) {l n : Nat} (hl : ks.length = l := by rfl) (hn : ps.length = n := by rfl)
    (hg : Gl X x := by rfl) (hall : (backToKw pos (keywordEach kws X.env)).all (·.1.isSome) = true := by rfl) (hks : (backToKw pos (keywordEach kws X.env)).filterMap (·.1) = ks := by rfl) (hdb : (x == ("__debug__" : Str)) = false := by decide)
    (hpl : ((backTo pos (starEach [] X.env)).any (·.1) || (backToKw pos (keywordEach kws X.env)).any (·.1.isNone)) = false := by rfl) : DE X W (.Call (.Name x p) [] kws pos) (mCallK 0 l n pm mf mNil mk) := by
  subst hl hn
  refine ⟨fun pins s σ H Q I ⟨m, A, ρ, R, E, h⟩ => wpAny_Call_Name_kw (ld_glob I hg hm (PySem.W.callWith_KW0 (h₀ := X.base) I.ok.mod.kin hk hall (thn (hkw.run pos pins s σ H (fun zs H1 => zs.length = ks.length ∧ spD X.K ps.length mf (DM.pick pm zs) H1 Q (WE W σ)) I (tA.bind R E (show Post X.K (RD X.K) W σ m H ((mk ρ A).bind fun es A2 => if ([] : List D).length = 0 ∧ es.length = ks.length ∧ (DM.pick pm ([] ++ es)).length = ps.length then mf (DM.pick pm ([] ++ es)) A2 else .no) Q from h) fun m1 A1 ds vs H1 e1 R1 E1 r1 h1 => ?_)) fun ws s2 ⟨zs, H2, I2, rz, hl, q⟩ => ⟨I2.kIn, ?_⟩) hpl) hdb)⟩
  · split at h1
    · rename_i hl
      refine ⟨by rw [← r1.length]; exact hl.2.1, by rw [← (r1.pick pm).length]; exact hl.2.2, m1, A1, _, R1, r1.pick pm, ?_⟩
      rw [List.nil_append] at h1
      cases hz : mf (DM.pick pm ds) A1 with
      | ok d A2 => rw [hz] at h1; exact h1
      | exc C fs A2 => rw [hz] at h1; exact h1
      | no => rw [hz] at h1; exact h1
    · exact h1.elim
  · rw [hks]
    exact call_D (run_D F hr gd tk I2 (hb s2 [] ws I2.kIn rfl (by rw [← L2.Vals.length rz]; exact hl)) (Vals.pick rz pm) q)
theorem d_callK {pm : List Nat} {n : Nat} (F : FnD X.prog X.w X.K X.mg X.base k f fd ps mf) (hr : Room k X.A) (gd : X.A.guards = some []) (tk : Takes X W) (hm : X.mg x = some (.ref f)) (hk : PySem.W.keepIn X.K (.ref f) = true) (hb : KB X.K fd ps n ks pm) (ha : DA X W (e :: es) ms) (hkw : DK X W kws mk) {l n2 : Nat} (hl : ks.length = l := by rfl) (hn : ps.length = n2 := by rfl)
    (hg : Gl X x := by rfl) (hall : (backToKw pos (keywordEach kws X.env)).all (·.1.isSome) = true := by rfl) (hks : (backToKw pos (keywordEach kws X.env)).filterMap (·.1) = ks := by rfl) (hdb : (x == ("__debug__" : Str)) = false := by decide) (he : starEach (e :: es) X.env = (false, eval e X.env) :: starEach es X.env := by rfl)
    (hpl : ((backTo pos (starEach (e :: es) X.env)).any (·.1) || (backToKw pos (keywordEach kws X.env)).any (·.1.isNone)) = false := by rfl) : DE X W (.Call (.Name x p) (e :: es) kws pos) (mCallK n l n2 pm mf ms mk) := by
  subst hl hn
  refine ⟨fun pins s σ H Q I ⟨m, A, ρ, R, E, h⟩ => wpAny_Call_Name_kw (ld_glob I hg hm (PySem.W.callWith_KW (h₀ := X.base) I.ok.mod.kin hk hall (thn (ha.run pos pins s σ H (fun us H1 => tA X.K W mk σ H1 fun zs H2 => us.length = n ∧ zs.length = ks.length ∧ spD X.K ps.length mf (DM.pick pm (us ++ zs)) H2 Q (WE W σ)) I (tA.bind R E h fun m1 A1 ds vs H1 e1 R1 E1 r1 h1 => tA.bind R1 E1 h1 fun m2 A2 es vs2 H2 e2 R2 E2 r2 h2 => ?_)) fun us s1 ⟨vs, H1, I1, r, q⟩ => thn (hkw.run pos pins s1 σ H1 _ I1 q) fun ws s2 ⟨zs, H2, I2, rz, l1, l2, q2⟩ => ⟨I2.kIn, ?_⟩) hpl he) hdb)⟩
  · split at h2
    · rename_i hl
      have rr := (RDs.mono e2 _ _ r1).append r2
      refine ⟨by rw [← r1.length]; exact hl.1, by rw [← r2.length]; exact hl.2.1, by rw [← (rr.pick pm).length]; exact hl.2.2, m2, A2, _, R2, rr.pick pm, ?_⟩
      cases hz : mf (DM.pick pm (ds ++ es)) A2 with
      | ok d A2 => rw [hz] at h2; exact h2
      | exc C fs A2 => rw [hz] at h2; exact h2
      | no => rw [hz] at h2; exact h2
    · exact h2.elim
  · rw [hks]
    exact call_D (run_D F hr gd tk I2 (hb s2 us ws I2.kIn (by rw [← L2.Vals.length r]; exact l1) (by rw [← L2.Vals.length rz]; exact l2)) (Vals.pick (L2.Vals.append r rz) pm) q2)
end
end DM
end
section
set_option maxHeartbeats 2000000
namespace DM
open PySem PySem.Spec PyProof.Rows L2
/-! ### the law's call -/
theorem rd_ints {K : PySem.W.Frag} {m : Mp} {H : Hp} : ∀ ns : List Int, RDs K m H (ns.map D.int) (ns.map V.int)
  | [] => .nil
  | n :: ns => .cons (.int n) (rd_ints ns)
/-- code objects with their tables and what their lambdas are called -/
abbrev Tabs0 := List (Addr × Addr × Str)
abbrev tabs0 (cs : Tabs0) : AH := cs.map fun p => AO.tab p.2.1 p.2.2
theorem law_run {P : Program} {w : World} {K : PySem.W.Frag} {mg mb : Str → Option Value} {k : Nat} {fa a : Addr} {fd : FuncData} {x : Str} {s : Shared} {us : List Value} {ns : List Int} {cs : Tabs0}
    (kin : K.In s.heap) (gl : s.heap.Ns mainGlobals mg) (bl : s.heap.Ns builtinsNs mb) (bb : ∀ y : Str, y ≠ "__name__" → mb y = bootBuiltins y) (nl : s.heap.NoLimit) (ge : s.gens = #[])
    (hT : ∀ p ∈ cs, s.heap.get? p.2.1 = some { cls := .none, data := .fields #[] }) (nT : ∀ p ∈ cs, K.lookup p.2.1 = none) (hC : ∀ p ∈ cs, PySem.W.CodeHd s.heap p.1 p.2.1) (nd : (cs.map (·.2.1)).Nodup)
    (bm : ∃ (b : Addr) (ob : Obj), mg "__builtins__" = some (.ref b) ∧ b ≠ builtinsNs ∧ s.heap.get? b = some ob ∧ ob.cls = .type "module" ∧ ob.dict = some builtinsNs ∧ ob.data = .plain)
    (ho : s.heap.get? a = some { cls := .type "list", data := .seq us.toArray }) (ia : IntsAre us ns) (hn : ns.length ≤ sizeLine) (room : Room k callerA)
    (F : ∀ base : Heap, K.In base → base.Ns mainGlobals mg → (∀ p ∈ cs, LamX.TabB base mg p.1 p.2.1) → ∃ (mf : List D → AH → Res D) (AE : AH), mf [.lst (ns.map D.int)] (tabs0 cs) = .ok (.bl true) AE ∧ FnD P w K mg base k fa fd [x] mf)
    (bi : ∀ (t : Shared) (u : Value), BindsTo t fd ⟨[u], []⟩ [(x, u)]) :
    codeAny (model P w) callerA (.call (.ref fa) ⟨[.ref a], []⟩) (fun r s' => r = .ok (.ret (.bool true)) ∧ OldK s.heap s'.heap ∧ s'.os = s.os ∧ AllBare s'.gens) s := by
  have vi := L2.vals_ints ia
  obtain ⟨tb, etb⟩ : ∃ tb : List Addr, tb = cs.map (·.2.1) := ⟨_, rfl⟩
  have inT : ∀ p ∈ cs, p.2.1 ∈ tb := fun p hp => by rw [etb]; exact List.mem_map.mpr ⟨p, hp, rfl⟩
  have atT : ∀ b ∈ tb, s.heap.get? b = some { cls := .none, data := .fields #[] } ∧ K.lookup b = none := fun b hb => by
    rw [etb] at hb
    obtain ⟨p, hp, e⟩ := List.mem_map.mp hb
    rw [← e]
    exact ⟨hT p hp, nT p hp⟩
  have aT : a ∉ tb := fun z => by
    have q := (atT a z).1
    rw [ho] at q
    cases q
  -- the script and the tables are all that may be told of
  suffices go : ∀ H : Hp, (∀ b, H b = none ∨ (b = a ∧ K.lookup a = none ∧ ∃ o, H b = some (.frz o (.lst (ns.map V.int)))) ∨ b ∈ tb) → (∀ b ∈ tb, H b = some (.tbl #[])) → SqL K H a (ns.map V.int) → HOk P w H s.heap →
      codeAny (model P w) callerA (.call (.ref fa) ⟨[.ref a], []⟩) (fun r s' => r = .ok (.ret (.bool true)) ∧ OldK s.heap s'.heap ∧ s'.os = s.os ∧ AllBare s'.gens) s by
    cases hk : K.lookup a with
    | some o =>
      have e := kin a o hk
      rw [ho] at e
      cases e
      refine go (fun b => if b ∈ tb then some (.tbl #[]) else none) (fun b => ?_) (fun b hb => if_pos hb) (.inr ⟨_, us.toArray, _, hk, rfl, rfl, rfl, ?_, ?_⟩) fun b u z => ?_
      · by_cases hb : b ∈ tb
        · exact .inr (.inr hb)
        · exact .inl (if_neg hb)
      · rw [List.size_toArray, ia.length]; exact hn
      · rw [List.toList_toArray]; exact vi
      · by_cases hb : b ∈ tb
        · have z' := (if_pos hb).symm.trans z
          cases z'
          exact (atT b hb).1
        · have z' := (if_neg hb).symm.trans z
          cases z'
    | none =>
      refine go (fun b => if b = a then some (.frz { cls := .type "list", data := .seq us.toArray } (.lst (ns.map V.int))) else if b ∈ tb then some (.tbl #[]) else none) (fun b => ?_) (fun b hb => (if_neg fun z => aT (by rw [← z]; exact hb)).trans (if_pos hb)) (.inl (.inr ⟨_, if_pos rfl⟩)) fun b u z => ?_
      · by_cases hb : b = a
        · exact .inr (.inl ⟨hb, hk, _, if_pos hb⟩)
        · by_cases hb2 : b ∈ tb
          · exact .inr (.inr hb2)
          · exact .inl ((if_neg hb).trans (if_neg hb2))
      · by_cases hb : b = a
        · have z' := (if_pos hb).symm.trans z
          cases z'
          rw [hb]
          exact ⟨ho, by rw [List.length_map]; exact hn, us, _, vi, ho⟩
        · have z1 := (if_neg hb).symm.trans z
          by_cases hb2 : b ∈ tb
          · have z' := (if_pos hb2).symm.trans z1
            cases z'
            exact (atT b hb2).1
          · have z' := (if_neg hb2).symm.trans z1
            cases z'
  intro H only tbl hS hok
  have free : ∀ {b : Addr} {o : Obj}, s.heap.get? b = some o → (∀ l n, o.data ≠ .seq l n) → o.data ≠ .fields #[] → H b = none := fun {b o} h hd hf => by
    rcases only b with z | ⟨rfl, _, _, _⟩ | z
    · exact z
    · rw [ho] at h
      cases h
      exact (hd _ _ rfl).elim
    · rw [(atT b z).1] at h
      cases h
      exact (hf rfl).elim
  have nsb : ∀ {b : Addr} {m : Str → Option Value}, s.heap.Ns b m → (hidT s.heap H).Ns b m := fun {b m} z => by
    obtain ⟨o, es, ep, h1, h2, h3⟩ := z
    exact ⟨o, es, ep, hidT_get h1 (free h1 (fun l n y => by rw [h2] at y; cases y) fun y => by rw [h2] at y; cases y), h2, h3⟩
  have kb : K.In (hidT s.heap H) := fun b o h => hidT_get (kin b o h) (by
    rcases only b with z | ⟨rfl, hk, _⟩ | z
    · exact z
    · rw [hk] at h; cases h
    · rw [(atT b z).2] at h; cases h)
  have TB : ∀ p ∈ cs, LamX.TabB (hidT s.heap H) mg p.1 p.2.1 := fun p hp => by
    have hPt := hT p hp
    refine ⟨?_, ?_, fun z => ?_⟩
    · obtain ⟨o, vs, file, tf, flags, tg, inF, text, tt, e1, r1, r2, r3, rest⟩ := hC p hp
      refine ⟨o, vs, file, tf, flags, tg, inF, text, tt, hidT_get e1 (free e1 (fun l n z => ?_) fun z => ?_), r1, r2, r3, rest⟩
      · rw [r2] at z; cases z
      · rw [r2] at z; cases z; simp at r3
    · obtain ⟨b, ob, b1, b2, b3, b4, b5, b6⟩ := bm
      refine ⟨b, ob, b1, b2, fun q => ?_, fun q => ?_, hidT_get b3 (free b3 (fun l n z => ?_) fun z => ?_), b4, b5, b6⟩
      · obtain ⟨o, es, ep, e, hd, _⟩ := gl
        rw [q, e] at b3
        cases b3
        rw [hd] at b6
        cases b6
      · rw [q, hPt] at b3
        cases b3
        cases b6
      · rw [b6] at z; cases z
      · rw [b6] at z; cases z
    · obtain ⟨o, es, ep, e, hd, _⟩ := gl
      rw [z, hPt] at e
      cases e
      cases hd
  have en : Env0 P w K mg (hidT s.heap H) callerA [] s H := by
    obtain ⟨mc, h1, h2⟩ := nl
    exact { frames := rfl, mod := ⟨kb, nsb gl, ⟨mb, nsb bl, bb⟩, mc, nsb h1, h2⟩, bs := fun b o h => of_hidT h, bsz := Nat.le_of_eq (hidT_size _ _), funs := trivial, frf := fun b hb => (nomatch hb), hok := hok, bare := .of_eq ge }
  obtain ⟨mf, AE, law, FF⟩ := F _ kb (nsb gl) TB
  have R0 : Rel K (tb, []) (tabs0 cs) H := by
    refine ⟨by rw [etb, List.length_map, List.length_map], by rw [etb]; exact nd, fun p hp => (nomatch hp), fun n o h => ?_⟩
    rw [List.getElem?_map] at h
    cases hc : cs[n]? with
    | none => rw [hc] at h; cases h
    | some p =>
      rw [hc] at h
      cases h
      refine ⟨p.2.1, by show tb[n]? = _; rw [etb, List.getElem?_map, hc]; rfl, rfl, #[], tbl _ (inT p (List.mem_of_getElem? hc)), trivial, fun pos cv hcv => ?_⟩
      have z : codeAmong pos [] = some cv := hcv
      simp [codeAmong] at z
  have pre : spD K [x].length mf [.ref a] H (fun v _ => v = .bl true) fun _ _ _ => False := by
    refine ⟨rfl, (tb, []), tabs0 cs, [.lst (ns.map D.int)], R0, .cons (.lst ?_ (rd_ints ns)) .nil, ?_⟩
    · rcases hS with z | z
      · exact .inl ⟨z, aT, (List.not_mem_nil ·)⟩
      · exact .inr z
    · rw [law]
      intro m' H' v _ _ r
      cases r
      rfl
  refine codeAny_mono (FF.run callerA [] s H ⟨[.ref a], []⟩ [.ref a] [.ref a] _ _ room rfl en (bi s (.ref a)) (.cons rfl .nil) pre) fun r s' h => ?_
  cases r with
  | error z =>
    obtain ⟨_, _, _, _, _, _, _, _, _, _, _, _, y⟩ := h
    exact y.elim
  | ok fl =>
    cases fl with
    | ret u =>
      obtain ⟨v, H', os, bare, un, hok', rv, q⟩ := h
      have q' : v = .bl true := q
      subst q'
      cases rv
      have stay : ∀ b o, b ∉ tb → s.heap.get? b = some o → s'.heap.get? b = some o := fun b o nb h => by
        rcases only b with z | ⟨_, _, ob, z⟩ | z
        · exact un.keep b o h z (fun y => nomatch y) fun y => nomatch y
        · have z2 := un.frzs b ob _ z
          obtain ⟨e1, _⟩ := hok b _ z
          obtain ⟨e2, _⟩ := hok' b _ z2
          rw [h] at e1
          cases e1
          exact e2
        · exact absurd z nb
      have grew : ∀ b ∈ tb, ∃ more : Array Value, s'.heap.get? b = some { cls := .none, data := .fields more } := fun b hb => by
        obtain ⟨more, z⟩ := un.tbls b #[] (tbl b hb)
        exact ⟨_, hok' b _ z⟩
      refine ⟨rfl, ⟨fun b o e => ?_, fun b o e => ?_⟩, os, bare⟩
      · by_cases hb : b ∈ tb
        · obtain ⟨more, hm⟩ := grew b hb
          have hb' := hb
          rw [etb] at hb'
          obtain ⟨p, hp, ep⟩ := List.mem_map.mp hb'
          rw [(atT b hb).1] at e
          cases e
          rw [← ep] at hm ⊢
          exact .inr (.inl ⟨((hC p hp).tab (hT p hp)).isCodeTable, rfl, #[], more, rfl, by rw [Array.empty_append]; exact hm⟩)
        · exact .inl (stay b o hb e)
      · by_cases hb : b ∈ tb
        · obtain ⟨more, hm⟩ := grew b hb
          exact ⟨_, hm⟩
        · exact ⟨o, stay b o hb e⟩
    | next => exact h.elim
    | brk => exact h.elim
    | cont => exact h.elim
/-- the end of a law's row -/
theorem law_walk {l : PySem.W.OpenLaw} {n k : Nat} {q : Program} {loose : List Str} {XP : (Str → Option Value) → Heap → Prop} {YP : World → Heap → Prop} {d : DefRec} {K : Params → PySem.W.Frag} {x : Str}
    (hn : l.most = some n) (hz : n ≤ sizeLine) (hdf : d.params.defaults = []) (room : Room k callerA) (hY : ∀ (w : World) (h : Heap), YP w h → (K w.params).In h)
    (F : ∀ (w : World) (mg : Str → Option Value) (fa : Addr) (h : Heap), (K w.params).In h → h.Ns mainGlobals mg → mg d.name = some (.ref fa) →
      ∃ (fd : FuncData) (cs : Tabs0), (∀ p ∈ cs, ∃ (y : Str) (e : DefRec), (recsOf q).find? (fun e => e.name == y) = some e ∧ PySem.W.tabIn (K w.params) y = some (p.1, p.2.1)) ∧ (∀ p ∈ cs, (K w.params).lookup p.2.1 = none) ∧ (cs.map (·.2.1)).Nodup ∧
        (∀ (s : Shared) (u : Value), BindsTo s fd ⟨[u], []⟩ [(x, u)]) ∧ ∀ base : Heap, (K w.params).In base → base.Ns mainGlobals mg → (∀ p ∈ cs, LamX.TabB base mg p.1 p.2.1) → ∀ ns : List Int, ns.length ≤ n → (∀ z ∈ ns, Builtin.Int.intBits z ≤ 1048576) →
        ∃ (mf : List D → AH → Res D) (AE : AH), mf [.lst (ns.map D.int)] (tabs0 cs) = .ok (.bl true) AE ∧ FnD l.prog w (K w.params) mg base k fa fd [x] mf) :
    PySem.W.WalkO q loose XP YP l.row.toRowW d [] (fun f vs => PySem.call f vs) := by
  refine Att.attach_callB hn hdf fun w s0 s1 mg mb fa o pm cd doc a us ns G Y ha hb hc hm hobj hi hlen hbits hg => ?_
  have kin := hY w _ Y
  obtain ⟨fd, cs, hT, nT, nd, bi, hF⟩ := F w mg fa _ kin G.T.g hm
  have tabs : ∀ p ∈ cs, PySem.W.CodeHd s1.heap p.1 p.2.1 ∧ s1.heap.get? p.2.1 = some { cls := .none, data := .fields #[] } := fun p hp => by
    obtain ⟨y, e, h1, h2⟩ := hT p hp
    exact PySem.W.tab_of G.T kin h1 h2
  exact law_run kin G.T.g G.T.b G.T.builtins G.T.nolimit hg (fun p hp => (tabs p hp).2) nT (fun p hp => (tabs p hp).1) nd G.T.bmain hobj hi (Nat.le_trans hlen hz) room (fun base h1 h2 h3 => hF base h1 h2 h3 ns hlen hbits) bi
end DM
end
section
set_option maxHeartbeats 2000000
namespace DM
open PySem PySem.Spec PyProof.Rows L2
section
variable {X : Cx} {W : WX} {a b c e o i tg iter elt : Expr} {es ifs : List Expr} {ma mb mc me mo mi : ME} {pos p p2 tpos : Pos}
/-- o[i] = e, o a changing list -/
def mSto (me mo mi : ME) : MS := fun ρ A => lift (me ρ A) ρ fun v A1 => lift (mo ρ A1) ρ fun o A2 => lift (mi ρ A2) ρ fun i A3 => match o, i with
  | .ref n, .int k => (match A3[n]? with
    | some (.lst xs) => (match ixN xs.length k with
      | some j => .nx ρ (A3.set n (.lst (xs.set j v)))
      | none => .no)
    | _ => .no)
  | _, _ => .no
theorem s_setI (he : DE X W e me) (hg : PG X (.Subscript o i tpos) (gSub (tE X.K W mo) (tE X.K W mi) rSetL))
    (hs : swapsWithSole [.Subscript o i tpos] e pos.line X.env = pure false := by rfl) (hw : swappedStores [.Subscript o i tpos] e X.env = pure none := by rfl) (h1 : (assignEach [.Subscript o i tpos] X.env).map (·.2) = [assign (.Subscript o i tpos) X.env] := by rfl) :
    DS X W (.Assign [.Subscript o i tpos] e pos) (mSto me mo mi) := by
  refine PSi (ps_asg he hg hs hw h1) fun D0 σ H ⟨m, A, ρ, R, E, h⟩ => tE.lift R E h fun m1 A1 d v H1 e1 R1 E1 r1 h1 => tE.lift R1 E1 h1 fun m2 A2 d2 v2 H2 e2 R2 E2 r2 h2 => tE.lift R2 E2 h2 fun m3 A3 d3 v3 H3 e3 R3 E3 r3 h3 => ?_
  split at h3
  · rename_i n k
    cases r3
    cases r2 with
    | ref hm =>
      rename_i q
      have hm3 := e3.get hm
      split at h3
      · rename_i xs hA
        obtain ⟨us, h4, rs⟩ := R3.lst hm3 hA
        split at h3
        · rename_i j hj
          refine ⟨q, us, k, j, rfl, rfl, h4, by rw [← rs.length]; exact hj, ?_⟩
          obtain ⟨R4, e4⟩ := R3.write (H' := upd H3 q (.lst (us.set j v))) (o := .lst (xs.set j d)) hm3 (fun p u hp z => by rw [upd_ne hp]; exact z) fun e => ⟨_, upd_same, RDs.mono e _ _ (rs.set (RD.mono (e2.trans e3) _ _ r1) j)⟩
          exact PostS.nx R4 (E3.mono e4) (PostS.mono e4 h3)
        · exact h3.elim
      · exact h3.elim
  · exact h3.elim
theorem fSub_ok {K : PySem.W.Frag} : OpD K fSub (rI0 fun i j => .int (i - j)) := fI0_ok fun _ _ _ _ => .int _
def fAdd0 : D → D → AH → Res D := fun d e A => match d, e with
  | .int i, .int j => .ok (.int (i + j)) A
  | .str x, .str y => if x.length + y.length ≤ 16777216 then .ok (.str (x ++ y)) A else .no
  | _, _ => .no
theorem fAdd0_ok {K : PySem.W.Frag} : OpD K fAdd0 (fun x y H Q => rI0 (fun i j => .int (i + j)) x y H Q ∨ (∃ i j, x = .str i ∧ y = .str j ∧ i.length + j.length ≤ sizeLine ∧ Q (.str (i ++ j)) H)) := by
  intro W σ m A H x y d e Q R hx hy h
  unfold fAdd0 at h
  split at h
  · cases hx; cases hy
    exact .inl ⟨_, _, rfl, rfl, Post.here R (.int _) h⟩
  · cases hx; cases hy
    split at h
    · rename_i hz
      exact .inr ⟨_, _, rfl, rfl, by rw [sizeLine_eq]; exact hz, Post.here R (.str _) h⟩
    · exact h.elim
  · exact h.elim
theorem ia_add {i : Nat} {x : Str} {pos' : Pos} (hN : X.N.Nodup) (he : DE X W e me) (hi : X.N[i]? = some x := by rfl) (hx : Loc X.env.scope x := by first | exact Or.inl rfl | exact Or.inr rfl) (hx2 : X.fn x = true ∨ X.env.scope.names.lookup x = some .local := by first | exact .inl rfl | exact .inr rfl | assumption) :
    DS X W (.AugAssign (.Name x pos') .Add e pos) (mAug i fAdd0 me) := s_aug (iop_add.or iop_add_str) fAdd0_ok hN hi hx he hx2
theorem ia_sub {i : Nat} {x : Str} {pos' : Pos} (hN : X.N.Nodup) (he : DE X W e me) (hi : X.N[i]? = some x := by rfl) (hx : Loc X.env.scope x := by first | exact Or.inl rfl | exact Or.inr rfl) (hx2 : X.fn x = true ∨ X.env.scope.names.lookup x = some .local := by first | exact .inl rfl | exact .inr rfl | assumption) :
    DS X W (.AugAssign (.Name x pos') .Sub e pos) (mAug i fSub me) := s_aug iop_sub fSub_ok hN hi hx he hx2
end
/-! ### a promise made simpler: what is left over of new objects is dropped -/
abbrev cloO (n : Nat) (o : AO) : Prop := clos n o.vals
def ClosedA (A : AH) : Prop := ∀ o ∈ A, cloO A.length o
theorem cut_r {m : Mp} {n : Nat} (i : Nat) (a : Addr) (c : i < n) (h : m.1[i]? = some a) : (m.1.take n, m.2).1[i]? = some a := by
  show (m.1.take n)[i]? = _
  rw [List.getElem?_take_of_lt c]; exact h
theorem cut_o {m : Mp} {n : Nat} {H : Hp} (a : Addr) (o : HO) (e : H a = some o) (h : Out m a) : H a = some o ∧ Out (m.1.take n, m.2) a := ⟨e, fun y => h.1 (List.mem_of_mem_take y), h.2⟩
theorem RD.cut {K : PySem.W.Frag} {m : Mp} {H : Hp} {n : Nat} (d : D) (v : V) (c : DM.clo n d) (h : RD K m H d v) : RD K (m.1.take n, m.2) H d v := RD.moveN cut_r cut_o d v c h
theorem RDs.cut {K : PySem.W.Frag} {m : Mp} {H : Hp} {n : Nat} (d : List D) (v : List V) (c : DM.clos n d) (h : RDs K m H d v) : RDs K (m.1.take n, m.2) H d v := RDs.moveN cut_r cut_o d v c h
theorem Rel.closed {K : PySem.W.Frag} {m : Mp} {A : AH} {H : Hp} (R : Rel K m A H) : ClosedA A := fun o ho => by
  obtain ⟨n, hn, e⟩ := List.mem_iff_getElem.mp ho
  obtain ⟨q, _, h2⟩ := R.obj n o (by rw [List.getElem?_eq_getElem hn, e])
  have z := h2.clos
  rw [R.len] at z
  exact z
theorem Rel.cut {K : PySem.W.Frag} {m : Mp} {A A1 : AH} {H : Hp} (R : Rel K m A H) (h1 : A.take A1.length = A1) (h2 : ClosedA A1) : Rel K (m.1.take A1.length, m.2) A1 H := by
  have hle : A1.length ≤ A.length := by rw [← h1, List.length_take]; exact Nat.min_le_right _ _
  refine ⟨by show (m.1.take A1.length).length = _; rw [List.length_take, R.len]; omega, R.nd.sublist (List.take_sublist _ _), R.pv, fun n o hn => ?_⟩
  have hlt : n < A1.length := (List.getElem?_eq_some_iff.mp hn).1
  have hA : A[n]? = some o := by
    rw [← h1, List.getElem?_take_of_lt hlt] at hn; exact hn
  obtain ⟨q, h3, h4⟩ := R.obj n o hA
  refine ⟨q, by show (m.1.take A1.length)[n]? = _; rw [List.getElem?_take_of_lt hlt]; exact h3, ?_⟩
  have hc := h2 o (List.mem_of_getElem? hn)
  exact h4.moveN cut_r cut_o rfl hc
def Drops (r' r : Res D) (n : Nat) : Prop := match r with
  | .ok d A1 => ∃ A2, r' = .ok d A2 ∧ n ≤ A1.length ∧ A2.take A1.length = A1 ∧ ClosedA A1 ∧ clo A1.length d
  | .exc C fs A1 => ∃ A2, r' = .exc C fs A2 ∧ n ≤ A1.length ∧ A2.take A1.length = A1 ∧ ClosedA A1 ∧ clos A1.length (fs.map (·.2))
  | .no => True
theorem Ext.cut {m m' : Mp} {H H' : Hp} {n : Nat} (e : Ext m H m' H') (h : m.1.length ≤ n) : Ext m H (m'.1.take n, m'.2) H' := by
  obtain ⟨l, hl⟩ := e.pre
  refine ⟨⟨l.take (n - m.1.length), ?_⟩, e.sub, e.pvs, fun p hp => e.new p (List.mem_of_mem_take hp), e.keep⟩
  show m'.1.take n = _
  rw [hl, List.take_append, List.take_of_length_le h]
theorem FnD.spec {P : Program} {w : World} {K : PySem.W.Frag} {mg : Str → Option Value} {base : Heap} {k : Nat} {f : Addr} {fd : FuncData} {ps : List Str} {mf pf : List D → AH → Res D} (F : FnD P w K mg base k f fd ps mf)
    (h : ∀ ds A, ClosedA A → clos A.length ds → Drops (mf ds A) (pf ds A) A.length) : FnD P w K mg base k f fd ps pf := by
  refine ⟨fun A outer s H args us vs Q E hr gd en bi rel hsp => F.run A outer s H args us vs Q E hr gd en bi rel ?_⟩
  obtain ⟨hl, m, AA, ds, R, rds, post⟩ := hsp
  refine ⟨hl, m, AA, ds, R, rds, ?_⟩
  have z := h ds AA R.closed (by rw [← R.len]; exact RDs.clos ds vs rds)
  unfold Drops at z
  split at z
  · rename_i d A1 hp
    rw [hp] at post
    obtain ⟨A2, e2, hn, ht, hc, hd⟩ := z
    rw [e2]
    intro m' H' v e R' r
    exact post _ H' v (e.cut (by rw [R.len]; exact hn)) (R'.cut ht hc) (RD.cut d v hd r)
  · rename_i C fs A1 hp
    rw [hp] at post
    obtain ⟨A2, e2, hn, ht, hc, hd⟩ := z
    rw [e2]
    intro m' H' c dx e R' hc' hx
    refine post _ H' c dx (e.cut (by rw [R.len]; exact hn)) (R'.cut ht hc) hc' ?_
    cases dx with
    | none => exact hx
    | some dd =>
      obtain ⟨h0, gs, h1, h2, h3, h4⟩ := hx
      exact ⟨h0, gs, h1, (cut_o _ _ h1 h2).2, h3, RDs.cut _ _ hd h4⟩
  · rename_i hp
    rw [hp] at post
    exact post.elim
end DM
end
section
set_option maxHeartbeats 1000000
namespace DM
open PySem PySem.Spec PyProof.Rows L2
/-! ### running mirrors: one row a form, all applied -/
section
variable {ρ : DM.Env} {A : AH} {i j l n m a : Nat} {d : D} {f : D → D → AH → Res D} {g : List D → AH → Res D} {g2 : Nat → List D → AH → Res D} {ma mb mc me mo : ME} {mt mu : MT} {ms mk : MA} {ml mh : MO} {mi : MI} {sa sb : MS} {t : Tg} {ts : List Tg} {pm vs : List Nat} {b : Bool}
theorem ev_var : mVar i ρ A = (match ρ[i]? with | some (some d) => .ok d A | _ => .no) := id rfl
theorem ev_K : mK d ρ A = .ok d A := id rfl
theorem ev_op : mOp f ma mb ρ A = (ma ρ A).bind fun x A1 => (mb ρ A1).bind fun y A2 => f x y A2 := id rfl
theorem ev_neg : mNeg ma ρ A = (ma ρ A).bind fun d A1 => (match d with | .int i => .ok (.int (-i)) A1 | _ => .no) := id rfl
theorem ev_tst : mTst me ρ A = (me ρ A).bind fun d A1 => (match d with | .bl k => .ok k A1 | _ => .no) := id rfl
theorem ev_and : mAnd mt mu ρ A = (mt ρ A).bind fun k A1 => if k = true then mu ρ A1 else .ok false A1 := id rfl
theorem ev_or : mOr mt mu ρ A = (mt ρ A).bind fun k A1 => if k = true then .ok true A1 else mu ρ A1 := id rfl
theorem ev_not : mNot mt ρ A = (mt ρ A).bind fun k A1 => .ok (!k) A1 := id rfl
theorem ev_andV : mAndV ma mb ρ A = (ma ρ A).bind fun d A1 => (match d with | .bl true => mb ρ A1 | .bl false => .ok (.bl false) A1 | _ => .no) := id rfl
theorem ev_orV : mOrV ma mb ρ A = (ma ρ A).bind fun d A1 => (match d with | .bl true => .ok (.bl true) A1 | .bl false => mb ρ A1 | _ => .no) := id rfl
theorem ev_notV : mNotV ma ρ A = (ma ρ A).bind fun d A1 => (match d with | .bl k => .ok (.bl (!k)) A1 | _ => .no) := id rfl
theorem ev_if : mIf mt ma mb ρ A = (mt ρ A).bind fun k A1 => if k = true then ma ρ A1 else mb ρ A1 := id rfl
theorem ev_chn {f2 : D → D → AH → Res D} : mChn f f2 ma mb mc ρ A = (ma ρ A).bind fun x A1 => (mb ρ A1).bind fun y A2 => (f x y A2).bind fun z A3 => (match z with | .bl true => (mc ρ A3).bind fun w A4 => f2 y w A4 | .bl false => .ok (.bl false) A3 | _ => .no) := id rfl
theorem ev_nil : mNil ρ A = .ok [] A := id rfl
theorem ev_cons : mCons me ms ρ A = (me ρ A).bind fun d A1 => (ms ρ A1).bind fun ds A2 => .ok (d :: ds) A2 := id rfl
theorem ev_tup : mTup ms ρ A = (ms ρ A).bind fun ds A1 => if ds.length ≤ 1000 then .ok (.tup ds) A1 else .no := id rfl
theorem ev_lst : mLst ms ρ A = (ms ρ A).bind fun ds A1 => if ds.length ≤ 1000 then .ok (.lst ds) A1 else .no := id rfl
theorem ev_new : mNew ms ρ A = (ms ρ A).bind fun ds A1 => if ds.length ≤ 1000 then .ok (.ref A1.length) (A1 ++ [.lst ds]) else .no := id rfl
theorem ev_call : mCall g ms ρ A = (ms ρ A).bind fun ds A1 => g ds A1 := id rfl
theorem ev_callF : mCallF n g ms ρ A = (ms ρ A).bind fun ds A1 => if ds.length = n then g ds A1 else .no := id rfl
theorem ev_callK : mCallK n l a pm g ms mk ρ A = (ms ρ A).bind fun ds A1 => (mk ρ A1).bind fun es A2 => if ds.length = n ∧ es.length = l ∧ (DM.pick pm (ds ++ es)).length = a then g (DM.pick pm (ds ++ es)) A2 else .no := id rfl
theorem ev_met : mMet g2 mo ms ρ A = (mo ρ A).bind fun d A1 => (match d with | .ref n => (match A1[n]? with | some (.lst _) => (ms ρ A1).bind fun ds A2 => g2 n ds A2 | _ => .no) | _ => .no) := id rfl
theorem ev_sl : mSl me ml mh ρ A = (me ρ A).bind fun d A1 => (ml ρ A1).bind fun lo A2 => (mh ρ A2).bind fun hi A3 => fSl d lo hi A3 := id rfl
theorem ev_some : mSome me ρ A = (me ρ A).bind fun d A1 => (match d with | .int i => .ok (some i) A1 | _ => .no) := id rfl
theorem ev_none : mNone ρ A = .ok none A := id rfl
theorem ev_rev : mRev b me ρ A = (me ρ A).bind fun d A1 => if isTup d = true then .no else (match seqOf A1 d with | some xs => if b then .ok (.ref A1.length) (A1 ++ [.lst xs.reverse]) else .ok (.lst xs.reverse) A1 | none => .no) := id rfl
theorem ev_lc : mLc b mi t mt me vs ρ A = (mi ρ A).bind fun iv A1 => (match itemsOf A1 iv with | some all => if all.length ≤ 16777216 then (compGo iv all t mt me (wipeD ρ vs) all [] A1).bind fun acc A2 => if b = true then .ok (.ref A2.length) (A2 ++ [.lst acc]) else .ok (.lst acc) A2 else .no | none => .no) := id rfl
theorem ev_yes : mYes ρ A = .ok true A := id rfl
theorem ev_sq : mSq me ρ A = (me ρ A).bind fun d A1 => (match seqOf A1 d with | some _ => .ok (.sq d) A1 | none => .no) := id rfl
theorem ev_r1 : mR1 ms ρ A = (ms ρ A).bind fun ds A1 => (match ds with | [.int j] => if -(2 ^ 62) ≤ j ∧ j < 2 ^ 62 then .ok (.rng 0 j) A1 else .no | _ => .no) := id rfl
theorem ev_next : mNext ρ A = .nx ρ A := id rfl
theorem ev_drop : mDrop me ρ A = lift (me ρ A) ρ fun _ A1 => .nx ρ A1 := id rfl
theorem ev_ret : mRet me ρ A = lift (me ρ A) ρ fun d A1 => .rt d A1 := id rfl
theorem ev_ifs : mIfS mt sa sb ρ A = lift (mt ρ A) ρ fun k A1 => if k = true then sa ρ A1 else sb ρ A1 := id rfl
theorem ev_set : mSet i me ρ A = lift (me ρ A) ρ fun d A1 => .nx (ρ.set i (some d)) A1 := id rfl
theorem ev_par2 : mPar2 i j ms ρ A = lift (ms ρ A) ρ fun ds A1 => (match ds with | [x, y] => .nx ((ρ.set i (some x)).set j (some y)) A1 | _ => .no) := id rfl
theorem ev_par3 : mPar3 i j l ms ρ A = lift (ms ρ A) ρ fun ds A1 => (match ds with | [x, y, z] => .nx (((ρ.set i (some x)).set j (some y)).set l (some z)) A1 | _ => .no) := id rfl
theorem ev_asg : mAsg t me ρ A = lift (me ρ A) ρ fun d A1 => (match bindT t d ρ with | some ρ1 => .nx ρ1 A1 | none => .no) := id rfl
theorem ev_for : mFor mi t sb ρ A = lift (mi ρ A) ρ fun iv A1 => (match itemsOf A1 iv with | some all => forGo iv all t sb all ρ A1 | none => .no) := id rfl
theorem ev_nm : bindT (.nm i) d ρ = some (ρ.set i (some d)) := id rfl
theorem seq_nx {ρ1 : DM.Env} {A1 : AH} (h : sa ρ A = .nx ρ1 A1) : mSeq sa sb ρ A = sb ρ1 A1 := by unfold mSeq; rw [h]
theorem seq_rt {d : D} {A1 : AH} (h : sa ρ A = .rt d A1) : mSeq sa sb ρ A = .rt d A1 := by unfold mSeq; rw [h]
theorem fun_rt {ds : List D} {d : D} {A1 : AH} (h : sa (ds.map some ++ List.replicate (n - ds.length) none) A = .rt d A1) : mFun n sa ds A = .ok d A1 := by unfold mFun; rw [h]
end
/-- a range; not for the simplifier: over a number that is a length the kernel would count -/
theorem r1_at {ms : MA} {ρ : DM.Env} {A A1 : AH} {j : Int} (h : ms ρ A = .ok [.int j] A1) (hz : -(2 ^ 62) ≤ j ∧ j < 2 ^ 62) : mR1 ms ρ A = .ok (.rng 0 j) A1 := by
  unfold mR1
  rw [h, bind_ok]
  exact if_pos hz
/-- for, one turn -/
theorem for_nil {iv : ItV} {all : List D} {t : Tg} {sb : MS} {ρ : DM.Env} {A : AH} (h : itemsOf A iv = some all) : forGo iv all t sb [] ρ A = .nx ρ A := by
  unfold forGo; rw [if_pos h]
theorem for_nx {iv : ItV} {all xs : List D} {x : D} {t : Tg} {sb : MS} {ρ ρ1 ρ2 : DM.Env} {A A2 : AH} (h : itemsOf A iv = some all) (hb : bindT t x ρ = some ρ1) (hs : sb ρ1 A = .nx ρ2 A2) : forGo iv all t sb (x :: xs) ρ A = forGo iv all t sb xs ρ2 A2 := by
  conv => lhs; unfold forGo
  rw [if_pos h, hb]
  simp only [hs]
end DM
end
section
set_option maxHeartbeats 2000000
/-! own errors: [C, .. own classes .., Exception, BaseException, object] and the like -/
namespace PySem
namespace ErE
open Builtin Builtin.ObjectAttr
/-- own classes, then the built-in base's line -/
inductive Line (bm : List Value) : List Value → Prop
  | tail : Line bm bm
  | own {c : Addr} {r : List Value} : Line bm r → Line bm (.ref c :: r)
/-- the built-in base: what is asked of it -/
structure Base (B newId initId : String) (bm : List Value) : Prop where
  call : ∀ {prog : Program} {w : World} {A : Around} {R : Result → Shared → Prop} {h : Heap} {g : Array GenState} {d : Drawn} {t : Nat} {os : OsState} {nm q : Str} {C N : Addr} {bs l : List Value} {hdct : Bool} {sn : List Str} {sub : List Value} {ab : Bool} {col : Option Bool} {dd : Option Addr} {k0 k1 k2 k3 k5 : Option Value} {rest : List Value} {fI : Addr},
    (∀ X : String, l.contains (.type X) = bm.contains (.type X)) → h.get? C = some (excClassObj nm q C N bs l hdct sn sub ab col dd k0 k1 k2 k3 k5 newId) →
    W.Looks (model prog w) h (typeLookup (.ref C) "__init__") (some (.ref fI)) → (∀ self, W.Looks (model prog w) h (bindSpecial (.ref fI) self) (.ref fI, [self])) → rest.length ≤ sizeLine →
    codeAny (model prog w) (A.under (.builtin "type.__call__" ⟨.ref C :: rest, []⟩)) (.call (.ref fI) ⟨.ref (h.objs.size + 1) :: rest, []⟩) (W.InitBack (h.objs.size + 1) R) ⟨(h.push (W.kdv_tup rest)).push (HandSPX.excO C h.objs.size), g, d, t, os⟩ →
    codeAny (model prog w) A (.call (.ref C) ⟨rest, []⟩) R ⟨h, g, d, t, os⟩
  bound : ∀ {M : Model} {A : Around} {E : Value → Shared → Prop} {h : Heap} {g : Array GenState} {d : Drawn} {t : Nat} {os : OsState} {nm q : Str} {C N e : Addr} {oe : Obj} {bs l : List Value} {hdct : Bool} {sn : List Str} {sub : List Value} {ab : Bool} {col : Option Bool} {dd : Option Addr} {k0 k1 k2 k3 k5 : Option Value} {rest : List Value} {Q : Unit → Shared → Prop},
    h.get? C = some (excClassObj nm q C N bs l hdct sn sub ab col dd k0 k1 k2 k3 k5 newId) → h.get? e = some oe → oe.cls = .ref C → Q () ⟨h, g, d, t, os⟩ → wpAny M A (checkBoundCall initId ⟨.ref e :: rest, []⟩) Q E ⟨h, g, d, t, os⟩
  plain : plainId initId = true
  entry : entryFor table initId = some Builtin.«BaseException.__init__»
  KF : W.KxsFacts B initId
  pass : ∀ self, refuseLoop self "__setattr__" bm = pure ()
  obj : bm.contains (.type "object") = true
  ne : bm.isEmpty = false
theorem base_Exception : Base "Exception" "Exception.__new__" "Exception.__init__" [.type "Exception", .type "BaseException", .type "object"] :=
  ⟨fun hT hC hi hb hr hq => HandSPX.call_own F.excBase_Exception hT hC hi hb hr hq, fun hC he hc hq => W.check_bound_init F.excBase_Exception.toExcCallFacts hC he hc hq, F.excBase_Exception.init.plain, F.excBase_Exception.initEntry,
    W.kxs_Exception, F.store_Exception.passes, by decide +kernel, rfl⟩
theorem Line.pass {bm l : List Value} (p : ∀ self, refuseLoop self "__setattr__" bm = pure ()) (h : Line bm l) (self : Value) : refuseLoop self "__setattr__" l = pure () := by
  induction h with
  | tail => exact p self
  | own _ ih => rw [refuseLoop_ref]; exact ih
theorem Line.has {bm l : List Value} (h : Line bm l) (X : String) : l.contains (.type X) = bm.contains (.type X) := by
  induction h with
  | tail => rfl
  | own _ ih => rw [List.contains_cons, ih]; rfl
theorem Line.ne {bm l : List Value} (n : bm.isEmpty = false) (h : Line bm l) : l.isEmpty = false := by
  cases h with
  | tail => exact n
  | own _ => rfl
section
variable {prog : Program} {w : World} {A : Around} {E : Value → Shared → Prop} {R : Result → Shared → Prop} {hp : Heap} {g : Array GenState} {d : Drawn} {t : Nat} {os : OsState} {B newId initId : String} {bm : List Value}
/-- the first field of an error without a dict -/
theorem first_field {K : W.Frag} {f : Str} {tk : Tok} {v : Value} {e C : Addr} {fv : Array Value} {cd : ClassData} (BF : Base B newId initId bm)
    (KI : K.In hp) (he : hp.get? e = some { cls := .ref C, data := .fields fv }) (hcd : W.clsIn K C = some cd) (hl : Line bm cd.mro) (hdct : cd.hasDict = true) (hno : W.findIn K (.ref C) f = some none)
    (fin : ∀ h2 tk2 dx, (∀ b o, b ≠ e → hp.get? b = some o → h2.get? b = some o) → hp.objs.size ≤ dx → dx ≠ e → h2.get? e = some { cls := .ref C, dict := some dx, data := .fields fv } →
      h2.Ns1 dx (fun y => if y = f then some v else none) → R (.ok (.ret .none)) ⟨h2, g, d, tk2, os⟩) :
    codeAny (model prog w) A (.call (.builtin "object.__setattr__") ⟨[.ref e, .str f tk, v], []⟩) R ⟨hp, g, d, t, os⟩ := by
  have J : W.InstAt hp e { cls := .ref C, data := .fields fv } C none := ⟨he, rfl, rfl, trivial⟩
  have ob := F.store_object
  have isO : cd.mro.contains (.type "object") = true := by rw [hl.has]; exact BF.obj
  have far : e ≠ hp.objs.size := Nat.ne_of_lt (Heap.lt_size he)
  have inO : W.Looks (model prog w) hp (isInstance (.ref e) (.type "object")) true := J.type.andThen (W.looks_mroIn KI (by
    unfold W.mroIn
    rw [hcd, Option.bind_some, if_neg (by rw [hl.ne BF.ne]; decide), isO]))
  refine codeAny_call_builtin ob.slot.plain ob.entry ?_
  refine @W.check_slot (model prog w) _ _ ⟨hp, g, d, t, os⟩ "object.__setattr__" "object" "__setattr__" (.ref e) [.str f tk, v] [] _ ob.kind ob.split inO (ob.args (.ref e) (.str f tk) v) ?_
  have lineIs : W.Looks (model prog w) hp (mroOf (.ref C)) cd.mro := (W.looks_clsIn KI hcd).andThen .now
  have none3 : W.Looks (model prog w) hp (storeTaker? none) none := .now
  have data : W.Looks (model prog w) hp (classData C) cd := W.looks_clsIn KI hcd
  rw [W.osa_eq, refuse_eq]
  refine wpAny_bind (wpAny_bind (J.type.at ?_))
  refine wpAny_bind (lineIs.at ?_)
  rw [hl.pass BF.pass]
  refine wpAny_pure (wpAny_bind (J.type.at ?_))
  refine wpAny_bind ((W.looks_findIn KI hno).at (wpAny_bind (none3.at ?_)))
  show wpAny _ _ (storeInOwnDict (.ref e) (.ref C) (.str f tk) f v false) _ _ _
  obtain ⟨nm, bs, mro, ns, qn, hd, sn, sb, ab, col, del⟩ := cd
  dsimp only at hdct
  subst hdct
  unfold storeInOwnDict ownDictForStores
  repeat (first | with_reducible refine HandSPX.store_in_new ?_ ?_ | with_reducible refine wpAny_loadPart_at he ?_ | with_reducible refine data.at ?_ | wp_step)
  · refine ⟨_, #[], _, (Heap.get?_update_ne _ _ _ _ far.symm).trans (Heap.get?_push_at rfl rfl), rfl, ?_, fun _ => rfl⟩
    intro y hy
    exact absurd hy (by simp)
  · intro h2 tk2 hn2 same
    have he1 : (hp.push { cls := .type "dict", data := .dict #[] }).get? e = some { cls := .ref C, data := .fields fv } := Heap.get?_push_of_some _ he
    refine fin h2 tk2 hp.objs.size ?_ (Nat.le_refl _) far.symm ((same.2 e far).trans (Heap.get?_update_self _ he1 rfl)) hn2
    intro b o hb ho
    exact (same.2 b (Nat.ne_of_lt (Heap.lt_size ho))).trans ((Heap.get?_update_ne _ _ _ _ hb).trans (Heap.get?_push_of_some _ ho))
/-- the built-in __init__, bound to the error, is called: the args are laid anew -/
theorem mw_call {C e u t0 : Addr} {nm q : Str} {N : Addr} {bs bm1 : List Value} {hdct : Bool} {sn : List Str} {sub : List Value} {ab : Bool} {col : Option Bool} {dd : Option Addr} {k0 k1 k2 k3 k5 : Option Value} {rest : List Value} {Q : Value → Shared → Prop} (BF : Base B newId initId bm)
    (hC : hp.get? C = some (excClassObj nm q C N bs bm1 hdct sn sub ab col dd k0 k1 k2 k3 k5 newId)) (he : hp.get? e = some (HandSPX.excO C t0)) (hu : hp.get? u = some (W.kxs_mw initId e)) (hz : rest.length ≤ sizeLine)
    (fin : ∀ h' t1, (∀ b o, b ≠ e → hp.get? b = some o → h'.get? b = some o) → h'.get? e = some (HandSPX.excO C t1) → Q .none ⟨h', g, d, t, os⟩) :
    wpAny (model prog w) A (call (.ref u) rest) Q E ⟨hp, g, d, t, os⟩ := by
  refine wpAny_call (codeAny_of_tree ?_)
  show wpAny _ A.in1 (callAny (.ref u) ⟨rest, []⟩) _ _ _
  simp only [callAny]
  refine wpAny_bind (wpAny_load hu ?_)
  simp only [W.kxs_mw, show (Value.type "method-wrapper" == Value.type "method" || Value.type "method-wrapper" == Value.type "builtin_function_or_method" || Value.type "method-wrapper" == Value.type "method-wrapper") = true by decide, if_true]
  refine W.KFB.if_so (by decide) ?_
  refine wpAny_bind (BF.bound hC he rfl ?_)
  refine wpAny_bind (wpAny_pure (wpAny_pure ?_))
  refine ⟨plainId_quiet BF.plain _, codeAny_builtin BF.entry ?_⟩
  exact W.exc_init_tree (cls := .ref C) (t0 := t0) (dv := none) (c2 := .none) (c3 := .none) (b4 := .bool false) he hz fun h' k e1 _ => fin h' _ k e1
end
/-- what the written part says of an error's class; its __init__ is super().__init__(x); self.f = x -/
structure ErrC (prog : Program) (K : W.Frag) (B newId initId : String) (bm : List Value) (C fI : Addr) (f : Str) : Prop where
  base : Base B newId initId bm
  cls : ∃ nm q N bs bm1 sn sub ab col dd k0 k1 k2 k3 k5, K.lookup C = some (excClassObj nm q C N bs bm1 true sn sub ab col dd k0 k1 k2 k3 k5 newId) ∧ Line bm bm1
  sa : W.findIn K (.ref C) "__setattr__" = some (some (.builtin "object.__setattr__"))
  ini : W.findIn K (.ref C) "__init__" = some (some (.ref fI))
  tI : W.typeIn K (.ref fI) = some (.type "function")
  fld : W.findIn K (.ref C) f = some none
  sup : W.ks_superIn K C C "__init__" = some (some (.builtin initId))
  subB : W.subIn K (.ref C) (.type B) = some true
  opq : W.nsIn K cStatics "thirdparty.any" = some none
  top : (prog.main.scope.names.lookup ("super" : Str)).isSome = false
  fn : ∃ (oc : Value) (od : Option Addr) (osl : Array (Option Value)) (qual : Str) (params : Arguments) (scope : Scope) (dV kV doc pm ct : Value) (an : Option Addr) (cda cc : Addr) (x : Str) (p0 p1 p2 p3 p4 p5 p6 p7 p8 p9 : Pos),
    K.lookup fI = some ⟨oc, od, .func (W.ksFn "__init__" qual params [.Expr (.Call (.Attribute (.Call (.Name "super" p0) [] [] p1) "__init__" p2) [.Name x p3] [] p4) p5, .Assign [.Attribute (.Name "self" p6) f p7] (.Name x p8) p9] scope dV kV doc pm an (.ref cda) ct cc), osl⟩ ∧
      W.codeIn K (.ref cda) qual = true ∧ (∃ (ccl : Value) (cdd : Option Addr) (vs : Array Value) (ccs : Array (Option Value)) (file : Str) (tf : Tok), K.lookup cda = some ⟨ccl, cdd, .fields vs, ccs⟩ ∧ vs[2]? = some (.str file tf) ∧ ((prog.main.file : Str) == file) = true) ∧
      (∃ (cl : Value) (cld : Option Addr) (csl : Array (Option Value)), K.lookup cc = some ⟨cl, cld, .cell (some (.ref C)), csl⟩) ∧
      scope.names.lookup ("super" : Str) = some .globalImplicit ∧ scope.names.lookup ("__class__" : Str) = some .free ∧ scope.names.lookup ("self" : Str) = some .local ∧ scope.names.lookup x = some .local ∧ x ≠ "self" ∧ (x == ("__debug__" : Str)) = false ∧ (∀ y ∈ scope.names, y.2 ≠ .cell) ∧ scope.kind = .function ∧ scope.isCoroutine = false ∧ scope.isGenerator = false ∧ (p2.endLine == p4.line) = true ∧
      ((params.posonlyargs ++ params.args).head?.map (·.arg) = some "self") ∧
      ∀ (s : Shared) (a b : Value), BindsTo s (W.ksFn "__init__" qual params [.Expr (.Call (.Attribute (.Call (.Name "super" p0) [] [] p1) "__init__" p2) [.Name x p3] [] p4) p5, .Assign [.Attribute (.Name "self" p6) f p7] (.Name x p8) p9] scope dV kV doc pm an (.ref cda) ct cc) ⟨[a, b], []⟩ [("self", a), (x, b)]
open PySem.W PySem.Calls PyProof.Rows in
/-- C(u) -/
theorem make_err {prog : Program} {w : World} {A : Around} {R : Result → Shared → Prop} {h : Heap} {g : Array GenState} {d : Drawn} {t : Nat} {os : OsState} {K : W.Frag} {B newId initId : String} {bm : List Value} {C fI : Addr} {f : Str} {u : Value} {mg : Str → Option Value}
    (T : ErrC prog K B newId initId bm C fI f) (M : L2.Mod K mg h) (hsup : mg "super" = none) (room : (A.under (.builtin "type.__call__" ⟨.ref C :: [u], []⟩)).depth < recursionLimit)
    (fin : ∀ e h2 t2 dx t1, (∀ b o, h.get? b = some o → h2.get? b = some o) → h.objs.size ≤ e → h.objs.size ≤ dx → dx ≠ e →
      h2.get? e = some { cls := .ref C, dict := some dx, data := .fields #[.ref t1, .none, .none, .none, .bool false, .none] } → h2.Ns1 dx (fun y => if y = f then some u else none) → R (.ok (.ret (.ref e))) ⟨h2, g, d, t2, os⟩) :
    codeAny (model prog w) A (.call (.ref C) ⟨[u], []⟩) R ⟨h, g, d, t, os⟩ := by
  obtain ⟨nm, q, N, bs, bm1, sn, sub, ab, col, dd, k0, k1, k2, k3, k5, hC, hl⟩ := T.cls
  have hcd : W.clsIn K C = some { name := nm, bases := bs, mro := .ref C :: bm1, ns := N, qualname := q, hasDict := true, slotNames := sn, subclasses := sub, abstract := ab, collection := col, hasDel := false } := by unfold W.clsIn; rw [hC] <;> rfl
  refine T.base.call (fun Y => hl.has Y) (M.kin _ _ hC) (looks_findIn M.kin T.ini) (fun self => bind_fn M.kin self T.tI) (by show 1 ≤ sizeLine; rw [sizeLine_eq]; omega) ?_
  obtain ⟨oc, od, osl, qual, params, scope, dV, kV, doc, pm, ct, an, cda, cc, x, p0, p1, p2, p3, p4, p5, p6, p7, p8, p9, lk, hcode, ⟨ccl, cdd, vs, ccs, file, tf, hcc, hvs, hfile⟩, ⟨cl, cld, csl, hcell⟩, ks, kc, kself, kx, nxs, hdb, ncell, hk, hco, hgen, hline, hfirst, bi⟩ := T.fn
  generalize hE : A.under (.builtin "type.__call__" ⟨.ref C :: [u], []⟩) = A2 at room ⊢
  have kp : ∀ b o, h.get? b = some o → ((h.push (kdv_tup [u])).push (HandSPX.excO C h.objs.size)).get? b = some o := fun b o e => Heap.get?_push_of_some _ (Heap.get?_push_of_some _ e)
  have hget : ((h.push (kdv_tup [u])).push (HandSPX.excO C h.objs.size)).get? (h.objs.size + 1) = some (HandSPX.excO C h.objs.size) := by heap_get
  have hsz1 : h.objs.size ≤ h.objs.size + 1 := Nat.le_succ _
  have hM1 : L2.Mod K mg ((h.push (kdv_tup [u])).push (HandSPX.excO C h.objs.size)) := by
    obtain ⟨a1, a2, ⟨mb, a3, a4⟩, a5⟩ := M
    exact ⟨a1.keeps kp, a2.keeps kp, ⟨mb, a3.keeps kp, a4⟩, a5.keeps kp⟩
  generalize h.objs.size + 1 = e at hget hsz1 ⊢
  generalize hh1 : (h.push (kdv_tup [u])).push (HandSPX.excO C h.objs.size) = h1 at *
  generalize h.objs.size = t0 at hget
  have hloc : ∀ y ∈ ([("self", .ref e), (x, u)] : List (Str × Value)), scope.names.lookup y.1 = some .local := by
    intro y hy
    rcases List.mem_cons.mp hy with rfl | hy
    · exact kself
    · rw [List.mem_singleton.mp hy]; exact kx
  refine ks_codeAny_call_defAt (h := ?_) (binds := ([("self", .ref e), (x, u)] : List (Str × Value))) room (hM1.kin _ _ lk) rfl hM1.nolimit (codeRec_of hM1.kin hcode) rfl (bi _ _ _) ncell hloc hco hgen hk
  intro h2 hns k2
  have hM2 : L2.Mod K mg h2 := by
    obtain ⟨a1, a2, ⟨mb, a3, a4⟩, a5⟩ := hM1
    exact ⟨a1.keeps k2, a2.keeps k2, ⟨mb, a3.keeps k2, a4⟩, a5.keeps k2⟩
  have he2 := k2 _ _ hget
  have vself : (fun y => ([("self", Value.ref e), (x, u)] : List (Str × Value)).reverse.lookup y) "self" = some (.ref e) := by
    show List.lookup ("self" : Str) ([(x, u), ("self", Value.ref e)] : List (Str × Value)) = _
    rw [List.lookup_cons, show (("self" : Str) == x) = false by simpa using Ne.symm nxs]
    rfl
  have vx : (fun y => ([("self", Value.ref e), (x, u)] : List (Str × Value)).reverse.lookup y) x = some u := by
    show List.lookup x ([(x, u), ("self", Value.ref e)] : List (Str × Value)) = _
    rw [List.lookup_cons, show (x == x) = true by simp]
  obtain ⟨oD, hD1, hD2⟩ : ∃ oD, h2.get? C = some oD ∧ ∃ cd, oD.data = .cls cd := ⟨_, hM2.kin _ _ hC, _, rfl⟩
  obtain ⟨cdD, hD2⟩ := hD2
  obtain ⟨mb, hmb, hmbb⟩ := hM2.blt
  have Ie : InstAt h2 e (HandSPX.excO C t0) C none := ⟨he2, rfl, rfl, trivial⟩
  have subC : mroIn K C (.ref C) = some true := by
    unfold mroIn
    rw [hcd, Option.bind_some]
    simp
  refine ks_wpAt_execs_cons (ks_wpAt_Expr_any (ks_wpAt_MethodCall (pl := (do return (← importBound (.Call (.Name "super" p0) [] [] p1) (callEnv (ksFn "__init__" qual params [.Expr (.Call (.Attribute (.Call (.Name "super" p0) [] [] p1) "__init__" p2) [.Name x p3] [] p4) p5, .Assign [.Attribute (.Name "self" p6) f p7] (.Name x p8) p9] scope dV kV doc pm an (.ref cda) ct cc) h1.objs.size fI)).getD true)) ?_ ?heq) ?hint)
  case hint =>
    show interactive _ = false
    unfold interactive
    simp [callEnv, newEnv, hk]
  case heq =>
    rw [arm_eval_Call]
    simp only [methodCall, methodCallPos, hline, Bool.or_true, if_true, bind_pure_comp, pure_bind, bind_assoc]
    rfl
  cases hfa : (params.posonlyargs ++ params.args).head? with
  | none => rw [hfa] at hfirst; cases hfirst
  | some ar =>
  rw [hfa] at hfirst
  have har : ar.arg = "self" := Option.some.inj hfirst
  refine ks_wpAt_super_base (fd := ksFn "__init__" qual params _ scope dV kV doc pm an (.ref cda) ct cc) ks kc (by decide +kernel) rfl (hM2.kin _ _ lk) rfl hfa rfl (hM2.kin _ _ hcc) rfl hvs hfile T.top ?_
  refine ks_loadName_global hk ks (loadGlobal_builtin hM2.glob hsup hmb ((hmbb _ (by decide +kernel)).trans PyProof.Rows.Boot.«super») ⟨rfl, ?_⟩)
  refine wpAny_loadName_free hk kc rfl ⟨_, hM2.kin _ _ hcell, rfl⟩ ?_
  rw [har]
  refine wpAny_loadName_local hk kself hns vself ?_
  refine ks_wpAny_isType_cls hD1 hD2 ⟨rfl, ?_⟩
  refine ks_wpAny_call_super hD1 hD2 he2 rfl (fun c z => by cases z) (looks_mroIn hM2.kin subC) (fun h3 e3 k3 => ?_)
  have k13 : ∀ b o, h1.get? b = some o → h3.get? b = some o := fun b o z => k3 b o (k2 b o z)
  have KX3 : K.In h3 := hM2.kin.keeps k3
  have he3 := k3 _ _ he2
  have Ie3 : InstAt h3 e (HandSPX.excO C t0) C none := ⟨he3, rfl, rfl, trivial⟩
  have hsup2 := T.sup
  unfold ks_superIn at hsup2
  rw [hcd, Option.bind_some] at hsup2
  refine kxs_getMethod T.base.KF e3 (looks_opaque KX3 T.opq) (l₀ := .ref C :: bm1) ?_ rfl KX3 hsup2 (Ie3.type.andThen (looks_subIn KX3 T.subB)) (ks_ne KX3 Ie3 hcd) (by decide +kernel) ?_
  · exact fun A Q E s k q => wpAny_bind ((looks_clsIn KX3 hcd) A _ E s k (wpAny_pure q))
  have hu4 : (h3.push (kxs_mw initId e)).get? h3.objs.size = some (kxs_mw initId e) := Heap.get?_push_at rfl rfl
  have k4 : ∀ b o, h3.get? b = some o → (h3.push (kxs_mw initId e)).get? b = some o := fun b o z => Heap.get?_push_of_some _ z
  generalize h3.push (kxs_mw initId e) = h4 at hu4 k4 ⊢
  generalize h3.objs.size = uu at hu4 ⊢
  have hns4 := (hns.keeps k3).keeps k4
  refine kxs_callWith (i := initId) (x := e) (by rfl) (evalArgs_plain ?_)
  show wpAny _ _ (spliced ((false, eval (.Name x p3) _) :: backTo p4 (starEach [] _))) _ _ _
  refine Calls.spliced_cons (wpAny_Name (wpAny_loadName_local hk kx hns4 vx (Calls.spliced_nil ⟨hu4, ?_⟩)) hdb)
  refine mw_call T.base (KX3.keeps k4 _ _ hC) (k4 _ _ he3) hu4 (by show 1 ≤ sizeLine; rw [sizeLine_eq]; omega) fun h5 t1 k5 e5 => ?_
  have nL : h1.objs.size ≠ e := Nat.ne_of_gt (Heap.lt_size hget)
  have hns5 : h5.Ns h1.objs.size (fun y => ([("self", Value.ref e), (x, u)] : List (Str × Value)).reverse.lookup y) := by
    obtain ⟨o, es, ep, a, b, c⟩ := hns4
    exact ⟨o, es, ep, k5 _ _ nL a, b, c⟩
  have old : ∀ b o, h.get? b = some o → b ≠ e := fun b o z => Nat.ne_of_lt (Nat.lt_of_lt_of_le (Heap.lt_size z) hsz1)
  have k15 : ∀ b o, b ≠ e → h1.get? b = some o → h5.get? b = some o := fun b o n z => k5 b o n (k4 b o (k13 b o z))
  have KX5 : K.In h5 := fun b o z => k15 b o (old b o (M.kin b o z)) (hM1.kin b o z)
  refine wpAt_of_wpAny (wpAny_execs_cons (plainObj_wpAny_Assign_Attribute (wpAny_Name (wpAny_loadName_local hk kx hns5 vx (wpAny_Name (wpAny_loadName_local hk kself hns5 vself ?_) (by decide +kernel))) hdb) ?hsw))
  case hsw => rfl
  refine set_plain KX5 (ox := HandSPX.excO C t1) (od := none) ⟨e5, rfl, rfl, trivial⟩ T.sa (first_field T.base KX5 e5 hcd (Line.own hl) rfl T.fld fun h6 tk6 dx k6 hdx ndx e6 n6 => ?_)
  refine wpAny_execs_nil ?_
  refine ⟨rfl, fin e h6 tk6 dx t1 (fun b o z => k6 b o (old b o z) (k15 b o (old b o z) (kp b o z))) hsz1 (Nat.le_trans (Nat.le_trans hsz1 (Nat.le_of_lt (Heap.lt_size e5))) hdx) ndx e6 n6⟩
end ErE
end PySem
namespace DM
open PySem PySem.Spec PyProof.Rows L2
section
variable {X : Cx} {W : WX} {B newId initId : String} {bm : List Value} {C fI : Addr} {f x : Str} {e : Expr} {te : TE} {me : ME} {p pos pos2 : Pos}
/-- C(e): an error with one field -/
theorem pmk_err (T : ErE.ErrC X.prog X.K B newId initId bm C fI f) (hr : Room 1 X.A) (hg : Gl X x) (hm : X.mg x = some (.ref C)) (kC : PySem.W.keepIn X.K (.ref C) = true) (r : Raises X (.ref C)) (hsup : X.mg "super" = none) (he : PE X e te)
    (hdb : (x == ("__debug__" : Str)) = false := by decide) (hse : starEach [e] X.env = (false, eval e X.env) :: starEach [] X.env := by rfl) : PMk X (.Call (.Name x p) [e] [] pos) (fun σ H Q => te σ H fun y H1 => ∀ d, H1 d = none → Q (.ref C) (some d) (upd H1 d (.xd [(f, y)]))) := by
  intro pins s σ H Q I h
  refine wpAny_Call_Name_kw (ld_glob I hg hm ?_ hdb)
  have ha : PA X [e] (tCons te tNil) := pa_cons he pa_nil hse
  refine PySem.W.callWith_K (h₀ := X.base) I.ok.mod.kin kC (thn (ha.run pos pins s σ H (fun vs H1 => ∃ y, vs = [y] ∧ ∀ d, H1 d = none → Q (.ref C) (some d) (upd H1 d (.xd [(f, y)]))) I ?_) fun us s1 hh => ?_) hse
  · have e0 : (fun (y : V) (H1 : Hp) => ∀ d, H1 d = none → Q (.ref C) (some d) (upd H1 d (.xd [(f, y)]))) = fun y H1 => (fun vs H1 => ∃ y, vs = [y] ∧ ∀ d, H1 d = none → Q (.ref C) (some d) (upd H1 d (.xd [(f, y)]))) [y] H1 := by
      funext y H1
      refine propext ⟨fun z => ⟨y, rfl, z⟩, fun ⟨y', z, q⟩ => ?_⟩
      cases z
      exact q
    rw [e0] at h
    exact h
  obtain ⟨vs, H1, I1, r1, y, rfl, q⟩ := hh
  refine ⟨I1.kIn, ?_⟩
  cases r1 with
  | cons ru rn =>
    rename_i u us'
    cases rn
    show wpAny _ _ (call (.ref C) [u]) _ _ _
    obtain ⟨hp, g, dr, tk, os⟩ := s1
    have M1 : Mod X.K X.mg hp := by
      obtain ⟨a1, a2, ⟨mb, a3, a4⟩, a5⟩ := I1.mod
      exact ⟨I1.kIn, a2.keeps I1.bk, ⟨mb, a3.keeps I1.bk, a4⟩, a5.keeps I1.bk⟩
    refine wpAny_call (ErE.make_err T M1 hsup (by rw [make_depth]; have := hr.dp; omega) fun a h2 t2 dx t1 k ha hdx ndx e2 n2 => ?_)
    obtain ⟨G, g1, g2⟩ := restrict h2 fun b => decide (b ≠ a)
    have gk : ∀ b, b ≠ a → G.get? b = h2.get? b := fun b hb => g1 b (decide_eq_true hb)
    have ge : G.get? a = none := g2 a (by simp)
    have na : H1 a = none := I1.hok.fresh ha
    have J := I1.laid (t' := t2) (a := dx) (o := .xd [(f, y)]) (h' := G) (fun b o z => (gk b (Nat.ne_of_lt (Nat.lt_of_lt_of_le (Heap.lt_size z) ha))).trans (k b o z)) hdx
      ⟨_, n2.at fun o z => (gk dx ndx).trans z, fun z => relO_put (fs := []) (mA := fun _ => none) ru (fun _ => True.intro) z⟩
    refine ⟨a, _, _, ⟨G, g, dr, t2, os⟩, upd H1 dx (.xd [(f, y)]), .ref C, some dx, rfl, J, fun b o z => ?_, ge, e2, ⟨rfl, rfl⟩, rfl, rfl, ?_, rfl, J.bare, r, q dx (I1.hok.fresh hdx)⟩
    · by_cases hb : b = a
      · rw [hb, ge] at z; cases z
      · exact (gk b hb).symm.trans z
    · rw [upd_ne (Ne.symm ndx)]; exact na
/-- raise C(e) -/
def mRaise (C f : Str) (me : ME) : MS := fun ρ A => lift (me ρ A) ρ fun d A1 => .exc C [(f, d)] ρ A1
theorem s_raise {cn : Str} (hc : X.calm = true) (tk : Takes X W) (T : ErE.ErrC X.prog X.K B newId initId bm C fI f) (hr : Room 1 X.A) (hm : X.mg cn = some (.ref C)) (hcn : clsV X.K cn = some (.ref C)) (kC : PySem.W.keepIn X.K (.ref C) = true)
    (r1 : PySem.W.subIn X.K (.ref C) (.type "BaseException") = some true) (r2 : PySem.W.typeIn X.K (.ref C) = some (.type "type")) (hsup : X.mg "super" = none) (he : DE X W e me) (hg : Gl X cn := by rfl) (hdb : (cn == ("__debug__" : Str)) = false := by decide) (hse : starEach [e] X.env = (false, eval e X.env) :: starEach [] X.env := by rfl) :
    DS X W (.Raise (some (.Call (.Name cn p) [e] [] pos)) none pos2) (mRaise cn f me) :=
  PSi (ps_raise hc tk (pmk_err T hr hg hm kC (raises_own r1 r2) hsup he hdb hse)) fun D σ H ⟨m, A, ρ, R, E, h⟩ => tE.lift R E h fun m1 A1 d v H1 e1 R1 E1 r1 h1 dx hdx => by
    obtain ⟨R2, e2⟩ := R1.new hdx (.xd [(f, v)])
    exact h1 m1 _ _ (some dx) σ e2 R2 (E1.mono e2) hcn ⟨by simp, _, upd_same, R1.out hdx, rfl, .cons (RD.mono e2 _ _ r1) .nil⟩
end
end DM
end
section
set_option maxHeartbeats 2000000
/-! own errors over KeyError: its __new__ is LookupError's -/
namespace PySem
namespace ErE
open Builtin Builtin.ObjectAttr
/-- what a line over KeyError holds and what not -/
structure OverKey (l : List Value) : Prop where
  over : l.contains (.type "LookupError") = true
  noAttr : l.contains (.type "AttributeError") = false
  noName : l.contains (.type "NameError") = false
section
variable {M : Model} {prog : Program} {w : World} {A : Around} {E : Value → Shared → Prop} {hp : Heap} {gs : Array GenState} {dr : Drawn} {tn : Nat} {os : OsState}
variable {cn cq : Str} {C N : Addr} {bs l : List Value} {hasD : Bool} {sn : List Str} {sb : List Value} {ab : Bool} {cl : Option Bool} {dd : Option Addr} {k0 k1 k2 k3 k5 : Option Value}
/-- __new__ may be asked of such a class -/
theorem key_may (ok : OverKey l) (hC : hp.get? C = some (excClassObj cn cq C N bs l hasD sn sb ab cl dd k0 k1 k2 k3 k5 "LookupError.__new__")) {xs : List Value} {Q : Unit → Shared → Prop} (fin : Q () ⟨hp, gs, dr, tn, os⟩) :
    wpAny M A (checkBuiltinCall "LookupError.__new__" ⟨.ref C :: xs, []⟩) Q E ⟨hp, gs, dr, tn, os⟩ := by
  have B := F.excBase_LookupError
  have st := B.noStar
  have up : ∀ {Q : Bool → Shared → Prop}, Q true ⟨hp, gs, dr, tn, os⟩ → wpAny M A (isSubtype (.ref C) (.type "LookupError")) Q E ⟨hp, gs, dr, tn, os⟩ := fun q =>
    wpAny_isSubtype_exc hC (by rw [List.contains_cons, ok.over, Bool.or_true]; exact q)
  unfold checkBuiltinCall
  rw [B.newKind, B.newSplit, B.newRow]
  dsimp only
  repeat (first
    | refine up ?_
    | refine wpAny_staticBase_exc hC ?_
    | refine wpAny_madeBy_exc hC ?_
    | refine wpAny_loadPart_at hC ?_
    | wp_step
    | simp only [bne_self_eq_false, Bool.false_eq_true, if_false])
  exact fin
/-- __new__: the tuple of what was handed in, then the error -/
theorem key_made (ok : OverKey l) (hC : hp.get? C = some (excClassObj cn cq C N bs l hasD sn sb ab cl dd k0 k1 k2 k3 k5 "LookupError.__new__")) {xs : List Value} {R : Result → Shared → Prop} (short : xs.length ≤ sizeLine)
    (fin : R (.ok (.ret (.ref (hp.objs.size + 1)))) ⟨(hp.push (W.kdv_tup xs)).push (HandSPX.excO C hp.objs.size), gs, dr, tn, os⟩) :
    codeAny (model prog w) A (.builtin "LookupError.__new__" ⟨.ref C :: xs, []⟩) R ⟨hp, gs, dr, tn, os⟩ := by
  have B := F.excBase_LookupError
  have ends := B.ends
  have ask : ∀ {M : Model} {A : Around} {E : Value → Shared → Prop} {T : String} {b : Bool}, (Value.ref C :: l).contains (.type T) = b → ∀ {Q : Bool → Shared → Prop}, Q b ⟨hp, gs, dr, tn, os⟩ → wpAny M A (isSubtype (.ref C) (.type T)) Q E ⟨hp, gs, dr, tn, os⟩ :=
    by intro _ _ _ _ _ e _ q; exact wpAny_isSubtype_exc hC (by rw [e]; exact q)
  have e1 : (Value.ref C :: l).contains (.type "LookupError") = true := by rw [List.contains_cons, ok.over, Bool.or_true]
  have e2 : (Value.ref C :: l).contains (.type "AttributeError") = false := by rw [List.contains_cons, ok.noAttr]; rfl
  have e3 : (Value.ref C :: l).contains (.type "NameError") = false := by rw [List.contains_cons, ok.noName]; rfl
  refine codeAny_builtinAt B.entry ?_
  unfold Builtin.«BaseException.__new__»
  refine wpAt_bind ?_
  show wpAt _ _ _ (stack >>= _) _ _ _
  refine wpAt_bind (wpAt_stack fun _ _ => wpAt_of_wpAny ?_)
  wp_walk
  refine wpAt_of_wpAny ?_
  rw [B.owner]
  repeat (first
    | with_reducible refine ask e1 ?_
    | with_reducible refine ask e2 ?_
    | with_reducible refine ask e3 ?_
    | with_reducible refine wpAny_madeHere_exc B.canon hC ?_
    | with_reducible refine wpAny_loadPart_at hC ?_
    | wp_step)
  show R _ _
  rw [Heap.size_push]
  exact fin
/-- C(xs): made, then its own __init__ -/
theorem key_call (ok : OverKey l) (hC : hp.get? C = some (excClassObj cn cq C N bs l hasD sn sb ab cl dd k0 k1 k2 k3 k5 "LookupError.__new__")) {xs : List Value} {fI : Addr} {R : Result → Shared → Prop}
    (hi : W.Looks (model prog w) hp (typeLookup (.ref C) "__init__") (some (.ref fI))) (hb : ∀ self, W.Looks (model prog w) hp (bindSpecial (.ref fI) self) (.ref fI, [self])) (short : xs.length ≤ sizeLine)
    (fin : codeAny (model prog w) (A.under (.builtin "type.__call__" ⟨.ref C :: xs, []⟩)) (.call (.ref fI) ⟨.ref (hp.objs.size + 1) :: xs, []⟩) (W.InitBack (hp.objs.size + 1) R)
      ⟨(hp.push (W.kdv_tup xs)).push (HandSPX.excO C hp.objs.size), gs, dr, tn, os⟩) : codeAny (model prog w) A (.call (.ref C) ⟨xs, []⟩) R ⟨hp, gs, dr, tn, os⟩ := by
  have B := F.excBase_LookupError
  have t1 := tc_lookup
  have t2 := tc_bind (.ref C)
  have isT : (⟨hp, gs, dr, tn, os⟩ : Shared).TypeIs (.ref C) "type" := ⟨_, hC, rfl⟩
  refine codeAny_of_tree ?_
  show wpAny _ _ (callAny (.ref C) _) _ _ _
  repeat (any_goals (first | assumption | with_reducible refine wpAny_loadPart_at hC ?_ | wp_step))
  refine ⟨rfl, codeAny_call_builtin_at (Code.quiet_builtin _ (by decide +kernel)) entry_typeCall (wpAny_check_type_call_sub hC ?_)⟩
  repeat (first | with_reducible refine wpAny_madeBy_exc hC ?_ | with_reducible refine wpAny_loadPart_at hC ?_ | wp_step)
  refine codeAny_call_builtin_code (Code.quiet_builtin _ B.quiet) (key_may ok hC (key_made ok hC short ?_))
  show wpAny _ _ _ _ _ _
  have stays : ∀ b o, hp.get? b = some o → ((hp.push (W.kdv_tup xs)).push (HandSPX.excO C hp.objs.size)).get? b = some o := fun b o e => Heap.get?_push_of_some _ (Heap.get?_push_of_some _ e)
  have here : ((hp.push (W.kdv_tup xs)).push (HandSPX.excO C hp.objs.size)).get? (hp.objs.size + 1) = some (HandSPX.excO C hp.objs.size) := by heap_get
  have isC : ∀ {M : Model} {A : Around} {E : Value → Shared → Prop} {Q : Bool → Shared → Prop}, Q true ⟨(hp.push (W.kdv_tup xs)).push (HandSPX.excO C hp.objs.size), gs, dr, tn, os⟩ →
      wpAny M A (isSubtype (.ref C) (.ref C)) Q E ⟨(hp.push (W.kdv_tup xs)).push (HandSPX.excO C hp.objs.size), gs, dr, tn, os⟩ := fun q => wpAny_isSubtype_exc (stays _ _ hC) (by rw [show (Value.ref C :: l).contains (.ref C) = true by simp]; exact q)
  unfold isInstance
  repeat (first | refine isC ?_ | with_reducible refine wpAny_loadPart_at here ?_ | wp_step)
  show wpAny _ _ (typeLookup (.ref C) _) _ _ _
  refine (hi.keeps stays).at (wpAny_holding (wpAny_bind (((hb _).keeps stays).at ?_)))
  refine wpAny_bind (wpAny_call (codeAny_mono fin fun r s' z => ?_))
  cases r with
  | error x => exact z
  | ok fl =>
    cases fl with
    | ret v =>
      obtain ⟨rfl, z⟩ := z
      first
        | exact wpAny_pure (wpAny_pure z)
        | (wp_walk; exact z)
    | next => exact z.elim
    | brk => exact z.elim
    | cont => exact z.elim
end
section
variable {M : Model} {A : Around} {E : Value → Shared → Prop} {hp : Heap} {gs : Array GenState} {dr : Drawn} {tn : Nat} {os : OsState}
theorem key_bound {newId : String} {cn cq : Str} {C N e : Addr} {bs l : List Value} {hasD : Bool} {sn : List Str} {sb : List Value} {ab : Bool} {cl : Option Bool} {dd : Option Addr} {k0 k1 k2 k3 k5 : Option Value} {oe : Obj} {xs : List Value} {Q : Unit → Shared → Prop}
    (hC : hp.get? C = some (excClassObj cn cq C N bs l hasD sn sb ab cl dd k0 k1 k2 k3 k5 newId)) (he : hp.get? e = some oe) (hc : oe.cls = .ref C) (fin : Q () ⟨hp, gs, dr, tn, os⟩) : wpAny M A (checkBoundCall "KeyError.__init__" ⟨.ref e :: xs, []⟩) Q E ⟨hp, gs, dr, tn, os⟩ := by
  have hk : builtinKind "KeyError.__init__" = some .slot := by kernel_rfl
  have hr : Manifest.signature? "KeyError.__init__" = some ⟨.positional, "*", "KeyError", .self, [⟨"args", .varPos, false⟩]⟩ := by kernel_rfl
  have hs : ("KeyError" != "*") = true := by decide +kernel
  unfold checkBoundCall
  rw [hk, hr]
  dsimp only
  repeat (first | (with_reducible refine wpAny_loadPart_at he ?_; rw [hc]) | with_reducible refine wpAny_loadPart_at hC ?_ | wp_step)
  refine wpAny_onRaise ?_
  have star : ∀ (f a : String) (n : Nat), Bind.check ⟨.positional, "*", "KeyError", .self, [⟨"args", .varPos, false⟩]⟩ f a n [] = pure () := fun f a n => check_star_args _ _ _ _ _ _
  exact wpAny_of_eq (star _ _ _) fin
end
theorem base_KeyError : Base "KeyError" "LookupError.__new__" "KeyError.__init__" [.type "KeyError", .type "LookupError", .type "Exception", .type "BaseException", .type "object"] where
  call := fun hT hC hi hb hr hq => key_call ⟨by rw [hT]; decide +kernel, by rw [hT]; decide +kernel, by rw [hT]; decide +kernel⟩ hC hi hb hr hq
  bound := fun hC he hc hq => key_bound hC he hc hq
  plain := by decide +kernel
  entry := PyProof.Rows.excClass_KeyError.initEntry
  KF := ⟨by show builtinType _ = _; rw [builtinType_eq_fast]; kernel_rfl, by first | kernel_rfl | rfl⟩
  pass := fun self => by
    first
      | rfl
      | kernel_rfl
      | (simp [refuseLoop]; kernel_rfl)
  obj := by decide +kernel
  ne := rfl
end ErE
end PySem
end
section
set_option maxHeartbeats 2000000
namespace DM
open PySem PySem.Spec PyProof.Rows L2
/-! ### try: several clauses, with names or without -/
abbrev SuiteT := Addr → Value → Option Addr → TS
def goneE (i : Nat) (D : Ends) : Ends where
  nx := fun τ G => D.nx (τ.set i none) G
  rt := D.rt
  bk := fun τ G => D.bk (τ.set i none) G
  ct := fun τ G => D.ct (τ.set i none) G
/-- a clause's suite for the exception at a -/
def runH (oi : Option Nat) (ts : SuiteT) (a : Addr) (cls : Value) (d : Option Addr) (D : Ends) (σ : L2.St) (H : Hp) : Prop := match oi with
  | none => ts a cls d D σ H
  | some i => ts a cls d (goneE i D) (σ.set i (some (.ref a))) H
def wHs (K : PySem.W.Frag) (Wout : WX) (D : Ends) : List (Value × Option Nat × SuiteT) → WX
  | [] => Wout
  | (c, oi, ts) :: r => fun cls d σ H => ∃ b, PySem.W.exmOne K cls c = some b ∧ (b = true → ∀ a, H a = none → runH oi ts a cls d D σ H) ∧ (b = false → wHs K Wout D r cls d σ H)
def SuiteOk (X : Cx) (sts : List Stmt) (ts : SuiteT) : Prop := ∀ (a : Addr) (oe : Obj) (cls : Value) (d : Option Addr) (pn : List (Addr × Obj)), Zc cls d oe → (∃ vs, oe.data = .fields vs) → PSs (X.suite a ((a, oe) :: pn)) sts (ts a cls d)
inductive HsOk (X : Cx) : List ExceptHandler → List (Value × Option Nat × SuiteT) → Prop
  | nil : HsOk X [] []
  | bare {x : Str} {c : Value} {ts : SuiteT} {b₀ : Stmt} {sts : List Stmt} {np hp : Pos} {hds : List ExceptHandler} {l : List (Value × Option Nat × SuiteT)} (hc : Names X x c) (ok : SuiteOk X (b₀ :: sts) ts) (r : HsOk X hds l) :
      HsOk X (.ExceptHandler (some (.Name x np)) none (b₀ :: sts) hp :: hds) ((c, none, ts) :: l)
  | named {x n : Str} {i : Nat} {c : Value} {ts : SuiteT} {b₀ : Stmt} {sts : List Stmt} {np hp : Pos} {hds : List ExceptHandler} {l : List (Value × Option Nat × SuiteT)} (hi : X.N[i]? = some n) (hl : X.env.kindOf n = some .local) (hc : Names X x c) (ok : SuiteOk X (b₀ :: sts) ts) (r : HsOk X hds l) :
      HsOk X (.ExceptHandler (some (.Name x np)) (some n) (b₀ :: sts) hp :: hds) ((c, some i, ts) :: l)
section
variable {X : Cx} {body : List Stmt} {h₀ : ExceptHandler} {hds : List ExceptHandler} {l : List (Value × Option Nat × SuiteT)} {pos : Pos} {tb : WX → TS} {Wout : WX} {pins : List (Addr × Obj)} {σ : L2.St} {H : Hp} {D : Ends}
/-- the clauses, one after the other, over a landed exception -/
theorem hs_go (stk : X.stack = X.env :: X.outer) (hf : X.env.frame = some X.env.locals) (hN : X.N.Nodup) (tk : Takes X Wout) (ok : X.Ok) {a : Addr} {B : Heap} {sI t t3 : Shared} {cls : Value} {d : Option Addr} {h3 : Heap}
    (J : Inv X pins σ H sI) (nb : ∀ b o, sI.heap.get? b = some o → b ∉ frs X.stack → B.get? b = some o) (up : sI.heap.UpToSlots h3) (na : H a = none) (os : t.os = sI.os) (ag : AllBare t.gens)
    (fl : HandSPX.FlyingZ B (X.env :: X.outer) a (Zc cls d) h3) {hds : List ExceptHandler} {l : List (Value × Option Nat × SuiteT)} (hk : HsOk X hds l) :
    wHs X.K Wout D l cls d σ H → wpAny (model X.prog X.w) X.A (handleBy (.ref a) X.env hds) (SP X pins D) X.xe { t with heap := h3 } := by
  have off : ∀ {h : Heap}, HandSPX.FlyingZ B (X.env :: X.outer) a (Zc cls d) h → a ≠ X.env.locals ∧ a ∉ X.fs := fun {h} x => by
    obtain ⟨oe, vs, e1, _, e2⟩ := x.there
    have no : a ∉ frs (X.env :: X.outer) := fun hm => by
      obtain ⟨_, o, e3, nf⟩ := x.2.2.1.mem hm
      rw [e1] at e3; cases e3
      exact nf _ e2
    refine ⟨fun z => no (List.mem_filterMap.mpr ⟨X.env, List.mem_cons_self, by rw [hf, z]⟩), fun hm => ?_⟩
    obtain ⟨e, he, q⟩ := List.mem_filterMap.mp hm
    exact no (List.mem_filterMap.mpr ⟨e, List.mem_cons_of_mem _ he, q⟩)
  obtain ⟨nL, nF⟩ := off fl
  have J3 : Inv X pins σ H { t with heap := h3 } := J.landed nb fl.1 up os ag
  obtain ⟨oe3, vs3, he3, hz3, hd3⟩ := fl.there
  have S3 := J3.suite he3 hd3 na nL nF
  have tested : ∀ {x : Str} {c : Value} {np : Pos}, Names X x c → ∀ {Q : Value → Shared → Prop} {E : Value → Shared → Prop}, Q c { t with heap := h3 } → wpAny (model X.prog X.w) (X.A.mark (some (.ref a))) (eval (.Name x np) X.env) Q E { t with heap := h3 } := fun {x c np} hc {Q E} q => by
    obtain ⟨hg, hd, hm | ⟨hm, hv, hn⟩⟩ := hc
    · exact ld_glob (X := X.suite a ((a, oe3) :: (X.pn ++ pins))) S3 hg hm q hd
    · exact ld_blt (X := X.suite a ((a, oe3) :: (X.pn ++ pins))) S3 hg hm hv q hn hd
  have typ : PySem.W.Looks (model X.prog X.w) h3 (typeOf (.ref a)) cls := fun A Q E s k q => wpAny_typeOf_ref (k _ _ he3) (by rw [hz3.1]; exact q)
  induction hk with
  | nil =>
    intro w
    refine wpAny_handleBy_nil ?_
    have up4 : wpAny (model X.prog X.w) X.A (setFlight (.ref a) X.env.frame) (fun _ s4 => wpAny (model X.prog X.w) X.A (throw (.ref a) : Sem Flow) (SP X pins D) X.xe s4) X.xe { t with heap := h3 } := by
      rw [hf]
      refine HandSPX.setFlight_upZ fl fun h4 hh4 up4 => wpAny_throw (tk _ _ ⟨a, B, sI, pins, σ, H, cls, d, rfl, J, nb, up.trans up4, ?_, na, os, ag, w⟩)
      exact .inr (.inr (by rw [stk]; exact hh4))
    obtain ⟨_, _, _, oe, vs, T, oT, us, e1, e2, e3, e4, _⟩ := id fl
    unfold PySem.passOn
    refine wpAny_bind (wpAny_field e1 e3 e4 ?_)
    rw [if_neg (show ¬ ((Value.ref T == Value.none) = true) from by simp)]
    first
      | exact wpAny_bind (wpAny_pure (wpAny_bind up4))
      | exact wpAny_bind up4
  | bare hc sok r ih =>
    intro w
    obtain ⟨b, hb, yes, no⟩ := w
    refine wpAny_handleBy_cons (codeAny_handlers_test (tested hc ((PySem.W.exm_one (M := model X.prog X.w) J3.kIn typ hb).here ?_))) (by intro q; cases q)
    cases b with
    | false => exact ih (no rfl)
    | true =>
      refine codeAny_handlers_suite (HandSPX.lands_againZ fl fun h4 fl4 up4 => ?_)
      obtain ⟨oe4, vs4, he4, hz4, hd4⟩ := fl4.there
      have S4 := (J.landed nb fl4.1 (up.trans up4) os ag : Inv X pins σ H { t with heap := h4 }).suite he4 hd4 na nL nF
      refine wpAny_mono ((sok a oe4 cls d (X.pn ++ pins) hz4 ⟨_, hd4⟩).run [] _ _ H _ S4 (yes rfl a na)) (fun f s6 z => ?_) fun _ _ z => z.elim
      cases f with
      | next => obtain ⟨τ, G, S6, q⟩ := z; exact ⟨_, _, S6.unsuite ok, q⟩
      | brk => obtain ⟨τ, G, S6, q⟩ := z; exact ⟨_, _, S6.unsuite ok, q⟩
      | cont => obtain ⟨τ, G, S6, q⟩ := z; exact ⟨_, _, S6.unsuite ok, q⟩
      | ret u => obtain ⟨v, τ, G, S6, rv, q⟩ := z; exact ⟨_, _, _, S6.unsuite ok, rv, q⟩
  | named hi hl hc sok r ih =>
    intro w
    obtain ⟨b, hb, yes, no⟩ := w
    refine wpAny_handleBy_cons (codeAny_handlers_test (tested hc ((PySem.W.exm_one (M := model X.prog X.w) J3.kIn typ hb).here ?_))) (by intro q; cases q)
    cases b with
    | false => exact ih (no rfl)
    | true =>
      refine codeAny_handlers_suite_as (HandSPX.lands_againZ fl fun h4 fl4 up4 => ?_)
      obtain ⟨oe4, vs4, he4, hz4, hd4⟩ := fl4.there
      have S4 := (J.landed nb fl4.1 (up.trans up4) os ag : Inv X pins σ H { t with heap := h4 }).suite he4 hd4 na nL nF
      refine store_ok (X := X.suite a ((a, oe4) :: (X.pn ++ pins))) (v := .ref a) S4 hN hi (.inl hl) rfl (fun s5 S5 => ?_) (.inr hl)
      refine wpAny_mono ((sok a oe4 cls d (X.pn ++ pins) hz4 ⟨_, hd4⟩).run [] s5 _ H _ S5 (yes rfl a na)) (fun f s6 z => ?_) fun _ _ z => z.elim
      cases f with
      | next => obtain ⟨τ, G, S6, q⟩ := z; exact gone_ok (S6.unsuite ok) hN hi hl fun s7 J7 => ⟨_, _, J7, q⟩
      | brk => obtain ⟨τ, G, S6, q⟩ := z; exact gone_ok (S6.unsuite ok) hN hi hl fun s7 J7 => ⟨_, _, J7, q⟩
      | cont => obtain ⟨τ, G, S6, q⟩ := z; exact gone_ok (S6.unsuite ok) hN hi hl fun s7 J7 => ⟨_, _, J7, q⟩
      | ret u => obtain ⟨v, τ, G, S6, rv, q⟩ := z; exact gone_ok (S6.unsuite ok) hN hi hl fun s7 J7 => ⟨_, _, _, J7, rv, q⟩
theorem ps_try_hs (stk : X.stack = X.env :: X.outer) (hf : X.env.frame = some X.env.locals) (hN : X.N.Nodup) (tk : Takes X Wout)
    (hb : ∀ (W : WX) (pn : List (Addr × Obj)) (xe : Value → Shared → Prop), Takes (X.tr pn xe) W → PassesOwn (model X.prog X.w) X.A X.env xe → PSs (X.tr pn xe) body (tb W)) (hh : HsOk X (h₀ :: hds) l) :
    PS X (.Try body (h₀ :: hds) [] [] pos) (fun D σ H => tb (wHs X.K Wout D l) D σ H) := by
  refine ⟨fun pins s σ H D I h => ?_⟩
  have ok := I.ok
  refine wpAny_Try_except ?_
  refine wpAny_mono ((hb (wHs X.K Wout D l) (X.pn ++ pins) (fun e s₁ => wpAny (model X.prog X.w) X.A (noteFrame e X.env) (fun _ s₂ => wpAny (model X.prog X.w) X.A (setFlight e none) (fun _ s₃ =>
    wpAny (model X.prog X.w) X.A (handleBy e X.env (h₀ :: hds)) (SP X pins D) X.xe s₃) X.xe s₂) X.xe s₁) (fun u t air => ?_) PassesOwn.looking).run [] s σ H D (I.toTry _) h) (fun f s1 z => ?_) fun e s1 he => he
  · obtain ⟨a, B, sI, pins', τ, G, cls, d, rfl, J0, nb, up, sky, na, os, ag, w⟩ := air
    have sky' : Sky B (X.env :: X.outer) a (Zc cls d) X.env.locals t.heap := by rw [← stk]; exact sky
    refine Sky.land Zc.steady (by rw [ok.frames, stk]) hf sky' fun h3 fl3 up3 => ?_
    exact hs_go (t := t) (t3 := t) stk hf hN tk ok (J0.ofTry ok) nb (up.trans up3) na os ag fl3 hh w
  · cases f with
    | next => obtain ⟨τ, G, J, q⟩ := z; exact wpAny_execs_nil ⟨τ, G, J.ofTry ok, q⟩
    | brk => obtain ⟨τ, G, J, q⟩ := z; exact ⟨τ, G, J.ofTry ok, q⟩
    | cont => obtain ⟨τ, G, J, q⟩ := z; exact ⟨τ, G, J.ofTry ok, q⟩
    | ret u => obtain ⟨v, τ, G, J, rv, q⟩ := z; exact ⟨v, τ, G, J.ofTry ok, rv, q⟩
end
end DM
end
section
set_option maxHeartbeats 2000000
namespace DM
open PySem PySem.Spec PyProof.Rows L2
/-! ### try in the mirror -/
open Classical in
/-- what does not hang on where the exception lies -/
noncomputable def indep (f : Addr → Addr → SRes) : SRes := if h : ∃ r, ∀ a d, f a d = r then Classical.choose h else .no
theorem indep_eq {f : Addr → Addr → SRes} {r : SRes} (h : ∀ a d, f a d = r) : indep f = r := by
  have h' : ∃ r, ∀ a d, f a d = r := ⟨r, h⟩
  unfold indep
  rw [dif_pos h']
  exact (Classical.choose_spec h' 0 0).symm.trans (h 0 0)
theorem indep_at {f : Addr → Addr → SRes} (n : indep f ≠ .no) (a d : Addr) : f a d = indep f := by
  unfold indep at n ⊢
  split
  · rename_i h
    exact Classical.choose_spec h a d
  · rename_i h
    rw [dif_neg h] at n
    exact (n rfl).elim
structure HdM where
  cls : Str
  yes : List Str
  nos : List Str
  slot : Option Nat
  suite : Str → Addr → Option Addr → MS
def goneM : Option Nat → SRes → SRes
  | some i, .nx ρ A => .nx (ρ.set i none) A
  | some i, .bk ρ A => .bk (ρ.set i none) A
  | some i, .ct ρ A => .ct (ρ.set i none) A
  | none, .nx ρ A => .nx ρ A
  | none, .bk ρ A => .bk ρ A
  | none, .ct ρ A => .ct ρ A
  | _, .rt d A => .rt d A
  | _, .exc _ _ _ _ => .no
  | _, .no => .no
def dOf (fs : List (Str × D)) (d : Addr) : Option Addr := if fs = [] then none else some d
def enterM (oi : Option Nat) (a : Addr) (d : Option Addr) (fs : List (Str × D)) (ρ : Env) : Env := match oi with
  | none => ρ
  | some i => ρ.set i (some (.exv a d (fs.map (·.1)) (fs.map (·.2))))
noncomputable def excGo : List HdM → Str → List (Str × D) → Env → AH → SRes
  | [], C, fs, ρ, A => .exc C fs ρ A
  | h :: r, C, fs, ρ, A => if C ∈ h.yes then indep fun a d => goneM h.slot (h.suite C a (if fs = [] then none else some d) (enterM h.slot a (if fs = [] then none else some d) fs ρ) A) else if C ∈ h.nos then excGo r C fs ρ A else .no
noncomputable def mTry (mb : MS) (hs : List HdM) : MS := fun ρ A => match mb ρ A with
  | .exc C fs ρ1 A1 => excGo hs C fs ρ1 A1
  | r => r
def suiteT (K : PySem.W.Frag) (h : HdM) : SuiteT := fun a cls d D σ H => ∃ C, clsV K C = some cls ∧ tS K WNo (h.suite C a d) D σ H
/-- what an except clause must know: its class's value -/
structure HdF (K : PySem.W.Frag) (h : HdM) (c : Value) : Prop where
  yes : ∀ C ∈ h.yes, ∀ v, clsV K C = some v → PySem.W.exmOne K v c = some true
  nos : ∀ C ∈ h.nos, ∀ v, clsV K C = some v → PySem.W.exmOne K v c = some false
inductive HsM (K : PySem.W.Frag) : List HdM → List (Value × Option Nat × SuiteT) → Prop
  | nil : HsM K [] []
  | cons {h : HdM} {c : Value} {hs : List HdM} {l : List (Value × Option Nat × SuiteT)} : HdF K h c → HsM K hs l → HsM K (h :: hs) ((c, h.slot, suiteT K h) :: l)
section
variable {K : PySem.W.Frag} {W : WX} {σ : L2.St} {m m' : Mp} {A : AH} {ρ : Env} {H H' : Hp} {D0 : Ends}
theorem gone_none {r : SRes} (h : PostS K W m H (goneM none r) D0) : PostS K WNo m H r D0 := by
  cases r with
  | nx ρ A => exact h
  | bk ρ A => exact h
  | ct ρ A => exact h
  | rt d A => exact h
  | exc C fs ρ A => exact h.elim
  | no => exact h
theorem REnv.drop (i : Nat) {τ : L2.St} (h : REnv K m H ρ τ) : REnv K m H (ρ.set i none) (τ.set i none) := h.unset i none
theorem gone_some {i : Nat} {r : SRes} (h : PostS K W m H (goneM (some i) r) D0) : PostS K WNo m H r (goneE i D0) := by
  cases r with
  | nx ρ A => exact fun m' H' τ e R' E' => h m' H' (τ.set i none) e R' (E'.drop i)
  | bk ρ A => exact fun m' H' τ e R' E' => h m' H' (τ.set i none) e R' (E'.drop i)
  | ct ρ A => exact fun m' H' τ e R' E' => h m' H' (τ.set i none) e R' (E'.drop i)
  | rt d A => exact h
  | exc C fs ρ A => exact h.elim
  | no => exact h
theorem rd_exv {fs : List (Str × D)} {d : Option Addr} (a : Addr) (x : ExcAt K m H fs d) : RD K m H (.exv a d (fs.map (·.1)) (fs.map (·.2))) (.ref a) := by
  cases d with
  | none =>
    have e : fs = [] := x
    subst e
    exact .exv0 a
  | some dd =>
    obtain ⟨_, gs, h1, h2, h3, h4⟩ := x
    exact .exv1 h1 h2 h3 h4
theorem exc_ok {C : Str} {fs : List (Str × D)} {c : Value} {dx : Option Addr} (hc : clsV K C = some c) (R : Rel K m' A H') (E : REnv K m' H' ρ σ) (hx : ExcAt K m' H' fs dx) (e : Ext m H m' H') :
    ∀ {hs : List HdM} {l : List (Value × Option Nat × SuiteT)}, HsM K hs l → PostS K W m H (excGo hs C fs ρ A) D0 → wHs K W D0 l c dx σ H' := by
  intro hs l hl
  induction hl with
  | nil => exact fun h => h m' H' c dx σ e R E hc hx
  | @cons hd cv hs l F r ih =>
    intro h
    unfold excGo at h
    split at h
    · rename_i hy
      refine ⟨true, F.yes C hy c hc, fun _ a na => ?_, (fun z => nomatch z)⟩
      have nn : indep (fun a d => goneM hd.slot (hd.suite C a (if fs = [] then none else some d) (enterM hd.slot a (if fs = [] then none else some d) fs ρ) A)) ≠ .no := fun z => by
        rw [z] at h
        exact h.elim
      have ed : (if fs = [] then none else some (dx.getD 0)) = dx := by
        cases dx with
        | none => exact if_pos hx
        | some dd => exact if_neg hx.1
      have at_ := indep_at nn a (dx.getD 0)
      rw [← at_, ed] at h
      have h' := PostS.mono e h
      cases hs : hd.slot with
      | none =>
        rw [hs] at h'
        exact ⟨C, hc, m', A, ρ, R, E, gone_none h'⟩
      | some i =>
        rw [hs] at h'
        exact ⟨C, hc, m', A, _, R, E.set (rd_exv a hx) i, gone_some h'⟩
    · split at h
      · rename_i hn
        exact ⟨false, F.nos C hn c hc, (fun z => nomatch z), fun _ => ih h⟩
      · exact h.elim
theorem tryD {mb : MS} {hs : List HdM} {l : List (Value × Option Nat × SuiteT)} (hl : HsM K hs l) (h : tS K W (mTry mb hs) D0 σ H) : tS K (wHs K W D0 l) mb D0 σ H := by
  obtain ⟨m, A, ρ, R, E, h⟩ := h
  refine ⟨m, A, ρ, R, E, ?_⟩
  unfold mTry at h
  cases hr : mb ρ A with
  | exc C fs ρ1 A1 =>
    rw [hr] at h
    exact fun m' H' c dx σ' e R' E' hc hx => exc_ok hc R' E' hx e hl h
  | nx ρ1 A1 => rw [hr] at h; exact h
  | bk ρ1 A1 => rw [hr] at h; exact h
  | ct ρ1 A1 => rw [hr] at h; exact h
  | rt d A1 => rw [hr] at h; exact h
  | no => rw [hr] at h; exact h
end
section
variable {X : Cx} {W : WX} {body : List Stmt} {h₀ : ExceptHandler} {hds : List ExceptHandler} {l : List (Value × Option Nat × SuiteT)} {pos : Pos} {mb : MS} {hs : List HdM}
theorem s_try (stk : X.stack = X.env :: X.outer) (hf : X.env.frame = some X.env.locals) (hN : X.N.Nodup) (tk : Takes X W)
    (hb : ∀ (W : WX) (pn : List (Addr × Obj)) (xe : Value → Shared → Prop), Takes (X.tr pn xe) W → PassesOwn (model X.prog X.w) X.A X.env xe → DSs (X.tr pn xe) W body mb) (hl : HsM X.K hs l) (hh : HsOk X (h₀ :: hds) l) :
    DS X W (.Try body (h₀ :: hds) [] [] pos) (mTry mb hs) := PSi (ps_try_hs (tb := fun W => tS X.K W mb) stk hf hN tk hb hh) fun _ _ _ h => tryD hl h
theorem suite_ok {sts : List Stmt} {h : HdM} (hsu : ∀ (a : Addr) (oe : Obj) (cls : Value) (d : Option Addr) (pn : List (Addr × Obj)) (C : Str), Zc cls d oe → (∃ vs, oe.data = .fields vs) → clsV X.K C = some cls → DSs (X.suite a ((a, oe) :: pn)) WNo sts (h.suite C a d)) : SuiteOk X sts (suiteT X.K h) :=
  fun a oe cls d pn hz hf => ⟨fun pins s σ H D I ⟨C, hC, w⟩ => (hsu a oe cls d pn C hz hf hC).run pins s σ H D I w⟩
end
/-! ### in a suite: e.f -/
def mXf (C : Str) (xs : List Str) (a : Addr) (d : Option Addr) (f : Str) (me : ME) : ME := fun ρ A => (me ρ A).bind fun v A1 => match v with
  | .exv a' (some d') ns ds => if C ∈ xs ∧ a' = a ∧ some d' = d then (match (ns.zip ds).lookup f with | some x => .ok x A1 | none => .no) else .no
  | _ => .no
/-- a field's class facts -/
def XfF (K : PySem.W.Frag) (xs : List Str) (f : Str) : Prop := ∀ C ∈ xs, ∀ c, clsV K C = some c → ∃ ca, c = .ref ca ∧ XfC K ca ∧ PySem.W.findIn K (.ref ca) f = some none
theorem lookup_rel {K : PySem.W.Frag} {m : Mp} {H : Hp} {f : Str} : ∀ {gs : List (Str × V)} {ds : List D} {x : D}, RDs K m H ds (gs.map (·.2)) → ((gs.map (·.1)).zip ds).lookup f = some x → ∃ v, gs.lookup f = some v ∧ RD K m H x v
  | [], ds, x, r, e => by simp at e
  | (g, v) :: gs, ds, x, r, e => by
    cases ds with
    | nil => cases r
    | cons d ds =>
      cases r with
      | cons r rs =>
        simp only [List.map_cons, List.zip_cons_cons, List.lookup_cons] at e ⊢
        cases hb : (f == g) with
        | true => rw [hb] at e; cases e; exact ⟨v, rfl, r⟩
        | false => rw [hb] at e; exact lookup_rel rs e
section
variable {X : Cx} {W : WX} {a : Addr} {oe : Obj} {cls : Value} {d : Option Addr} {pn : List (Addr × Obj)} {e : Expr} {me : ME} {pos : Pos} {n C : Str} {xs : List Str}
theorem d_xf (F : XfF X.K xs n) (hC : clsV X.K C = some cls) (hz : Zc cls d oe) (hf : ∃ vs, oe.data = .fields vs) (he : DE (X.suite a ((a, oe) :: pn)) W e me) (hb : attributeBase e n X.env (eval e X.env) = eval e X.env := by rfl) :
    DE (X.suite a ((a, oe) :: pn)) W (.Attribute e n pos) (mXf C xs a d n me) := by
  refine ⟨fun pins s σ H Q I ⟨m, A, ρ, R, E, h⟩ => attr_of hb (thn (he.run pins s σ H (fun x H1 => ∃ m1 A1 v, Rel X.K m1 A1 H1 ∧ RD X.K m1 H1 v x ∧ Post X.K (RD X.K) W σ m1 H1 (match v with
    | .exv a' (some d') ns ds => if C ∈ xs ∧ a' = a ∧ some d' = d then (match (ns.zip ds).lookup n with | some x => .ok x A1 | none => .no) else .no
    | _ => .no) Q) I (tE.bind R E h fun m1 A1 v x H1 e1 R1 E1 r1 h1 => ⟨m1, A1, v, R1, r1, h1⟩)) fun u s1 hh => ?_)⟩
  obtain ⟨x, H1, I1, rx, m1, A1, v, R1, r1, h1⟩ := hh
  split at h1
  rotate_left
  · exact h1.elim
  rename_i a' d' ns ds
  split at h1
  rotate_left
  · exact h1.elim
  rename_i hcond
  obtain ⟨hx, rfl, rfl⟩ := hcond
  cases r1 with
  | @exv1 _ _ gs _ _ hH ho hn rs =>
    subst hn
    split at h1
    rotate_left
    · exact h1.elim
    rename_i y hy
    obtain ⟨w, hw, rw'⟩ := lookup_rel rs hy
    obtain ⟨ca, rfl, T, hno⟩ := F C hx cls hC
    obtain rfl : u = Value.ref a' := rx
    obtain ⟨ha, _⟩ := I1.pin (a', oe) (List.mem_append_left _ List.mem_cons_self)
    obtain ⟨vs, hd⟩ := hf
    have hxd : ObjOk X.prog X.w H1 s1.heap d' (.xd gs) := I1.hok d' _ hH
    obtain ⟨mA, hns, hr⟩ := hxd
    obtain ⟨od, ho', hl⟩ := lookIn_ns hns
    obtain ⟨u, hu, ru⟩ := RelO.some_of (v := w) (o := mA n) (by rw [← hw]; exact hr n)
    have J : PySem.W.InstAt s1.heap a' oe ca (some od) := by
      refine ⟨ha, hz.1, ?_, ?_⟩
      · unfold PySem.W.notCls
        rw [hd] <;> rfl
      · rw [hz.2]
        exact ho'
    have own := PySem.W.findObj_own T.hdC hno rfl (v := u) (by rw [hl, hu])
    exact HandSPX.exc_get I1.kIn J T.ga T.gg T.exC own (handed_of ru) ⟨w, H1, I1.tok _, ru, Post.here R1 rw' h1⟩
end
end DM
end
section
set_option maxHeartbeats 2000000
namespace DM
open PySem PySem.Spec PyProof.Rows L2 LamX
/-! ### a lambda, handed to a def and called there -/
abbrev LTag := Addr × Addr × L2.St
open Classical in
noncomputable def indepR (f : LTag → Res D) : Res D := if h : ∃ r, ∀ x, f x = r then Classical.choose h else .no
theorem indepR_eq {f : LTag → Res D} {r : Res D} (h : ∀ x, f x = r) : indepR f = r := by
  have h' : ∃ r, ∀ x, f x = r := ⟨r, h⟩
  unfold indepR
  rw [dif_pos h']
  exact (Classical.choose_spec h' (0, 0, [])).symm.trans (h (0, 0, []))
theorem indepR_at {f : LTag → Res D} (n : indepR f ≠ .no) (x : LTag) : f x = indepR f := by
  unfold indepR at n ⊢
  split
  · rename_i h
    exact Classical.choose_spec h x
  · rename_i h
    rw [dif_neg h] at n
    exact (n rfl).elim
section
variable {X : Cx} {pins : List (Addr × Obj)} {σ : L2.St} {H : Hp} {s : Shared} {m : Mp} {A : AH}
/-- the lambda is made -/
theorem lam_new {c P : Addr} {params : Arguments} {body : Expr} {scope : Scope} {pos : Pos} {E : Value → Shared → Prop} {Q : Value → Shared → Prop} (I : Inv X pins σ H s) (R : Rel X.K m A H) (TB : TabB X.base X.mg c P) (hcode : X.env.code = .ref c)
    {n : Nat} (hT : A[n]? = some (.tab P (X.env.qual ++ "<lambda>"))) (hdef : defaultsOf params X.env = ([], [])) (hfree : ∀ y ∈ scope.names, y.2 = .free → ∃ c, X.env.cells.lookup y.1 = some c)
    (h : ∀ (f c' : Addr) (pm ctv : Value) (H1 : Hp) (s' : Shared), Inv X pins σ H1 s' → Rel X.K m A H1 → Ext m H m H1 →
      s'.heap.get? f = some (PySem.W.kla_obj "<lambda>" (X.env.qual ++ "<lambda>") params body scope (cloFrom X.env.cells scope.names []) pm c' ctv) → H1 f = none → f ∉ frs X.stack → H1 c' = some (CodeO c' (X.env.qual ++ "<lambda>")) → Out m c' → Q (.ref f) s') :
    wpAny (model X.prog X.w) X.A (eval (.Lambda params body scope pos) X.env) Q E s := by
  obtain ⟨P', hP1, rfl, ps, hP, ht, ha⟩ := R.obj n _ hT
  have hPm : P' ∈ m.1 := List.mem_of_getElem? hP1
  refine PySem.W.kla_eval hdef ?_
  have bP : s.heap.BuiltinsAt X.mg P' := TB.bm.keeps I.bk
  have hP' : s.heap.get? P' = some { cls := .none, data := .fields ps } := I.hok P' _ hP
  have offs : ∀ f, s.heap.objs.size ≤ f → f ∉ frs X.stack := fun f hf z => by
    rcases List.mem_cons.mp (I.stkSub _ z) with e | e
    · have h1 := I.lt
      rw [← e] at h1
      exact Nat.lt_irrefl _ (Nat.lt_of_lt_of_le h1 hf)
    · exact I.nofs hf e
  cases hc : codeAmong pos ps.toList with
  | some cv =>
    obtain ⟨c', e, hco, hout⟩ := ha pos cv hc
    subst e
    refine PySem.W.kla_makeFunctionHit (mg := X.mg) (c := c) (P := P') (ps := ps) (closure_ok hfree) I.ok.glob (I.mod.glob.keeps I.bk) hcode (TB.code.keeps I.bk) hP' ht hc bP fun ctv h' tk hx hsz => ?_
    have I1 : Inv X pins σ H { s with heap := h'.push (PySem.W.kla_obj "<lambda>" (X.env.qual ++ "<lambda>") params body scope (cloFrom X.env.cells scope.names []) ((X.mg "__name__").getD .none) c' ctv), toks := tk } := I.kept fun b o e => Heap.get?_push_of_some _ (hx b o e)
    exact h h'.objs.size c' ((X.mg "__name__").getD .none) ctv H _ I1 R (Ext.refl m H) (Heap.get?_push_size _ rfl) (I.hok.fresh hsz) (offs _ hsz) hco hout
  | none =>
    refine PySem.W.kla_makeFunction (mg := X.mg) (c := c) (P := P') (ps := ps) (closure_ok hfree) I.ok.glob (I.mod.glob.keeps I.bk) hcode (TB.code.keeps I.bk) hP' ht hc TB.gP bP fun c' ctv h' tk hx hge hlt hrec htb => ?_
    obtain ⟨c2, oc, vs, t, e2, hoc, hd, hv⟩ := hrec
    cases e2
    have hsz : s.heap.objs.size ≤ h'.objs.size := Nat.le_trans hge (Nat.le_of_lt hlt)
    have nC : H c' = none := I.hok.fresh hge
    have outC := R.out nC
    have I1 := inv_table (t' := tk) (more := #[rawInt pos.line, rawInt pos.col, .ref c']) (h' := h'.push (PySem.W.kla_obj "<lambda>" (X.env.qual ++ "<lambda>") params body scope (cloFrom X.env.cells scope.names []) ((X.mg "__name__").getD .none) c' ctv)) I hP
      (fun b o hb e => Heap.get?_push_of_some _ (hx b o hb e)) (Heap.get?_push_of_some _ htb) hge ⟨oc, vs, t, Heap.get?_push_of_some _ hoc, hd, hv⟩
    have same : ∀ b o, H b = some o → b ≠ P' → upd (upd H P' (.tbl (ps ++ #[rawInt pos.line, rawInt pos.col, .ref c']))) c' (CodeO c' (X.env.qual ++ "<lambda>")) b = some o := fun b o e n => by
      rw [upd_ne (ne_of_none e nC), upd_ne n]; exact e
    have ext : Ext m H m (upd (upd H P' (.tbl (ps ++ #[rawInt pos.line, rawInt pos.col, .ref c']))) c' (CodeO c' (X.env.qual ++ "<lambda>"))) :=
      ⟨⟨[], (List.append_nil _).symm⟩, fun _ z => z, fun _ z => .inl z, fun _ z => .inl z, fun p o e n => same p o e fun z => n (by rw [z]; exact hPm)⟩
    have move : ∀ a o, H a = some o → Out m a → upd (upd H P' (.tbl (ps ++ #[rawInt pos.line, rawInt pos.col, .ref c']))) c' (CodeO c' (X.env.qual ++ "<lambda>")) a = some o ∧ Out m a := fun a o e n => ⟨same a o e fun z => n.1 (by rw [z]; exact hPm), n⟩
    have eL : (ps ++ #[rawInt pos.line, rawInt pos.col, .ref c']).toList = ps.toList ++ [rawInt pos.line, rawInt pos.col, .ref c'] := by simp
    have R1 : Rel X.K m A (upd (upd H P' (.tbl (ps ++ #[rawInt pos.line, rawInt pos.col, .ref c']))) c' (CodeO c' (X.env.qual ++ "<lambda>"))) := by
      refine ⟨R.len, R.nd, fun p hp z => ?_, fun k o hk => ?_⟩
      · cases hq : H p with
        | none => exact R.pv p hp hq
        | some u =>
          by_cases hb : p = P'
          · rw [hb, upd_ne (ne_of_none hP nC), upd_same] at z; cases z
          · rw [same p u hq hb] at z; cases z
      · obtain ⟨q, h1, h2⟩ := R.obj k o hk
        refine ⟨q, h1, ?_⟩
        by_cases hb : q = P'
        · have hkn : k = n := by
            obtain ⟨l1, e1⟩ := List.getElem?_eq_some_iff.mp h1
            obtain ⟨l2, e2⟩ := List.getElem?_eq_some_iff.mp hP1
            exact (List.getElem_inj R.nd).mp (e1.trans (hb.trans e2.symm))
          subst hkn
          rw [hT] at hk
          cases hk
          refine ⟨hb, _, by rw [upd_ne (ne_of_none hP nC), upd_same], by rw [eL]; exact PySem.TriplesOk_snoc _ _ _ _ ht, fun p' cv hcv => ?_⟩
          rw [eL] at hcv
          rcases among_app _ ht hcv with z | z
          · obtain ⟨c0, e1, e2, e3⟩ := ha p' cv z
            exact ⟨c0, e1, (move _ _ e2 e3).1, e3⟩
          · exact ⟨c', z, upd_same, outC⟩
        · refine h2.move (fun _ _ e => e) move ?_
          cases hq : H q with
          | none => exact absurd hq h2.held
          | some u => exact same q u hq hb
    refine h h'.objs.size c' ((X.mg "__name__").getD .none) ctv _ _ I1 R1 ext (Heap.get?_push_size _ rfl) ?_ (offs _ hsz) upd_same outC
    have n1 : h'.objs.size ≠ c' := Nat.ne_of_gt hlt
    have n2 : h'.objs.size ≠ P' := Nat.ne_of_gt (Nat.lt_of_lt_of_le (Heap.lt_size hP') hsz)
    rw [upd_ne n1, upd_ne n2]
    exact I.hok.fresh hsz
end
def mWork (x : LTag) (q : Str) (me : ME) (i : Nat) : ME := fun ρ A => match ρ[i]? with
  | some (some (.fnv f c q' σ ρ')) => open Classical in if f = x.1 ∧ c = x.2.1 ∧ σ = x.2.2 ∧ q' = q then me ρ' A else .no
  | _ => .no
section
variable {X : Cx} {pins : List (Addr × Obj)} {σ : L2.St} {H : Hp} {s : Shared}
/-- the lambda is called, in the def that got it -/
theorem d_work {Ng : List Str} {qg : Str} {sg : Scope} {g f c' : Addr} {cdg pm ctv : Value} {params : Arguments} {body : Expr} {scope : Scope} {k i : Nat} {a : Str} {pn : List (Addr × Obj)} {xe : Value → Shared → Prop} {W : WX} {Eg : XK} {me : ME} {p1 p2 : Pos}
    (I : Inv X pins σ H s) (L : LamS X.env.scope scope) (hf : s.heap.get? f = some (PySem.W.kla_obj "<lambda>" (X.env.qual ++ "<lambda>") params body scope (cloFrom X.env.cells scope.names []) pm c' ctv)) (hfn : H f = none) (hfr : f ∉ frs X.stack)
    (hbind : bindArgs (PySem.W.kla_fn "<lambda>" (X.env.qual ++ "<lambda>") params body scope (cloFrom X.env.cells scope.names []) pm (.ref c') ctv) ⟨[], []⟩ = pure [])
    (tk : Takes ((cxOf (L2.CX X.prog X.w) X.prog X.w X.K X.mg X.base Ng qg sg g cdg X.A X.stack s H Eg).tr pn xe) W) (hr : Room (k + 1) (X.A.deeper (envOfC qg sg s.heap.objs.size g cdg))) (gd : X.A.guards = some [])
    (hbody : ∀ (A : Around) (outer : List PySem.Env) (s : Shared) (H : Hp) (E : XK), Room k (A.deeper (lamEnv X scope s.heap.objs.size f c')) → (A.deeper (lamEnv X scope s.heap.objs.size f c')).guards = some [] → Takes (lamCx X A outer s H E scope f c') (fun c d _ H' => E c d H') →
      DE (lamCx X A outer s H E scope f c') (fun c d _ H' => E c d H') body me)
    (hN : Ng[i]? = some a) (hv : Vis sg a) (hd : (a == ("__debug__" : Str)) = false := by decide) (hcd : (a == ("__classdict__" : Str)) = false := by decide) :
    DE ((cxOf (L2.CX X.prog X.w) X.prog X.w X.K X.mg X.base Ng qg sg g cdg X.A X.stack s H Eg).tr pn xe) W (.Call (.Name a p1) [] [] p2) (mWork (f, c', σ) (X.env.qual ++ "<lambda>") me i) := by
  refine ⟨fun pinsZ sZ σZ HZ Q IZ ⟨m, AA, ρ, R, EE, h⟩ => ?_⟩
  unfold mWork at h
  split at h
  rotate_left
  · exact h.elim
  rename_i f' c'' q' σ' ρ' hρ
  split at h
  rotate_left
  · exact h.elim
  rename_i hh
  obtain ⟨rfl, rfl, rfl, rfl⟩ := hh
  obtain ⟨v, hs, rv⟩ := EE.2 i _ hρ
  cases rv with
  | fnv hc hout ro =>
  refine wpAny_Call_Name_kw (thn ((pe_var (pos := p1) (i := i) hN hv hd hcd).run pinsZ sZ σZ HZ (fun v H1 => v = .ref f' ∧ H1 = HZ) IZ ⟨.ref f', hs, rfl, rfl⟩) fun u s1 ⟨v, H1, I1, r1, q1⟩ => ?_)
  obtain ⟨ev, eH⟩ := q1
  subst ev
  rw [eH] at I1
  obtain rfl : u = Value.ref f' := r1
  have of1 := I1.base.keep f' _ hf hfn hfr (fun z => nomatch (show f' ∈ ([] : List Addr) from z))
  refine PySem.W.callWith_F0 ⟨_, _, _, _, of1⟩ ?_
  have un : Un (frs X.stack) [] H HZ s.heap s1.heap := I1.base
  obtain ⟨⟨oc, vs, t, hoc, hdc, hvc⟩, _, _⟩ := I1.hok c'' _ hc
  have run : codeAny (model X.prog X.w) (X.A.deeper (envOfC qg sg s.heap.objs.size g cdg)) (.call (.ref f') ⟨[], []⟩) (CR (L2.CX X.prog X.w) (envOfC qg sg s.heap.objs.size g cdg :: X.stack) X.prog X.w HZ s1 Q (WE W σZ)) s1 := by
    refine PySem.W.kla_callFunE hr.depth of1 rfl L.co L.gen rfl ⟨c'', oc, vs, t, rfl, hoc, hdc, hvc⟩ ?_
    rw [hbind]
    refine wpAny_pure (wpAny_newFunctionEnv (fun y hy => (L.own y hy).2) (fun y hy => absurd hy (by simp)) (fun h₁ hns hsb => ⟨I1.nolimit.fresh _ hsb, ?_⟩) L.kind)
    show codeAny _ _ (.expr body (lamEnv X scope s1.heap.objs.size f' c'')) _ _
    have J := lam_start2 (f := f') (c' := c'') (E := WE W σZ) (tk := s1.toks + ([] : List (Str × Value)).length) I L I1.env0 hr.hd un hns fun b o e => hsb.extBut b o (Nat.ne_of_lt (Heap.lt_size e)) (Heap.get?_push_of_some _ e)
    have want : tE X.K (fun c d _ H' => WE W σZ c d H') me σ' HZ Q := by
      refine ⟨m, AA, ρ', R, RDo.env ro, ?_⟩
      cases hr2 : me ρ' AA with
      | ok d A1 => rw [hr2] at h; exact h
      | exc C fs A1 => rw [hr2] at h; exact h
      | no => rw [hr2] at h; exact h
    refine PySem.W.kla_codeExpr (wpAny_mono ((hbody _ _ s1 HZ _ (hr.deeper _) gd (takes_of rfl rfl rfl rfl)).run [] _ _ HZ Q J want) (fun v s' hq => ?_) fun e s' hq => hq)
    obtain ⟨w', H', J', rv, q⟩ := hq
    exact ⟨w', H', J'.os, J'.bare, J'.base, J'.hok, rv, q⟩
  refine wpAny_call (codeAny_mono run fun r s' hq => ?_)
  cases r with
  | error e => exact passAt tk σZ pinsZ HZ s1 e s' I1 hq
  | ok fl =>
    cases fl with
    | ret u => exact I1.after hq
    | next => exact False.elim hq
    | brk => exact False.elim hq
    | cont => exact False.elim hq
/-- the def's part: N slots, its body's mirror over the lambda's call -/
noncomputable def mLam (n : Nat) (P : Addr) (q : Str) (N : Nat) (F : ME → MS) (me : ME) : ME := fun ρ A => match A[n]? with
  | some (.tab P' q') => open Classical in if P' = P ∧ q' = q then indepR fun x => mFun N (F (mWork x q me 0)) [.fnv x.1 x.2.1 q x.2.2 ρ] A else .no
  | _ => .no
/-- g(lambda: body) -/
theorem d_lam {W : WX} {F : ME → MS} {me : ME} {x qual a : Str} {st : Stmt} {g c P : Addr} {fd : FuncData} {n k N : Nat} {Ng : List Str} {params : Arguments} {body : Expr} {scope : Scope} {p lpos pos : Pos}
    (G : Fun X.K x qual st g fd) (hm : X.mg x = some (.ref g)) (hk : PySem.W.keepIn X.K (.ref g) = true) (hb : Binds X.K fd [a] []) (Sg : FnScope Ng [a] (defScope st)) (hr : Room (k + 2) X.A) (gd : X.A.guards = some []) (tk : Takes X W)
    (hF : ∀ (cdv : Value) (s : Shared) (H : Hp) (E : XK) (mw : ME), Takes (cxOf (L2.CX X.prog X.w) X.prog X.w X.K X.mg X.base Ng qual (defScope st) g cdv X.A X.stack s H E) (fun c d _ H' => E c d H') → Room (k + 1) (X.A.deeper (envOfC qual (defScope st) s.heap.objs.size g cdv)) →
      (∀ (W : WX) (pn : List (Addr × Obj)) (xe : Value → Shared → Prop) (p1 p2 : Pos), Takes ((cxOf (L2.CX X.prog X.w) X.prog X.w X.K X.mg X.base Ng qual (defScope st) g cdv X.A X.stack s H E).tr pn xe) W →
        DE ((cxOf (L2.CX X.prog X.w) X.prog X.w X.K X.mg X.base Ng qual (defScope st) g cdv X.A X.stack s H E).tr pn xe) W (.Call (.Name a p1) [] [] p2) mw) →
      DSs (cxOf (L2.CX X.prog X.w) X.prog X.w X.K X.mg X.base Ng qual (defScope st) g cdv X.A X.stack s H E) (fun c d _ H' => E c d H') (defBody st) (F mw))
    (TB : TabB X.base X.mg c P) (hcode : X.env.code = .ref c) (L : LamS X.env.scope scope) (hdef : defaultsOf params X.env = ([], []))
    (hbind : ∀ (q : Str) (cl : List (Str × Addr)) (pm cv ctv : Value), bindArgs (PySem.W.kla_fn "<lambda>" q params body scope cl pm cv ctv) ⟨[], []⟩ = pure [])
    (hbody : ∀ (A : Around) (outer : List PySem.Env) (s : Shared) (H : Hp) (E : XK) (f c' : Addr), Room k (A.deeper (lamEnv X scope s.heap.objs.size f c')) → (A.deeper (lamEnv X scope s.heap.objs.size f c')).guards = some [] → Takes (lamCx X A outer s H E scope f c') (fun c d _ H' => E c d H') →
      DE (lamCx X A outer s H E scope f c') (fun c d _ H' => E c d H') body me)
    (hNg : Ng[0]? = some a) (hva : Vis (defScope st) a) (hNn : Ng.length = N) (hg : Gl X x := by rfl) (hdb : (x == ("__debug__" : Str)) = false := by decide) (hd : (a == ("__debug__" : Str)) = false := by decide) (hcd : (a == ("__classdict__" : Str)) = false := by decide) :
    DE X W (.Call (.Name x p) [.Lambda params body scope lpos] [] pos) (mLam n P (X.env.qual ++ "<lambda>") N F me) := by
  refine ⟨fun pins s σ H Q I ⟨m, AA, ρ, R, EE, h⟩ => ?_⟩
  unfold mLam at h
  split at h
  rotate_left
  · exact h.elim
  rename_i P' q' hT
  split at h
  rotate_left
  · exact h.elim
  rename_i hpq
  obtain ⟨rfl, rfl⟩ := hpq
  obtain ⟨oc, od, kV, doc, pm0, an, cdv, ct, osl, rfl, lk, hcd0⟩ := G.ex
  refine wpAny_Call_Name_kw (ld_glob I hg hm ?_ hdb)
  refine PySem.W.callWith_K (h₀ := X.base) I.ok.mod.kin hk ?_ (by rfl) (by rfl)
  show wpAny _ _ (spliced ((false, eval (.Lambda params body scope lpos) X.env) :: backTo pos (starEach [] X.env))) _ _ s
  refine Calls.spliced_cons (lam_new I R TB hcode hT hdef (L.has I.ok) fun f c' pm' ctv H1 s' I1 R1 e1 hf hfn hfr hco hout => ?_)
  refine Calls.spliced_nil ⟨I1.kIn, ?_⟩
  have nn : indepR (fun x => mFun N (F (mWork x (X.env.qual ++ "<lambda>") me 0)) [.fnv x.1 x.2.1 (X.env.qual ++ "<lambda>") x.2.2 ρ] AA) ≠ .no := fun z => by
    rw [z] at h
    exact h.elim
  rw [← indepR_at nn (f, c', σ)] at h
  have h' := Post.mono e1 h
  have run : codeAny (model X.prog X.w) X.A (.call (.ref g) ⟨[.ref f], []⟩) (CR (L2.CX X.prog X.w) X.stack X.prog X.w H1 s' Q (WE W σ)) s' := by
    refine run_ofS (N := Ng) (ps := [a]) (us := [.ref f]) (vs := [.ref f]) lk hcd0 Sg hr I1.env0 (hb s' [.ref f] I1.kIn rfl) (.cons rfl .nil) rfl fun hr' => ?_
    have tk2 : Takes (cxOf (L2.CX X.prog X.w) X.prog X.w X.K X.mg X.base Ng qual (defScope st) g cdv X.A X.stack s' H1 (WE W σ)) (fun c d _ H' => WE W σ c d H') := takes_of rfl rfl rfl rfl
    have B := hF cdv s' H1 (WE W σ) (mWork (f, c', σ) (X.env.qual ++ "<lambda>") me 0) tk2 hr' fun W pn xe p1 p2 tk3 => d_work I1 L hf hfn hfr (hbind _ _ _ _ _) tk3 hr' gd (fun A outer s H E hr2 gd2 tk4 => hbody A outer s H E f c' hr2 gd2 tk4) hNg hva hd hcd
    refine ⟨_, B, m, AA, [some (.fnv f c' (X.env.qual ++ "<lambda>") σ ρ)] ++ List.replicate (Ng.length - 1) none, R1, ?_, ?_⟩
    · exact start_rel (N := Ng) (ds := [.fnv f c' (X.env.qual ++ "<lambda>") σ ρ]) (.cons (.fnv hco hout (REnv.toO (EE.mono e1))) .nil)
    · subst hNn
      unfold mFun at h'
      have e0 : ([D.fnv f c' (X.env.qual ++ "<lambda>") σ ρ].map some ++ List.replicate (Ng.length - [D.fnv f c' (X.env.qual ++ "<lambda>") σ ρ].length) none) = [some (.fnv f c' (X.env.qual ++ "<lambda>") σ ρ)] ++ List.replicate (Ng.length - 1) none := rfl
      rw [e0] at h'
      cases hz : F (mWork (f, c', σ) (X.env.qual ++ "<lambda>") me 0) ([some (.fnv f c' (X.env.qual ++ "<lambda>") σ ρ)] ++ List.replicate (Ng.length - 1) none) AA with
      | nx ρ1 A1 => rw [hz] at h'; exact fun m' H' σ' e2 R2 _ => h' m' H' .non e2 R2 .non
      | rt d A1 => rw [hz] at h'; exact fun m' H' v e2 R2 r2 => h' m' H' v e2 R2 r2
      | exc C fs ρ1 A1 => rw [hz] at h'; exact fun m' H' c dx σ' e2 R2 _ hc hx => h' m' H' c dx e2 R2 hc hx
      | bk ρ1 A1 => rw [hz] at h'; exact h'.elim
      | ct ρ1 A1 => rw [hz] at h'; exact h'.elim
      | no => rw [hz] at h'; exact h'.elim
  refine wpAny_call (codeAny_mono run fun r s2 hq => ?_)
  cases r with
  | error e => exact passAt tk σ pins H1 s' e s2 I1 hq
  | ok fl =>
    cases fl with
    | ret u => exact I1.after hq
    | next => exact False.elim hq
    | brk => exact False.elim hq
    | cont => exact False.elim hq
end
end DM
end
section
set_option maxHeartbeats 2000000
namespace DM
open PySem PySem.Spec PyProof.Rows L2
/-! ### tuple * number, any number -/
theorem tm_same (l : Addr) (items : Array Value) (n : Nat) (dd : Option Addr) (sl : Array (Option Value)) (x : Int) (u : Tok) (h0 : -(2 ^ 63) ≤ x ∧ x < 2 ^ 63) (h1 : (items.isEmpty || x == 1) = true) :
    Meets (Builtin.«tuple.__mul__» ⟨[.ref l, .int x u], []⟩) (fun _ R s => s.heap.get? l = some { cls := .type "tuple", dict := dd, data := .seq items n, slots := sl } ∧ R (.ok (.ret (Value.ref l))) s) :=
  .of_wp fun prog w A R s h => by
    obtain ⟨hp, g, d, tk, os⟩ := s
    obtain ⟨hl, h⟩ := h
    have f1 := AutoSeq1.idx_int
    have c0 : (decide (x < -(2 ^ 63)) || decide (x ≥ 2 ^ 63)) = false := by rw [decide_eq_false (by omega), decide_eq_false (by omega)]; rfl
    wp_walk using wpAny_loadPart' hl
    repeat (first
      | (refine wpAny_ite_false (decide_eq_false (by rw [c0]; exact Bool.false_ne_true)) ?_; wp_walk using wpAny_loadPart' hl)
      | (refine wpAny_ite_true (decide_eq_true h1) ?_; wp_walk using wpAny_loadPart' hl))
    exact ⟨_, rfl, h⟩
theorem tm_none (l : Addr) (items : Array Value) (n : Nat) (dd : Option Addr) (sl : Array (Option Value)) (x : Int) (u : Tok) (h0 : -(2 ^ 63) ≤ x) (h1 : (items.isEmpty || x == 1) = false) (h2 : x ≤ 0) :
    Meets (Builtin.«tuple.__mul__» ⟨[.ref l, .int x u], []⟩) (fun _ R s => s.heap.get? l = some { cls := .type "tuple", dict := dd, data := .seq items n, slots := sl } ∧
      R (.ok (.ret (Value.ref s.heap.objs.size))) { s with heap := s.heap.push { cls := Value.type "tuple", data := Data.seq #[] }, toks := s.toks }) :=
  .of_wp fun prog w A R s h => by
    obtain ⟨hp, g, d, tk, os⟩ := s
    obtain ⟨hl, h⟩ := h
    have f1 := AutoSeq1.idx_int
    have c0 : (decide (x < -(2 ^ 63)) || decide (x ≥ 2 ^ 63)) = false := by rw [decide_eq_false (by omega), decide_eq_false (by omega)]; rfl
    have c2 : (decide (x ≤ 0) || items.isEmpty) = true := by rw [decide_eq_true h2]; rfl
    wp_walk using wpAny_loadPart' hl
    repeat (first
      | (refine wpAny_ite_false (decide_eq_false (by rw [c0]; exact Bool.false_ne_true)) ?_; wp_walk using wpAny_loadPart' hl)
      | (refine wpAny_ite_false (decide_eq_false (by rw [h1]; exact Bool.false_ne_true)) ?_; wp_walk using wpAny_loadPart' hl)
      | (refine wpAny_ite_true (decide_eq_true c2) ?_; wp_walk using wpAny_loadPart' hl))
    exact ⟨_, rfl, h⟩
def rRepA (K : PySem.W.Frag) : R2 := fun x y H Q => ∃ l k xs, x = .ref l ∧ y = .int k ∧ SqT K H l xs ∧ -(2 ^ 63) ≤ k ∧ k < 2 ^ 63 ∧ xs.length * k.toNat ≤ sizeLine ∧ ((xs = [] ∨ k = 1) → Q (.ref l) H) ∧
  (¬ (xs = [] ∨ k = 1) → ∀ p, H p = none → Q (.ref p) (upd H p (.tup (List.replicate k.toNat xs).flatten)))
section
variable {X : Cx}
theorem op_repA : OpR X (binaryOp .Mult) (rRepA X.K) := by
  intro pins s σ H x y v u Q I rx ry h
  obtain ⟨l, k, xs, rfl, rfl, hT, k0, k1, hz, q1, q2⟩ := h
  cases rx
  obtain ⟨t, rfl⟩ := ry
  obtain ⟨its, r, ⟨⟨cls, dd, data, sl⟩, ho, hc, n, hd⟩, hs⟩ := I.tuple hT
  simp only at hc hd
  subst hc hd
  have hle : its.length = xs.length := r.length.symm
  have hie : its.toArray.isEmpty = decide (xs = []) := by
    cases xs with
    | nil => cases r; rfl
    | cons a b => cases r; rfl
  have main : ∀ {F : List Value → (Result → Shared → Prop) → Shared → Prop} , Meets (Builtin.«tuple.__mul__» ⟨[.ref l, .int k t], []⟩) (fun _ R s' => s'.heap.get? l = some { cls := .type "tuple", dict := dd, data := .seq its.toArray n, slots := sl } ∧ F [] R s') →
      F [] (fun r s' => match r with | .ok (.ret v) => EP X pins σ Q v s' | .ok _ => False | .error e => X.xe e s') s → wpAny (model X.prog X.w) X.A (binaryOp .Mult (.ref l) (.int k t)) (EP X pins σ Q) X.xe s := fun M hF =>
    wpAny_binaryOp_repeat_ref (T := "tuple") (U := "int") (by decide) ⟨_, ho, rfl⟩ (fun s' => typeIs_int s' k t) noFill_tuple_mul F.fills_int_mul F.slot_int_rmul repeat_tuple F.slot_int_index.lookup
      (call_meets F.slot_int_rmul (typeIs_int s k t) F.entry_int_rmul (F.args_int_rmul_2 _ _) (int_rmul_tuple k t l its.toArray n dd sl)
        ⟨ho, rfl, ⟨_, ho, rfl⟩, call_meets F.slot_tuple_mul ⟨_, ho, rfl⟩ F.entry_tuple_mul (F.args_tuple_mul_2 _ _) M ⟨ho, hF⟩⟩)
  have laid : ∀ {zs : List V} {ws : List Value}, Vals zs ws → zs.length ≤ sizeLine → (∀ p, H p = none → Q (.ref p) (upd H p (.tup zs))) → EP X pins σ Q (.ref s.heap.objs.size) { s with heap := s.heap.push { cls := .type "tuple", data := .seq ws.toArray }, toks := s.toks } := fun {zs ws} rz hl q =>
    ⟨.ref s.heap.objs.size, _, I.laid (t' := s.toks) (o := .tup zs) (fun b ob q => Heap.get?_push_of_some _ q) (Nat.le_refl _) ⟨hl, _, rz, IsTup.new _ _⟩, rfl, q _ (I.hok.fresh (Nat.le_refl _))⟩
  by_cases h1 : xs = [] ∨ k = 1
  · refine main (F := fun _ R s => R (.ok (.ret (.ref l))) s) (tm_same l its.toArray n dd sl k t ⟨k0, k1⟩ ?_) ⟨.ref l, H, I, rfl, q1 h1⟩
    rw [hie]
    rcases h1 with h1 | h1
    · rw [decide_eq_true h1]; rfl
    · rw [h1]; simp
  · have hne : xs ≠ [] := fun z => h1 (.inl z)
    have hk1 : k ≠ 1 := fun z => h1 (.inr z)
    have c1 : (its.toArray.isEmpty || k == 1) = false := by
      rw [hie, decide_eq_false hne, Bool.false_or]
      exact beq_eq_false_iff_ne.mpr hk1
    by_cases h2 : k ≤ 0
    · refine main (F := fun _ R s => R (.ok (.ret (Value.ref s.heap.objs.size))) { s with heap := s.heap.push { cls := Value.type "tuple", data := Data.seq #[] }, toks := s.toks }) (tm_none l its.toArray n dd sl k t k0 c1 h2) (laid (zs := []) (ws := []) .nil (Nat.zero_le _) fun p hp => ?_)
      have z := q2 h1 p hp
      have e0 : k.toNat = 0 := by omega
      rw [e0] at z
      exact z
    · have hxl : 1 ≤ xs.length := by
        cases xs with
        | nil => exact (hne rfl).elim
        | cons a b => simp
      have hn2 : k.toNat * 1 ≤ xs.length * k.toNat := by rw [Nat.mul_comm xs.length]; exact Nat.mul_le_mul (Nat.le_refl _) hxl
      rw [sizeLine_eq] at hz
      have em : ((its.toArray.size : Nat) : Int) * k = ((xs.length * k.toNat : Nat) : Int) := by
        rw [List.size_toArray, hle, Int.natCast_mul]
        congr 1
        omega
      have c2 : (decide (k ≤ 0) || its.toArray.isEmpty) = false := by rw [decide_eq_false h2, hie, decide_eq_false hne]; rfl
      have c0 : (decide (k < -(2 ^ 63)) || decide (k ≥ 2 ^ 63)) = false := by rw [decide_eq_false (by omega), decide_eq_false (by omega)]; rfl
      have c4 : Builtin.Tuple.tupleTooMany (((its.toArray.size : Nat) : Int) * k) = false := by
        unfold Builtin.Tuple.tupleTooMany
        rw [sizeLine_eq, em]
        exact decide_eq_false (by omega)
      have fl : (List.replicate k.toNat xs).flatten.length = xs.length * k.toNat := by rw [PyProof.Rows.lm_len_rep_flat, Nat.mul_comm]
      refine main (F := fun _ R s => R (.ok (.ret (Value.ref s.heap.objs.size))) { s with heap := s.heap.push { cls := Value.type "tuple", data := Data.seq (List.replicate k.toNat its).flatten.toArray }, toks := s.toks }) ?_ (laid (r.rep k.toNat) (by rw [fl, sizeLine_eq]; exact hz) (q2 h1))
      have M := tuple_mulW l its.toArray n dd sl k t c0 c1 c2 (by rw [em]; omega) c4 (by rw [size_rep, List.size_toArray, PyProof.Rows.lm_len_rep_flat, hle, Nat.mul_comm, sizeLine_eq]; exact hz)
      rw [size_rep] at M
      exact M
/-- a * b: ints; a tuple by a number -/
def fMulA : D → D → AH → Res D := fun d e A => match d, e with
  | .int i, .int j => if CMul i j then .ok (.int (i * j)) A else .no
  | .tup xs, .int k => if -(2 ^ 63) ≤ k ∧ k < 2 ^ 63 ∧ xs.length * k.toNat ≤ 16777216 then .ok (.tup (List.replicate k.toNat xs).flatten) A else .no
  | _, _ => .no
theorem fMulA_ok {K : PySem.W.Frag} : OpD K fMulA (fun x y H Q => rI CMul (fun i j => .int (i * j)) x y H Q ∨ rRepA K x y H Q) := by
  intro W σ m A H x y d e Q R hx hy h
  unfold fMulA at h
  split at h
  · cases hx; cases hy
    split at h
    · rename_i hc
      exact .inl ⟨_, _, rfl, rfl, hc, Post.here R (.int _) h⟩
    · exact h.elim
  · rename_i xs k
    have hx' := hx
    cases hx with
    | tup s r =>
      rename_i a vs
      cases hy
      split at h
      · rename_i hc
        refine .inr ⟨a, k, vs, rfl, rfl, s.sq, hc.1, hc.2.1, by rw [← r.length, sizeLine_eq]; exact hc.2.2, fun h1 => ?_, fun _ => tup_new R (RDs.rep r k.toNat) h⟩
        have e0 : (List.replicate k.toNat xs).flatten = xs := by
          rcases h1 with h1 | h1
          · have : xs = [] := List.eq_nil_of_length_eq_zero (by rw [r.length, h1]; rfl)
            subst this
            simp
          · subst h1
            simp
        rw [e0] at h
        exact Post.here R hx' h
      · exact h.elim
  · exact h.elim
end
section
variable {X : Cx} {W : WX} {a b : Expr} {ma mb : ME} {pos : Pos}
theorem d_mulA (ha : DE X W a ma) (hb : DE X W b mb) : DE X W (.BinOp a .Mult b pos) (mOp fMulA ma mb) := d_op (op_mul.or op_repA) fMulA_ok ha hb
end
end DM
end
section
set_option maxHeartbeats 2000000
namespace DM
open PySem PySem.Spec PyProof.Rows L2
/-! ### own error classes, what is known of them -/
structure ExcK (K : PySem.W.Frag) (n : Str) (c : Addr) : Prop where
  nm : clsV K n = some (.ref c)
  ec : ExcC K c
  ty : PySem.W.typeIn K (.ref c) = some (.type "type")
  kp : PySem.W.keepIn K (.ref c) = true
  self : PySem.W.subIn K (.ref c) (.ref c) = some true
theorem ExcK.xf {K : PySem.W.Frag} {n : Str} {c : Addr} (T : ExcK K n c) : XfC K c := ⟨T.ec.hg, T.ec.hk, T.ec.hs, T.ec.hd⟩
theorem ExcK.cls {K : PySem.W.Frag} {n : Str} {c : Addr} (T : ExcK K n c) : (PySem.W.clsIn K c).isSome = true := by
  obtain ⟨cd, hc, _⟩ := PySem.W.any_some T.ec.hd
  rw [hc]; rfl
theorem ExcK.exm {K : PySem.W.Frag} {n : Str} {c d : Addr} {b : Bool} (T : ExcK K n c) (h : PySem.W.subIn K (.ref d) (.ref c) = some b) : PySem.W.exmOne K (.ref d) (.ref c) = some b := PySem.W.exm_ref T.ec.hs T.ec.hd T.ty h
theorem ExcK.kit {K : PySem.W.Frag} {n : Str} {c d : Addr} {b : Bool} (T : ExcK K n c) (h : PySem.W.subIn K (.ref d) (.ref c) = some b) : PySem.W.kitOne K (.ref d) (.ref c) = some b := by
  unfold PySem.W.kitOne
  by_cases e : d = c
  · subst e
    rw [T.self] at h
    cases h
    rw [if_pos (by simp)]
  · rw [if_neg (by simpa using e)]
    show (if ((PySem.W.clsIn K c).isSome && PySem.W.typeIn K (.ref c) == some (.type "type")) = true then PySem.W.subIn K (.ref d) (.ref c) else none) = some b
    rw [if_pos (by rw [T.cls, T.ty]; rfl)]
    exact h
theorem clsV_inj {K : PySem.W.Frag} {n : Str} {c : Addr} {v : Value} (h : clsV K n = some (.ref c)) (h2 : clsV K n = some v) : v = .ref c := by
  rw [h] at h2; cases h2; rfl
/-- what is told of the raised classes, one after the other -/
def SubF (K : PySem.W.Frag) (cs : List Str) (t : Value) (b : Bool) : Prop := ∀ C ∈ cs, ∀ v, clsV K C = some v → ∃ c, v = .ref c ∧ ExcC K c ∧ PySem.W.subIn K (.ref c) t = some b
theorem subF_nil {K : PySem.W.Frag} {t : Value} {b : Bool} : SubF K [] t b := fun _ h => nomatch h
theorem subF_cons {K : PySem.W.Frag} {n : Str} {cs : List Str} {c : Addr} {t : Value} {b : Bool} (T : ExcK K n c) (h : PySem.W.subIn K (.ref c) t = some b) (r : SubF K cs t b) : SubF K (n :: cs) t b := fun C hC v hv => by
  rcases List.mem_cons.mp hC with rfl | hC
  · exact ⟨c, clsV_inj T.nm hv, T.ec, h⟩
  · exact r C hC v hv
theorem hdF_own {K : PySem.W.Frag} {h : HdM} {n : Str} {c : Addr} (T : ExcK K n c) (y : SubF K h.yes (.ref c) true) (z : SubF K h.nos (.ref c) false) : HdF K h (.ref c) where
  yes := fun C hC v hv => by
    obtain ⟨d, rfl, _, e⟩ := y C hC v hv
    exact T.exm e
  nos := fun C hC v hv => by
    obtain ⟨d, rfl, _, e⟩ := z C hC v hv
    exact T.exm e
theorem xfF_nil {K : PySem.W.Frag} {f : Str} : XfF K [] f := fun _ h => nomatch h
theorem xfF_cons {K : PySem.W.Frag} {n f : Str} {cs : List Str} {c : Addr} (T : ExcK K n c) (h : PySem.W.findIn K (.ref c) f = some none) (r : XfF K cs f) : XfF K (n :: cs) f := fun C hC v hv => by
  rcases List.mem_cons.mp hC with rfl | hC
  · exact ⟨c, clsV_inj T.nm hv, T.xf, h⟩
  · exact r C hC v hv
/-! ### isinstance of the exception in hand -/
def rIsG (K : PySem.W.Frag) (a D : Addr) (d : Option Addr) : List V → Hp → VK → Prop := fun xs H Q => ∃ (c : V) (cv : Value) (b : Bool), xs = [.ref a, c] ∧ (∀ u, RelV c u → u = cv) ∧ ExcC K D ∧ PySem.W.kitOne K (.ref D) cv = some b ∧ (∀ dd, d = some dd → H dd ≠ none) ∧ Q (.bl b) H
theorem call_isG {X : Cx} {a D : Addr} {oe : Obj} {d : Option Addr} {pn : List (Addr × Obj)} (hz : Zc (.ref D) d oe) (hf : ∃ vs, oe.data = .fields vs) : CallR (X.suite a ((a, oe) :: pn)) (.builtin "isinstance") (rIsG X.K a D d) := by
  intro pins s σ H xs us Q I r h
  obtain ⟨c, cv, b, rfl, hcv, C, e, hdd, q⟩ := h
  cases r with
  | cons rx rr =>
    cases rr with
    | cons rt rr =>
      cases rr
      cases rx
      have ec := hcv _ rt
      subst ec
      obtain ⟨hget, _⟩ := I.pin (a, oe) (List.mem_append.mpr (.inl List.mem_cons_self))
      obtain ⟨vs, hv⟩ := hf
      have hcl : (PySem.W.clsIn X.K D).isSome = true := by
        obtain ⟨cd, hc, _⟩ := PySem.W.any_some C.hd
        rw [hc]; rfl
      have J : ∃ od, PySem.W.InstAt s.heap a oe D od := by
        cases d with
        | none =>
          refine ⟨none, hget, hz.1, ?_, by rw [hz.2]; trivial⟩
          unfold PySem.W.notCls
          rw [hv] <;> rfl
        | some dd =>
          cases hH : H dd with
          | none => exact absurd hH (hdd dd rfl)
          | some u =>
            obtain ⟨o, ho⟩ := objOk_get (I.hok dd u hH)
            refine ⟨some o, hget, hz.1, ?_, by rw [hz.2]; exact ho⟩
            unfold PySem.W.notCls
            rw [hv] <;> rfl
      obtain ⟨od, J⟩ := J
      exact PySem.W.kia_one (PySem.W.kitx_exc hcl C.hg C.hk C.hs C.ha C.hn C.ht C.hm) I.kIn J e (fun z => nomatch z) fun tk => ⟨.bl b, H, I.kept (t' := tk) fun _ _ z => z, rfl, q⟩
/-- t: the class that is asked for, an own one or a built-in one -/
noncomputable def fIsx (C : Str) (yes nos : List Str) (t : D) (a : Addr) (d : Option Addr) : List D → AH → Res D := fun ds A => match ds with
  | [.exv a' d' _ _, t'] => open Classical in if a' = a ∧ d' = d ∧ t' = t then (if C ∈ yes then .ok (.bl true) A else if C ∈ nos then .ok (.bl false) A else .no) else .no
  | _ => .no
/-- the class's value -/
def ClsD (K : PySem.W.Frag) (t : D) (tv : Value) : Prop := (∃ n, t = .cl n ∧ clsV K n = some tv ∧ ∃ a, tv = .ref a) ∨ ∃ n, t = .ty n ∧ tv = .type n
theorem ClsD.val {K : PySem.W.Frag} {m : Mp} {H : Hp} {t : D} {tv : Value} {c : V} (h : ClsD K t tv) (r : RD K m H t c) (u : Value) (ru : RelV c u) : u = tv := by
  rcases h with ⟨n, rfl, h1, a, rfl⟩ | ⟨n, rfl, rfl⟩
  · cases r with
    | cl h2 => rw [h1] at h2; cases h2; exact ru
  · cases r
    exact ru
theorem fIsx_ok {K : PySem.W.Frag} {C : Str} {yes nos : List Str} {t : D} {tv cls : Value} {a D0 : Addr} {d : Option Addr} (ht : ClsD K t tv) (hC : clsV K C = some cls)
    (y : ∀ C ∈ yes, ∀ v, clsV K C = some v → ∃ c, v = .ref c ∧ ExcC K c ∧ PySem.W.kitOne K (.ref c) tv = some true) (z : ∀ C ∈ nos, ∀ v, clsV K C = some v → ∃ c, v = .ref c ∧ ExcC K c ∧ PySem.W.kitOne K (.ref c) tv = some false) (hD : cls = .ref D0) :
    CallD K (fIsx C yes nos t a d) (rIsG K a D0 d) := by
  intro W σ m A H xs ds Q R hx h
  unfold fIsx at h
  split at h
  rotate_left
  · exact h.elim
  rename_i a' d' ns es t'
  split at h
  rotate_left
  · exact h.elim
  rename_i hc
  obtain ⟨rfl, rfl, rfl⟩ := hc
  subst hD
  cases hx with
  | cons r1 r =>
    cases r with
    | cons r2 r =>
      cases r
      rename_i x c
      have x0 : x = .ref a' := by cases r1 <;> rfl
      subst x0
      have there : ∀ dd, d' = some dd → H dd ≠ none := fun dd e => by
        subst e
        cases r1 with
        | exv1 h1 _ _ _ => rw [h1]; exact fun z => nomatch z
      split at h
      · rename_i hy
        obtain ⟨c2, e, ec, k⟩ := y C hy _ hC
        cases e
        exact ⟨c, tv, true, rfl, fun u ru => ht.val r2 u ru, ec, k, there, Post.here R (.bl _) h⟩
      · split at h
        · rename_i hn
          obtain ⟨c2, e, ec, k⟩ := z C hn _ hC
          cases e
          exact ⟨c, tv, false, rfl, fun u ru => ht.val r2 u ru, ec, k, there, Post.here R (.bl _) h⟩
        · exact h.elim
section
variable {X : Cx} {W : WX} {a : Addr} {oe : Obj} {cls : Value} {d : Option Addr} {pn : List (Addr × Obj)} {e : Expr} {es : List Expr} {ms : MA} {p pos : Pos} {C : Str} {yes nos : List Str} {t : D} {tv : Value}
theorem d_isx (ht : ClsD X.K t tv) (y : SubF X.K yes tv true) (z : SubF X.K nos tv false) (kit : ∀ c b, PySem.W.subIn X.K (.ref c) tv = some b → PySem.W.kitOne X.K (.ref c) tv = some b) (hC : clsV X.K C = some cls) (hz : Zc cls d oe) (hf : ∃ vs, oe.data = .fields vs)
    (hm : X.mg "isinstance" = none) (ha : DA (X.suite a ((a, oe) :: pn)) W (e :: es) ms)
    (hg : Gl X "isinstance" := by rfl) (he : starEach (e :: es) X.env = (false, eval e X.env) :: starEach es X.env := by rfl) (hpl : (backTo pos (starEach es X.env)).any (·.1) = false := by rfl) :
    DE (X.suite a ((a, oe) :: pn)) W (.Call (.Name "isinstance" p) (e :: es) [] pos) (mCall (fIsx C yes nos t a d) ms) := by
  by_cases hin : C ∈ yes ∨ C ∈ nos
  · have hD : ∃ D0, cls = .ref D0 := by
      rcases hin with h | h
      · obtain ⟨c, e1, _⟩ := y C h _ hC; exact ⟨c, e1⟩
      · obtain ⟨c, e1, _⟩ := z C h _ hC; exact ⟨c, e1⟩
    obtain ⟨D0, rfl⟩ := hD
    have F : CallD X.K (fIsx C yes nos t a d) (rIsG X.K a D0 d) := fIsx_ok (cls := .ref D0) ht hC (fun C hC v hv => by
      obtain ⟨c, e1, e2, e3⟩ := y C hC v hv
      exact ⟨c, e1, e2, kit c true e3⟩) (fun C hC v hv => by
      obtain ⟨c, e1, e2, e3⟩ := z C hC v hv
      exact ⟨c, e1, e2, kit c false e3⟩) rfl
    exact d_callB (X := X.suite a ((a, oe) :: pn)) (call_isG hz hf) F hg hm (by decide +kernel) ha (by decide) (by decide) he hpl
  · have F : CallD X.K (fIsx C yes nos t a d) (fun _ _ _ => False) := fun W σ m A H xs ds Q R hx h => by
      unfold fIsx at h
      split at h
      · split at h
        · rw [if_neg fun z => hin (.inl z), if_neg fun z => hin (.inr z)] at h
          exact h
        · exact h
      · exact h
    exact d_callB (id := "isinstance") (X := X.suite a ((a, oe) :: pn)) (fun _ _ _ _ _ _ _ _ _ h => h.elim) F hg hm (by decide +kernel) ha (by decide) (by decide) he hpl
end
section
variable {X : Cx} {W : WX} {pos : Pos}
/-- an own class, by its name -/
theorem d_cl {x : Str} {c : Addr} (hc : clsV X.K x = some (.ref c)) (hm : X.mg x = some (.ref c)) (hg : Gl X x := by rfl) (hd : (x == ("__debug__" : Str)) = false := by decide) : DE X W (.Name x pos) (mK (.cl x)) :=
  PEi (pe_glob (v := .ref c) hg hm rfl hd) fun σ H Q ⟨m, A, ρ, R, E, h⟩ => Post.here R (.cl hc) h
/-- a built-in type, by its name -/
theorem d_ty {x : Str} {n : String} (hm : X.mg x = none) (hv : bootBuiltins x = some (.type n)) (hg : Gl X x := by rfl) (hn : x ≠ "__name__" := by decide) (hd : (x == ("__debug__" : Str)) = false := by decide) : DE X W (.Name x pos) (mK (.ty n)) :=
  PEi (pe_bltn (v := .ty n) hg hm hv rfl hn hd) fun σ H Q ⟨m, A, ρ, R, E, h⟩ => Post.here R (.ty n) h
end
/-! ### isinstance of a value -/
def tyName (A : AH) : D → Option String
  | .non => some "NoneType"
  | .bl _ => some "bool"
  | .int _ => some "int"
  | .str _ => some "str"
  | .tup _ => some "tuple"
  | .lst _ => some "list"
  | .ref n => match A[n]? with
    | some (.lst _) => some "list"
    | some (.dk _) => some "dict"
    | some (.dt _) => some "dict"
    | _ => none
  | _ => none
def tyNames : List String := ["NoneType", "bool", "int", "str", "tuple", "list", "dict"]
def isB (a b : String) : Bool := a == b || (a == "bool" && b == "int")
theorem kitB_ok : ∀ a ∈ tyNames, ∀ b ∈ tyNames, kitB a b = some (isB a b) := by decide +kernel
theorem tyName_in {A : AH} {d : D} {n : String} (h : tyName A d = some n) : n ∈ tyNames := by
  unfold tyName at h
  split at h <;> first | (cases h; decide) | (split at h <;> first | (cases h; decide) | cases h) | cases h
theorem tyName_ok {K : PySem.W.Frag} {m : Mp} {A : AH} {H : Hp} {d : D} {x : V} {n : String} (R : Rel K m A H) (r : RD K m H d x) (h : tyName A d = some n) : TyX K H x (.type n) := by
  unfold tyName at h
  split at h
  · cases h; cases r; exact .base .non
  · cases h; cases r; exact .base (.bl _)
  · cases h; cases r; exact .base (.int _)
  · cases h; cases r; exact .base (.str _)
  · cases h
    cases r with
    | tup s _ =>
      rcases s.sq with (e | ⟨o, e⟩) | ⟨o, its, k, e, c, _⟩
      · exact .base (.tup e)
      · exact .fTuple e
      · exact .kTuple e c
  · cases h
    cases r with
    | lst s _ =>
      rcases s.sq with (e | ⟨o, e⟩) | ⟨o, its, k, e, c, _⟩
      · exact .base (.lst e)
      · exact .base (.frz e)
      · exact .kList e c
  · cases r with
    | ref hm =>
      split at h
      · rename_i hA
        cases h
        obtain ⟨q, h1, vs, h2, _⟩ := R.obj _ _ hA
        rw [hm] at h1; cases h1
        exact .base (.lst h2)
      · rename_i hA
        cases h
        obtain ⟨q, h1, vs, ⟨h2, _⟩, _⟩ := R.obj _ _ hA
        rw [hm] at h1; cases h1
        exact .base (.dK h2)
      · rename_i hA
        cases h
        obtain ⟨q, h1, vs, ⟨h2, _⟩, _⟩ := R.obj _ _ hA
        rw [hm] at h1; cases h1
        exact .base (.dT h2)
      · cases h
  · cases h
def fIsi : List D → AH → Res D := fun ds A => match ds with
  | [x, .ty n] => (match tyName A x with
    | some t => if n ∈ tyNames then .ok (.bl (isB t n)) A else .no
    | none => .no)
  | _ => .no
theorem fIsi_ok {K : PySem.W.Frag} : CallD K fIsi (rIsi K) := by
  intro W σ m A H xs ds Q R hx h
  unfold fIsi at h
  split at h
  rotate_left
  · exact h.elim
  rename_i x n
  split at h
  rotate_left
  · exact h.elim
  rename_i t ht
  split at h
  rotate_left
  · exact h.elim
  rename_i hn
  cases hx with
  | cons r1 r =>
    cases r with
    | cons r2 r =>
      cases r
      cases r2
      exact ⟨_, _, _, _, _, rfl, .ty n, tyName_ok R r1 ht, kit_ty (kitB_ok t (tyName_in ht) n hn), Post.here R (.bl _) h⟩
theorem d_isi {X : Cx} {W : WX} {e : Expr} {es : List Expr} {ms : MA} {p pos : Pos} (hm : X.mg "isinstance" = none) (ha : DA X W (e :: es) ms)
    (hg : Gl X "isinstance" := by rfl) (he : starEach (e :: es) X.env = (false, eval e X.env) :: starEach es X.env := by rfl) (hpl : (backTo pos (starEach es X.env)).any (·.1) = false := by rfl) :
    DE X W (.Call (.Name "isinstance" p) (e :: es) [] pos) (mCall fIsi ms) := d_callB call_isi fIsi_ok hg hm (by decide +kernel) ha (by decide) (by decide) he hpl
end DM
end
section
set_option maxHeartbeats 2000000
namespace DM
open PySem PySem.Spec PyProof.Rows L2
/-! ### the facts of a text's top, gathered -/
abbrev lamQ (x : Str) : Str := x ++ ".<locals>." ++ "<lambda>"
def clsBody : Stmt → List Stmt
  | .ClassDef _ _ _ b _ _ _ _ _ _ _ => b
  | _ => []
abbrev methAt (st : Stmt) (i : Nat) : Stmt := (clsBody st).getD i (.Pass ⟨0, 0, 0, 0⟩)
theorem excK_mk {K : PySem.W.Frag} {n : Str} {c : Addr} (a : PySem.W.nsIn K mainGlobals n = some (some (.ref c))) (hg : PySem.W.findIn K (.ref c) "__getattribute__" = some (some (.builtin "BaseException.__getattribute__")))
    (hk : PySem.W.findIn K (.ref c) "__getattr__" = some none) (hs : PySem.W.subIn K (.ref c) (.type "BaseException") = some true) (hd : PySem.W.hasDictIn K c = true) (ha : PySem.W.findIn K (.ref c) "__class__" = some (some (.builtin "object.__class__")))
    (hn : PySem.W.specialIn K (.builtin "object.__class__") "__get__" = some (some (.builtin "getset_descriptor.__get__"))) (ht : PySem.W.takesIn K (.builtin "object.__class__") = some true) (hm : PySem.W.mroIn K c (.type "object") = some true)
    (ty : PySem.W.typeIn K (.ref c) = some (.type "type")) (kp : PySem.W.keepIn K (.ref c) = true) (self : PySem.W.subIn K (.ref c) (.ref c) = some true) : ExcK K n c :=
  ⟨by unfold clsV; rw [a]; rfl, ⟨hg, hk, hs, hd, ha, hn, ht, hm⟩, ty, kp, self⟩
theorem errC_mk {prog : Program} {K : PySem.W.Frag} {B newId initId : String} {bm : List Value} {C fI : Addr} {f x : Str} {st : Stmt} {nm q : Str} {N : Addr} {bs bm1 : List Value} {sn : List Str} {sub : List Value} {ab : Bool} {col : Option Bool} {dd : Option Addr} {k0 k1 k2 k3 k5 : Option Value}
    {oc dV kV doc pm ct ccl cl : Value} {od an cdd cld : Option Addr} {osl ccs csl : Array (Option Value)} {qual file : Str} {cda cc : Addr} {vs : Array Value} {tf : Tok} {p0 p1 p2 p3 p4 p5 p6 p7 p8 p9 : Pos} (base : ErE.Base B newId initId bm)
    (lk : K.lookup C = some (excClassObj nm q C N bs bm1 true sn sub ab col dd k0 k1 k2 k3 k5 newId)) (ln : ErE.Line bm bm1) (sa : PySem.W.findIn K (.ref C) "__setattr__" = some (some (.builtin "object.__setattr__"))) (ini : PySem.W.findIn K (.ref C) "__init__" = some (some (.ref fI)))
    (tI : PySem.W.typeIn K (.ref fI) = some (.type "function")) (fld : PySem.W.findIn K (.ref C) f = some none) (sup : PySem.W.ks_superIn K C C "__init__" = some (some (.builtin initId))) (subB : PySem.W.subIn K (.ref C) (.type B) = some true) (opq : PySem.W.nsIn K cStatics "thirdparty.any" = some none)
    (lI : K.lookup fI = some ⟨oc, od, .func (PySem.W.ksFn "__init__" qual (defArgs st) (defBody st) (defScope st) dV kV doc pm an (.ref cda) ct cc), osl⟩) (cI : PySem.W.codeIn K (.ref cda) qual = true)
    (lc : K.lookup cda = some ⟨ccl, cdd, .fields vs, ccs⟩) (v2 : vs[2]? = some (.str file tf)) (fe : ((prog.main.file : Str) == file) = true) (lce : K.lookup cc = some ⟨cl, cld, .cell (some (.ref C)), csl⟩)
    (top : (prog.main.scope.names.lookup ("super" : Str)).isSome = false)
    (hb : defBody st = [.Expr (.Call (.Attribute (.Call (.Name "super" p0) [] [] p1) "__init__" p2) [.Name x p3] [] p4) p5, .Assign [.Attribute (.Name "self" p6) f p7] (.Name x p8) p9])
    (sc : (decide ((defScope st).names.lookup ("super" : Str) = some .globalImplicit) && (decide ((defScope st).names.lookup ("__class__" : Str) = some .free) && (decide ((defScope st).names.lookup ("self" : Str) = some .local) && (decide ((defScope st).names.lookup x = some .local) &&
      (decide (x ≠ "self") && (decide ((x == ("__debug__" : Str)) = false) && ((defScope st).names.all (fun y => decide (y.2 ≠ .cell)) && (decide ((defScope st).kind = .function) && (decide ((defScope st).isCoroutine = false) && (decide ((defScope st).isGenerator = false) && (p2.endLine == p4.line))))))))))) = true)
    (hfirst : ((defArgs st).posonlyargs ++ (defArgs st).args).head?.map (·.arg) = some ("self" : Str))
    (bi : ∀ (qual : Str) (dV kV doc pm cdv ct : Value) (an : Option Addr) (cc : Addr) (s : Shared) (a b : Value), dV = .none → BindsTo s (PySem.W.ksFn "__init__" qual (defArgs st) (defBody st) (defScope st) dV kV doc pm an cdv ct cc) ⟨[a, b], []⟩ [("self", a), (x, b)]) (hdV : dV = .none) : ErE.ErrC prog K B newId initId bm C fI f := by
  simp only [Bool.and_eq_true, decide_eq_true_eq, List.all_eq_true] at sc
  obtain ⟨s1, s2, s3, s4, s5, s6, s7, s8, s9, s10, s11⟩ := sc
  have bi' := bi qual dV kV doc pm (.ref cda) ct an cc
  rw [hb] at lI bi'
  refine { base := base, cls := ⟨_, _, _, _, _, _, _, _, _, _, _, _, _, _, _, lk, ln⟩, sa := sa, ini := ini, tI := tI, fld := fld, sup := sup, subB := subB, opq := opq, top := top, fn := ?_ }
  exact ⟨_, _, _, _, _, _, _, _, _, _, _, _, _, _, _, _, _, _, _, _, _, _, _, _, _, lI, cI, ⟨_, _, _, _, _, _, lc, v2, fe⟩, ⟨_, _, _, lce⟩, s1, s2, s3, s4, s5, s6, s7, s8, s9, s10, s11, hfirst, fun s a b => bi' s a b hdV⟩
theorem tabIn_mk {K : PySem.W.Frag} {x : Str} {f c P : Addr} {oc : Value} {od : Option Addr} {fd : FuncData} {osl : Array (Option Value)} {ccl : Value} {cdd : Option Addr} {vs : Array Value} {ccs : Array (Option Value)} (a : PySem.W.nsIn K mainGlobals x = some (some (.ref f)))
    (l : K.lookup f = some ⟨oc, od, .func fd, osl⟩) (hc : fd.code = .ref c) (lc : K.lookup c = some ⟨ccl, cdd, .fields vs, ccs⟩) (v : vs[11]? = some (.ref P)) : PySem.W.tabIn K x = some (c, P) := by
  unfold PySem.W.tabIn
  rw [a]
  simp only [l, hc, lc, v]
end DM
end
section
set_option maxHeartbeats 2000000
namespace DM
open PySem PySem.Spec PyProof.Rows L2
/-! ### running the further mirrors -/
section
variable {ρ ρ1 : DM.Env} {A A1 : AH} {n N : Nat} {C f q : Str} {P : Addr} {d : D} {fs : List (Str × D)} {me mw : ME} {sa sb : MS} {F : ME → MS} {hs : List HdM} {h : HdM} {r : SRes} {x : LTag}
theorem ev_raise : mRaise C f me ρ A = lift (me ρ A) ρ fun d A1 => .exc C [(f, d)] ρ A1 := id rfl
theorem seq_exc (h : sa ρ A = .exc C fs ρ1 A1) : mSeq sa sb ρ A = .exc C fs ρ1 A1 := by unfold mSeq; rw [h]
theorem fun_exc {ds : List D} (h : sa (ds.map some ++ List.replicate (n - ds.length) none) A = .exc C fs ρ1 A1) : mFun n sa ds A = .exc C fs A1 := by unfold mFun; rw [h]
theorem fun_nx {ds : List D} (h : sa (ds.map some ++ List.replicate (n - ds.length) none) A = .nx ρ1 A1) : mFun n sa ds A = .ok .non A1 := by unfold mFun; rw [h]
theorem try_rt (h : sa ρ A = .rt d A1) : mTry sa hs ρ A = .rt d A1 := by unfold mTry; rw [h]
theorem try_nx (h : sa ρ A = .nx ρ1 A1) : mTry sa hs ρ A = .nx ρ1 A1 := by unfold mTry; rw [h]
theorem try_exc (h : sa ρ A = .exc C fs ρ1 A1) : mTry sa hs ρ A = excGo hs C fs ρ1 A1 := by unfold mTry; rw [h]
theorem exc_yes (hy : C ∈ h.yes) (hr : ∀ a d, goneM h.slot (h.suite C a (if fs = [] then none else some d) (enterM h.slot a (if fs = [] then none else some d) fs ρ) A) = r) : excGo (h :: hs) C fs ρ A = r := by
  unfold excGo
  rw [if_pos hy]
  exact indep_eq hr
theorem exc_no (hy : C ∉ h.yes) (hn : C ∈ h.nos) : excGo (h :: hs) C fs ρ A = excGo hs C fs ρ A := by
  conv => lhs; unfold excGo
  rw [if_neg hy, if_pos hn]
theorem work_at {σ : List (Option D)} : mWork x q me 0 (some (.fnv x.1 x.2.1 q x.2.2 ρ) :: σ) A = me ρ A := by
  unfold mWork
  exact if_pos ⟨rfl, rfl, rfl, rfl⟩
theorem lam_at {r : Res D} (hT : A[n]? = some (.tab P q)) (h : ∀ x : LTag, mFun N (F (mWork x q me 0)) [.fnv x.1 x.2.1 q x.2.2 ρ] A = r) : mLam n P q N F me ρ A = r := by
  unfold mLam
  rw [hT]
  exact (if_pos ⟨rfl, rfl⟩).trans (indepR_eq h)
theorem xf_at {xs : List Str} {a dd : Addr} {ns : List Str} {ds : List D} {y : D} (hm : me ρ A = .ok (.exv a (some dd) ns ds) A1) (hC : C ∈ xs) (hl : (ns.zip ds).lookup f = some y) : mXf C xs a (some dd) f me ρ A = .ok y A1 := by
  unfold mXf
  rw [hm, bind_ok]
  exact (if_pos ⟨hC, rfl, rfl⟩).trans (by rw [hl])
theorem isx_yes {yes nos : List Str} {t : D} {a : Addr} {dd : Option Addr} {ns : List Str} {ds : List D} (hC : C ∈ yes) : fIsx C yes nos t a dd [.exv a dd ns ds, t] A = .ok (.bl true) A := by
  unfold fIsx
  exact (if_pos ⟨rfl, rfl, rfl⟩).trans (if_pos hC)
theorem isx_no {yes nos : List Str} {t : D} {a : Addr} {dd : Option Addr} {ns : List Str} {ds : List D} (hC : C ∉ yes) (hn : C ∈ nos) : fIsx C yes nos t a dd [.exv a dd ns ds, t] A = .ok (.bl false) A := by
  unfold fIsx
  exact (if_pos ⟨rfl, rfl, rfl⟩).trans ((if_neg hC).trans (if_pos hn))
end
end DM
end
section
set_option maxHeartbeats 2000000
namespace DM
open PySem PySem.Spec PyProof.Rows L2
/-! ### defs that are called where an exception is handled, and let none out -/
abbrev XNo : XK := fun _ _ _ => False
structure FnH (P : Program) (w : World) (K : PySem.W.Frag) (mg : Str → Option Value) (base : Heap) (k : Nat) (f : Addr) (fd : FuncData) (ps : List Str) (mf : List D → AH → Res D) : Prop where
  run : ∀ (A : Around) (outer : List PySem.Env) (s : Shared) (H : Hp) (args : Args) (us : List Value) (vs : List V) (Q : VK) (p : Addr × Obj), L2H.RoomH k A → A.handled = some (.ref p.1) → A.guards = some [] → L2H.PinOk outer H s p → Env0 P w K mg base A outer s H → BindsTo s fd args (ps.zip us) → Vals vs us →
    spD K ps.length mf vs H Q XNo → codeAny (model P w) A (.call (.ref f) args) (CR (L2.CX P w) outer P w H s Q XNo) s
section
variable {P : Program} {w : World} {K : PySem.W.Frag} {mg : Str → Option Value} {base : Heap}
theorem FnH.of {x qual : Str} {st : Stmt} {f : Addr} {fd : FuncData} {N ps : List Str} {k : Nat} {ms : MS} (F : Fun K x qual st f fd) (S : FnScope N ps (defScope st))
    (hb : ∀ (cdv : Value), fd.code = cdv → ∀ (A : Around) (outer : List PySem.Env) (s : Shared) (H : Hp) (p : Addr × Obj), A.handled = some (.ref p.1) → L2H.RoomH k (A.deeper (envOfC qual (defScope st) s.heap.objs.size f cdv)) → (A.deeper (envOfC qual (defScope st) s.heap.objs.size f cdv)).guards = some [] →
      DSs (L2H.cxH (L2.CX P w) P w K mg base N qual (defScope st) f cdv A outer s H XNo p) WNo (defBody st) ms) {n : Nat} (hn : N.length = n := by rfl) : FnH P w K mg base (k + 1) f fd ps (mFun n ms) := by
  subst hn
  obtain ⟨oc, od, kV, doc, pm, an, cdv, ct, osl, rfl, lk, hcd⟩ := F.ex
  refine ⟨fun A outer s H args us vs Q p room hot gd pin en bi rel hsp => ?_⟩
  obtain ⟨hlen, m, AA, ds, R, rds, post⟩ := hsp
  have kin : K.In s.heap := en.mod.kin.keeps fun b o h => (en.bs b o h).1
  have nolim : s.heap.NoLimit := en.mod.nolimit.keeps fun b o h => (en.bs b o h).1
  have kinds : ∀ y ∈ ps.zip us, (defScope st).names.lookup y.1 = some .local ∨ ((defScope st).names.lookup y.1 = some .cell ∧ ((cellsFrom (s.heap.objs.size + 1) (defScope st).names []).lookup y.1).isSome = true) := by
    rintro ⟨n, v⟩ hy
    rcases S.par n (List.of_mem_zip hy).1 with z | z
    · exact .inl z
    · exact .inr ⟨z, PySem.W.cellsFrom_some _ _ _ (.inl z)⟩
  refine codeAny_call_function room.depth (kin _ _ lk) rfl S.co S.gen rfl (PySem.W.codeRec_of kin hcd) (bi _ _ _ _ (wpAny_newFunctionEnv_cells S.kind kinds fun env henv s1 hx => ?_))
  subst henv
  refine ⟨nolim.keeps hx.toInCall.keep, codeAny_func ?_⟩
  have body := hb cdv rfl A outer s H p hot (room.deeper _) gd
  have I := L2H.inv_startH (CX := L2.CX P w) (E := XNo) S pin en hlen rel hx
  have want : tS K WNo ms { nx := fun _ H' => Q .non H', rt := Q } (L2.start N vs) H := by
    refine ⟨m, AA, _, R, start_rel (N := N) rds, ?_⟩
    unfold mFun at post
    cases hr : ms (ds.map some ++ List.replicate (N.length - ds.length) none) AA with
    | nx ρ1 A1 => rw [hr] at post; exact fun m' H' σ' e1 R1 _ => post m' H' .non e1 R1 .non
    | rt d A1 => rw [hr] at post; exact fun m' H' v e1 R1 r1 => post m' H' v e1 R1 r1
    | exc C fs ρ1 A1 => rw [hr] at post; exact fun m' H' c dx σ' e1 R1 _ hc hx => post m' H' c dx e1 R1 hc hx
    | bk ρ1 A1 => rw [hr] at post; exact post.elim
    | ct ρ1 A1 => rw [hr] at post; exact post.elim
    | no => rw [hr] at post; exact post.elim
  have back : ∀ {σ' : L2.St} {H' : Hp} {v : V} {u : Value} {s' : Shared}, Inv (L2H.cxH (L2.CX P w) P w K mg base N qual (defScope st) f cdv A outer s H XNo p) [] σ' H' s' → RelV v u → Q v H' → CE outer P w H s Q u s' :=
    fun J ru q => ⟨_, _, J.os, J.bare, J.base, J.hok, ru, q⟩
  refine wpAny_mono (body.run [] s1 (L2.start N vs) H _ I want) (fun fl s' z => ?_) fun _ _ z => z
  cases fl with
  | next =>
    obtain ⟨_, _, J, q⟩ := z
    exact back (v := V.non) (u := Value.none) J rfl q
  | ret u =>
    obtain ⟨_, _, _, J, ru, q⟩ := z
    exact back J ru q
  | brk =>
    obtain ⟨_, _, _, q⟩ := z
    exact q.elim
  | cont =>
    obtain ⟨_, _, _, q⟩ := z
    exact q.elim
end
section
variable {X : Cx} {k : Nat} {f : Addr} {fd : FuncData} {ps ks : List Str} {mf : List D → AH → Res D} {x : Str} {p pos kpos : Pos} {e : Expr} {es : List Expr} {ms mk : MA} {me : ME}
/-- the context bears the exception that is handled -/
def HotD (X : Cx) : Prop := ∃ p : Addr × Obj, X.A.handled = some (.ref p.1) ∧ p ∈ X.pn
theorem hot_suite {X : Cx} {a : Addr} {oe : Obj} {pn : List (Addr × Obj)} : HotD (X.suite a ((a, oe) :: pn)) := ⟨(a, oe), rfl, List.mem_cons_self⟩
theorem run_H {pins : List (Addr × Obj)} {σ : L2.St} {H : Hp} {s : Shared} {Q : VK} {us : List Value} {vs : List V} {args : Args} (F : FnH X.prog X.w X.K X.mg X.base k f fd ps mf) (hr : L2H.RoomH k X.A) (hot : HotD X) (gd : X.A.guards = some []) (hstk : X.stack = X.env :: X.outer)
    (I : Inv X pins σ H s) (bi : BindsTo s fd args (ps.zip us)) (r : Vals vs us) (h : spD X.K ps.length mf vs H Q XNo) : codeAny (model X.prog X.w) X.A (.call (.ref f) args) (fun r s' => match r with
      | .ok (.ret u) => EP X pins σ Q u s'
      | .ok _ => False
      | .error z => X.xe z s') s := by
  obtain ⟨p, hh, hp⟩ := hot
  have P1 := I.pin p (List.mem_append_left _ hp)
  have pin : L2H.PinOk X.stack H s p := ⟨P1.1, P1.2.1, fun hm => (List.mem_cons.mp (I.stkSub p.1 hm)).elim P1.2.2.1 P1.2.2.2.1, P1.2.2.2.2⟩
  refine codeAny_mono (F.run X.A X.stack s H args us vs Q p hr hh gd pin I.env0 bi r h) fun r s' hq => ?_
  cases r with
  | error z =>
    obtain ⟨_, _, _, _, _, _, _, _, _, _, _, _, hq⟩ := hq
    exact hq.elim
  | ok fl =>
    cases fl with
    | ret u => exact I.after hq
    | next => exact hq
    | brk => exact hq
    | cont => exact hq
theorem spH_of {K : PySem.W.Frag} {W : WX} {n : Nat} {m : Mp} {A : AH} {H : Hp} {σ : L2.St} {ds : List D} {vs : List V} {Q : VK} (hW : ∀ c d σ H, ¬ W c d σ H) (R : Rel K m A H) (r : RDs K m H ds vs) (h : Post K (RD K) W σ m H (if ds.length = n then mf ds A else .no) Q) : spD K n mf vs H Q XNo := by
  split at h
  · rename_i hl
    exact ⟨by rw [← r.length]; exact hl, m, A, ds, R, r, by
      cases hz : mf ds A with
      | ok d A2 => rw [hz] at h; exact h
      | exc C fs A2 => rw [hz] at h; exact fun m' H' c dx e1 R1 hc hx => hW _ _ _ _ (h m' H' c dx e1 R1 hc hx)
      | no => rw [hz] at h; exact h⟩
  · exact h.elim
/-- f(a, ..) in an except suite -/
theorem d_callH (F : FnH X.prog X.w X.K X.mg X.base k f fd ps mf) (hr : L2H.RoomH k X.A) (hot : HotD X) (gd : X.A.guards = some []) (hstk : X.stack = X.env :: X.outer) (hm : X.mg x = some (.ref f)) (hk : PySem.W.keepIn X.K (.ref f) = true) (hb : Binds X.K fd ps []) (ha : DA X WNo (e :: es) ms) {n : Nat} (hn : ps.length = n := by rfl)
    (hg : Gl X x := by rfl) (hdb : (x == ("__debug__" : Str)) = false := by decide) (he : starEach (e :: es) X.env = (false, eval e X.env) :: starEach es X.env := by rfl) (hpl : (backTo pos (starEach es X.env)).any (·.1) = false := by rfl) :
    DE X WNo (.Call (.Name x p) (e :: es) [] pos) (mCallF n mf ms) := by
  subst hn
  refine ⟨fun pins s σ H Q I ⟨m, A, ρ, R, E, h⟩ => wpAny_Call_Name_kw (ld_glob I hg hm (PySem.W.callWith_K (h₀ := X.base) I.ok.mod.kin hk (thn (ha.run pos pins s σ H _ I (tA.bind (T := fun vs H1 => spD X.K ps.length mf vs H1 Q XNo) R E h fun m1 A1 ds vs H1 e1 R1 E1 r1 h1 => spH_of (fun _ _ _ _ z => z) R1 r1 h1)) fun us s1 ⟨vs, H1, I1, r, q⟩ => ⟨I1.kIn, call_D ?_⟩) he hpl) hdb)⟩
  have b := hb s1 us I1.kIn (by rw [List.append_nil, ← r.length]; exact q.1)
  rw [List.append_nil] at b
  exact run_H F hr hot gd hstk I1 b r q
end
/-! ### built-in classes: isinstance, except -/
section
variable {K : PySem.W.Frag} {T : String} {c : Addr} {b : Bool}
theorem kitC_ty (hm : PySem.W.kitMeta T = true) (h : PySem.W.subIn K (.ref c) (.type T) = some b) : PySem.W.kitOne K (.ref c) (.type T) = some b := by
  unfold PySem.W.kitOne
  rw [if_neg (by intro z; cases z)]
  show (if PySem.W.kitMeta T = true then PySem.W.subIn K (.ref c) (.type T) else none) = some b
  rw [if_pos hm]
  exact h
theorem hdF_ty {h : HdM} (hm : PySem.W.kitMeta T = true) (hb : PySem.W.subIn K (.type T) (.type "BaseException") = some true) (y : SubF K h.yes (.type T) true) (z : SubF K h.nos (.type T) false) : HdF K h (.type T) := by
  have go : ∀ {c : Addr} {b : Bool}, PySem.W.subIn K (.ref c) (.type T) = some b → PySem.W.exmOne K (.ref c) (.type T) = some b := fun {c b} e => by
    unfold PySem.W.exmOne
    rw [hb, if_pos (by decide)]
    show (if PySem.W.kitMeta T = true then PySem.W.subIn K (.ref c) (.type T) else none) = some b
    rw [if_pos hm]
    exact e
  refine ⟨fun C hC v hv => ?_, fun C hC v hv => ?_⟩
  · obtain ⟨d, rfl, _, e⟩ := y C hC v hv
    exact go e
  · obtain ⟨d, rfl, _, e⟩ := z C hC v hv
    exact go e
end
end DM
end
section
set_option maxHeartbeats 2000000
namespace DM
open PySem PySem.Spec PyProof.Rows L2
/-! ### zip of a list or tuple and another one -/
/-- tp: a tuple -/
def SqK (tp : Bool) (K : PySem.W.Frag) (H : Hp) (a : Addr) (xs : List V) : Prop := if tp = true then SqT K H a xs else SqL K H a xs
def IterAt (tp : Bool) (h : Heap) (it a : Addr) (i : Nat) : Prop := if tp = true then h.IsTupleIter it a i else h.IsListIter it a i
def ContAt (tp : Bool) (h : Heap) (a : Addr) (xs : Array Value) : Prop := if tp = true then h.IsTuple a xs else h.IsList a xs
def itObj (tp : Bool) (a : Addr) : Obj := if tp = true then { cls := .type "tuple_iterator", data := .fields #[.ref a, .int 0 0] } else { cls := .type "list_iterator", data := .fields #[.ref a, .int 0 0] }
theorem drawsK (tp : Bool) {prog : Program} {w : World} {A : Around} (hh : A.handled = none) (it l : Addr) (hne : l ≠ it) (items : Array Value) :
    Draws prog w A it [it, l] items.size (fun i v => items[i]? = some v) (fun i h => IterAt tp h it l i ∧ ContAt tp h l items) := by
  cases tp with
  | false => exact Draws.list hh it l hne items
  | true => exact Draws.tuple hh it l hne items
theorem drawsX (tp : Bool) {prog : Program} {w : World} {A : Around} (hh : A.handled = none) (it l : Addr) (hne : l ≠ it) (items : Array Value) (i : Nat) :
    ∃ n P St, Draws prog w A it [it, l] n P St ∧ i ≤ n ∧ (items.size ≤ i → i = n) ∧ ∀ h, IterAt tp h it l i → ContAt tp h l items → St i h := by
  by_cases hi : items.size ≤ i
  · refine ⟨i, fun _ _ => True, fun j h => j = i ∧ IterAt tp h it l i ∧ ContAt tp h l items, ?_, Nat.le_refl _, fun _ => rfl, fun h a b => ⟨rfl, a, b⟩⟩
    have D := drawsK tp (prog := prog) (w := w) hh it l hne items
    refine ⟨fun j h st => D.live i h st.2, fun j h h' st k => ⟨st.1, D.frame i h h' st.2 k⟩, fun j s Q E hj st => by have := st.1; omega, fun s Q E st hE => ?_⟩
    have hx : items[i]? = none := Array.getElem?_eq_none hi
    cases tp with
    | false => exact wpAny_nextOf_list_end hh st.2.1 st.2.2 hx hE
    | true => exact RZ.nextOf_tuple_end hh st.2.1 st.2.2 hx hE
  · exact ⟨_, _, _, drawsK tp hh it l hne items, by omega, fun z => (hi z).elim, fun h a b => ⟨a, b⟩⟩
theorem beginsK (tp : Bool) (a : Addr) (items : Array Value) : Begins (.ref a) (itObj tp a) fun h => ContAt tp h a items := by
  cases tp with
  | false => exact begins_list a items
  | true => exact begins_tuple a items
theorem inv_sqk {X : Cx} {pins : List (Addr × Obj)} {σ : L2.St} {H : Hp} {s : Shared} {tp : Bool} {a : Addr} {xs : List V} (I : Inv X pins σ H s) (h : SqK tp X.K H a xs) : ∃ its : List Value, Vals xs its ∧ ContAt tp s.heap a its.toArray ∧ a < s.heap.objs.size := by
  cases tp with
  | false =>
    obtain ⟨its, rv, p, _⟩ := I.list h
    exact ⟨its, rv, p.isList, p.lt⟩
  | true =>
    obtain ⟨its, rv, p, _⟩ := I.tuple h
    obtain ⟨o1, ho1, _⟩ := id p
    exact ⟨its, rv, p, Heap.lt_size ho1⟩
theorem sqk_inj {X : Cx} {pins : List (Addr × Obj)} {σ : L2.St} {H : Hp} {s : Shared} {tp : Bool} {a : Addr} {xs ys : List V} (I : Inv X pins σ H s) (h : SqK tp X.K H a xs) (h' : SqK tp X.K H a ys) : xs = ys := by
  cases tp with
  | false => exact I.list_inj h h'
  | true => exact I.tuple_inj h h'
theorem iterAt_obj {tp : Bool} {h : Heap} {it a : Addr} {i : Nat} (x : IterAt tp h it a i) : ∃ o, h.get? it = some o ∧ ∀ v, o.data ≠ .cell v := by
  cases tp with
  | false => obtain ⟨o, e, _, d⟩ := x; exact ⟨o, e, fun v q => by rw [d] at q; cases q⟩
  | true => obtain ⟨o, e, _, d⟩ := x; exact ⟨o, e, fun v q => by rw [d] at q; cases q⟩
theorem IterAt.keep {tp : Bool} {h h' : Heap} {it a : Addr} {i : Nat} (x : IterAt tp h it a i) (k : ∀ o, h.get? it = some o → h'.get? it = some o) : IterAt tp h' it a i := by
  cases tp with
  | false => exact Heap.IsListIter.at x k
  | true => exact Heap.IsTupleIter.at x k
def ItzK (tp tq : Bool) (K : PySem.W.Frag) (a b : Addr) : It :=
  ⟨fun i H => ∃ (xs ys : List V) (x y : V), SqK tp K H a xs ∧ SqK tq K H b ys ∧ xs[i]? = some x ∧ ys[i]? = some y,
    fun i H v H' => ∃ T x y, v = .ref T ∧ H T = none ∧ H' = upd H T (.tup [x, y]) ∧ (∀ xs, SqK tp K H a xs → xs[i]? = some x) ∧ ∀ ys, SqK tq K H b ys → ys[i]? = some y,
    fun i H => ∃ xs ys : List V, SqK tp K H a xs ∧ SqK tq K H b ys ∧ (xs.length ≤ i ∨ ys.length ≤ i)⟩
theorem apart_sep {z TI TO i1 i2 a b : Addr} (D : ZipApart z TI TO i1 i2 a b) : ZipSep2 z TI TO i1 i2 [i1, a] [i2, b] where
  TIz := D.TIz
  TOz := D.TOz
  TITO := D.TITO
  TIi1 := D.TIi1
  mem1 := by simp
  zf1 := by simp; exact ⟨fun e => D.i1z e.symm, fun e => D.l1z e.symm⟩
  Tf1 := by simp; exact ⟨D.TOi1, fun e => D.l1TO e.symm⟩
  TIi2 := D.TIi2
  mem2 := by simp
  zf2 := by simp; exact ⟨fun e => D.i2z e.symm, fun e => D.l2z e.symm⟩
  Tf2 := by simp; exact ⟨D.TOi2, fun e => D.l2TO e.symm⟩
  sep1_2 := by simp; exact ⟨D.i12, fun e => D.l2i1 e.symm⟩
  sep2_1 := by simp; exact ⟨fun e => D.i12 e.symm, fun e => D.l1i2 e.symm⟩
theorem turn_zipK {tp tq : Bool} {P : Program} {w : World} {K : PySem.W.Frag} {elts : List Expr} {kk : Nat} {tpos : Pos} {a b z TI TO i1 i2 : Addr} (D : ZipApart z TI TO i1 i2 a b) :
    Turn P w K (.Tuple elts kk tpos) (ItzK tp tq K a b) [z, TI, TO, i1, i2] z (fun i h => IsZip h z TI TO .none ∧ IsPair h TI (.ref i1) (.ref i2) ∧ (∃ x y, IsPair h TO x y) ∧ IterAt tp h i1 a i ∧ IterAt tq h i2 b i) where
  mem := by simp
  obj := fun i h st c hc => by
    obtain ⟨hz, hTI, ⟨x, y, hTO⟩, h1, h2⟩ := st
    have e' : c = z ∨ c = TI ∨ c = TO ∨ c = i1 ∨ c = i2 := by simpa using hc
    rcases e' with q | q | q | q | q
    · rw [q]; exact ⟨_, hz, fun v q => nomatch q⟩
    · rw [q]; exact ⟨_, hTI, fun v q => nomatch q⟩
    · rw [q]; exact ⟨_, hTO, fun v q => nomatch q⟩
    · rw [q]; exact iterAt_obj h1
    · rw [q]; exact iterAt_obj h2
  keep := fun i h h' st k => by
    obtain ⟨hz, hTI, ⟨x, y, hTO⟩, h1, h2⟩ := st
    exact ⟨k z (by simp) _ hz, k TI (by simp) _ hTI, ⟨x, y, k TO (by simp) _ hTO⟩, h1.keep fun o q => k i1 (by simp) o q, h2.keep fun o q => k i2 (by simp) o q⟩
  item := by
    intro X hP hw hK hc i pins s σ H E I hf st hg
    subst hP hw hK
    obtain ⟨hz, hTI, ⟨x0, y0, hTO⟩, h1, h2⟩ := st
    obtain ⟨xs, ys, x, y, hqx, hqy, hx, hy⟩ := hg
    obtain ⟨its, rv, p, _⟩ := inv_sqk I hqx
    obtain ⟨its2, rv2, p2, _⟩ := inv_sqk I hqy
    obtain ⟨u, hu, ru⟩ := rv.get hx
    obtain ⟨u2, hu2, ru2⟩ := rv2.get hy
    have hzl : z < s.heap.objs.size := Heap.lt_size hz
    have hh : X.A.in1.handled = none := I.ok.hd hc
    refine wpAny_pyNext_zipD2_item (i := i) (apart_sep D) (drawsK tp hh i1 a D.l1i1 its.toArray) (drawsK tq hh i2 b D.l2i2 its2.toArray) hz hTI hTO ⟨h1, p⟩ ⟨h2, p2⟩
      (by have := (List.getElem?_eq_some_iff.mp hu).1; simpa using this) (by have := (List.getElem?_eq_some_iff.mp hu2).1; simpa using this) fun v1 v2 h' tk e1 e2 z' TO' s1' s2' hT hsz hk => ?_
    have q1 : v1 = u := by simpa [hu] using e1.symm
    have q2 : v2 = u2 := by simpa [hu2] using e2.symm
    subst q1 q2
    refine ⟨_, rfl, wpAny_letOwnedTupleGo_zip (s := { s with heap := h', toks := tk }) z' fun h'' z'' sb => ?_⟩
    have hT2 : h''.get? s.heap.objs.size = some { cls := .type "tuple", data := .seq #[v1, v2] } := (sb.2 _ (Nat.ne_of_gt hzl)).trans hT
    have new : ObjOk X.prog X.w (upd H s.heap.objs.size (.tup [x, y])) h'' s.heap.objs.size (.tup [x, y]) :=
      ⟨by show 2 ≤ sizeLine; decide, [v1, v2], .cons ru (.cons ru2 .nil), ⟨_, hT2, rfl, _, rfl⟩⟩
    have I1 : Inv X pins σ (upd H s.heap.objs.size (.tup [x, y])) { s with heap := h'', toks := tk } :=
      I.turnedNew (t' := tk) (ch := [z, TI, TO, i1, i2]) (fun c o hb q => (sb.2 c (fun q' => hb (by simp [q']))).trans (hk c o (fun q' => hb (by simp [q'])) (fun q' => hb (by simp [q'])) (fun q' => hb (by simp [q'])) (fun q' => hb (by simp [q'])) q)) hf (Nat.le_refl _) new
    refine ⟨.ref s.heap.objs.size, _, I1, rfl, ⟨_, x, y, rfl, I.hok.fresh (Nat.le_refl _), rfl, fun l hl => by rw [sqk_inj I hl hqx]; exact hx, fun l hl => by rw [sqk_inj I hl hqy]; exact hy⟩, ⟨z'', ?_, ⟨v1, v2, ?_⟩, ?_, ?_⟩, fun c hcm => ?_⟩
    · exact (sb.2 _ D.TIz).trans (hk _ _ D.TIz D.TITO D.TIi1 D.TIi2 hTI)
    · exact (sb.2 _ D.TOz).trans TO'
    · exact s1'.1.keep fun o q => (sb.2 _ D.i1z).trans q
    · exact s2'.1.keep fun o q => (sb.2 _ D.i2z).trans q
    · have hlt : c < s.heap.objs.size := by
        have e' : c = z ∨ c = TI ∨ c = TO ∨ c = i1 ∨ c = i2 := by simpa using hcm
        rcases e' with q | q | q | q | q
        · rw [q]; exact hzl
        · rw [q]; exact Heap.lt_size hTI
        · rw [q]; exact Heap.lt_size hTO
        · rw [q]; obtain ⟨_, e1, _⟩ := iterAt_obj h1; exact Heap.lt_size e1
        · rw [q]; obtain ⟨_, e1, _⟩ := iterAt_obj h2; exact Heap.lt_size e1
      rw [upd_ne (Nat.ne_of_lt hlt)]
      exact (hf c hcm).1
  done := by
    intro X hP hw hK hc i pins s σ H E I hf st hg
    subst hP hw hK
    obtain ⟨hz, hTI, ⟨x0, y0, hTO⟩, h1, h2⟩ := st
    obtain ⟨xs, ys, hqx, hqy, hend⟩ := hg
    obtain ⟨its, rv, p, _⟩ := inv_sqk I hqx
    obtain ⟨its2, rv2, p2, _⟩ := inv_sqk I hqy
    have l1 := rv.length
    have l2 := rv2.length
    have hh : X.A.in1.handled = none := I.ok.hd hc
    obtain ⟨n1, P1, S1, D1, g1, f1, s1⟩ := drawsX tp (prog := X.prog) (w := X.w) hh i1 a D.l1i1 its.toArray i
    obtain ⟨n2, P2, S2, D2, g2, f2, s2⟩ := drawsX tq (prog := X.prog) (w := X.w) hh i2 b D.l2i2 its2.toArray i
    refine wpAny_pyNext_zipD2_end (i := i) (apart_sep D) D1 D2 hz hTI hTO (s1 _ h1 p) (s2 _ h2 p2) g1 g2 (hend.imp (fun q => f1 (by simp; omega)) fun q => f2 (by simp; omega)) fun h' tk hk => ⟨rfl, ?_⟩
    exact I.turnedL (t' := tk) (ch := [z, TI, TO, i1, i2]) (fun c o hb q => hk c o (fun q' => hb (by simp [q'])) (fun q' => hb (by simp [q'])) (fun q' => hb (by simp [q'])) (fun q' => hb (by simp [q'])) q) hf
  self := fun A i s Q E st h => wpAny_pyIter_zip st.1 h
def iZipK (K : PySem.W.Frag) (ta : TA) : TI := fun σ H R => ta σ H fun vs H1 => ∃ (tp tq : Bool) (a b : Addr) (xs ys : List V), vs = [.ref a, .ref b] ∧ SqK tp K H1 a xs ∧ SqK tq K H1 b ys ∧ R (ItzK tp tq K a b) H1
theorem iter0K {tp : Bool} {h : Heap} {it a : Addr} (e : h.get? it = some (itObj tp a)) : IterAt tp h it a 0 := by
  cases tp with
  | false => exact ⟨_, e, rfl, rfl⟩
  | true => exact ⟨_, e, rfl, rfl⟩
theorem pi_zipK {X : Cx} {e e2 : Expr} {ta : TA} {p pos tpos : Pos} {elts : List Expr} {kk : Nat} (hg : Gl X "zip") (hm : X.mg "zip" = none) (ha : PA X [e, e2] ta)
    (hs : starEach [e, e2] X.env = (false, eval e X.env) :: starEach [e2] X.env := by rfl) (hpl : (backTo pos (starEach [e2] X.env)).any (·.1) = false := by rfl) :
    PI X (.Tuple elts kk tpos) (.Call (.Name "zip" p) [e, e2] [] pos) (iZipK X.K ta) := by
  refine ⟨fun pins s σ H R I h => ?_⟩
  refine Call_ (ld_blt I hg hm PyProof.Rows.boot_zip (PyProof.Rows.callWith_type1 (thn (ha.run pos pins s σ H _ I h) fun us s1 ⟨vs, H1, I1, r1, q1⟩ => ?_) hs hpl))
  obtain ⟨tp, tq, a, b, xs, ys, ex, hqx, hqy, q⟩ := q1
  subst ex
  cases r1 with
  | cons r rr =>
    cases rr with
    | cons r' rr =>
      cases rr
      cases r
      cases r'
      have fresh5 : ∀ c, c ∈ [s1.heap.objs.size + 4, s1.heap.objs.size + 2, s1.heap.objs.size + 3, s1.heap.objs.size, s1.heap.objs.size + 1] → FpOk X pins H1 c := fun c hcm => by
        have e' : c = s1.heap.objs.size + 4 ∨ c = s1.heap.objs.size + 2 ∨ c = s1.heap.objs.size + 3 ∨ c = s1.heap.objs.size ∨ c = s1.heap.objs.size + 1 := by simpa using hcm
        have hle : s1.heap.objs.size ≤ c := by
          rcases e' with z | z | z | z | z
          · rw [z]; exact Nat.le_add_right _ _
          · rw [z]; exact Nat.le_add_right _ _
          · rw [z]; exact Nat.le_add_right _ _
          · rw [z]; exact Nat.le_refl _
          · rw [z]; exact Nat.le_add_right _ _
        exact I1.fpOk hle (I1.hok.fresh hle)
      obtain ⟨its, rv, p1, lt1⟩ := inv_sqk I1 hqx
      obtain ⟨its2, rv2, p2, lt2⟩ := inv_sqk I1 hqy
      refine zip_begins2 (beginsK tp a its.toArray) (beginsK tq b its2.toArray) p1 p2 fun h' hz hTI hTO h1 h2 hsz hk => wpAny_pyIter_zip hz ?_
      have I2 : Inv X pins σ H1 { s1 with heap := h' } := I1.kept (t' := s1.toks) hk
      exact ⟨s1.heap.objs.size + 4, [s1.heap.objs.size + 4, s1.heap.objs.size + 2, s1.heap.objs.size + 3, s1.heap.objs.size, s1.heap.objs.size + 1], _, _, H1, rfl, I2, turn_zipK (tp := tp) (tq := tq) (PySem.W.ktu_apart s1.heap.objs.size a b lt1 lt2), ⟨hz, hTI, ⟨_, _, hTO⟩, iter0K h1, iter0K h2⟩, fresh5, q⟩
end DM
end
section
set_option maxHeartbeats 2000000
namespace DM
open PySem PySem.Spec PyProof.Rows L2
section
variable {X : Cx} {W : WX} {a b c e e2 tg : Expr} {es elts : List Expr} {ma mb mc me : ME} {mt mu : MT} {ms : MA} {pos p p2 p3 tpos : Pos} {kk : Nat}
/-! ### zip of things that stay -/
def immOf : D → Option (List D)
  | .tup xs => some xs
  | .lst xs => some xs
  | _ => none
theorem imm_rd {K : PySem.W.Frag} {m : Mp} {H : Hp} {d : D} {xs : List D} {v : V} (h : immOf d = some xs) (r : RD K m H d v) : ∃ q vs, v = .ref q ∧ RDs K m H xs vs ∧ SqK (isTup d) K H q vs := by
  unfold immOf at h
  split at h
  · cases h
    cases r with
    | tup s r => exact ⟨_, _, rfl, r, s.sq⟩
  · cases h
    cases r with
    | lst s r => exact ⟨_, _, rfl, r, s.sq⟩
  · cases h
theorem iter_zip {K : PySem.W.Frag} {m : Mp} {H : Hp} {d e : D} {xs ys : List D} {q1 q2 : Addr} (hd : immOf d = some xs) (he : immOf e = some ys) (r1 : RD K m H d (.ref q1)) (r2 : RD K m H e (.ref q2)) :
    Iter K (ItzK (isTup d) (isTup e) K q1 q2) m H (.sq (.tup (zipD xs ys))) := by
  refine ⟨fun m' A' H' all i x ex R hs hi => ?_, fun m' A' H' all i ex R hs hl => ?_⟩
  · cases hs
    obtain ⟨x1, x2, rfl, h1, h2⟩ := zip_at xs ys i x hi
    obtain ⟨_, vs, e1, rs1, sq1⟩ := imm_rd hd (RD.mono ex _ _ r1)
    cases e1
    obtain ⟨_, ws, e2, rs2, sq2⟩ := imm_rd he (RD.mono ex _ _ r2)
    cases e2
    obtain ⟨v, g1, g2⟩ := rs1.get h1
    obtain ⟨w, g3, g4⟩ := rs2.get h2
    refine ⟨⟨vs, ws, v, w, sq1, sq2, g1, g3⟩, fun y H'' hy => ?_⟩
    obtain ⟨T, v', w', rfl, hT, rfl, hv, hw⟩ := hy
    have := hv vs sq1
    rw [g1] at this; cases this
    have := hw ws sq2
    rw [g3] at this; cases this
    obtain ⟨R1, e1⟩ := R.new hT (.tup [v, w])
    exact ⟨R1, e1, .tup (.inl ⟨.inl upd_same, R.out hT⟩) (.cons (RD.mono e1 _ _ g2) (.cons (RD.mono e1 _ _ g4) .nil))⟩
  · cases hs
    obtain ⟨_, vs, e1, rs1, sq1⟩ := imm_rd hd (RD.mono ex _ _ r1)
    cases e1
    obtain ⟨_, ws, e2, rs2, sq2⟩ := imm_rd he (RD.mono ex _ _ r2)
    cases e2
    rw [zip_length] at hl
    refine ⟨vs, ws, sq1, sq2, ?_⟩
    rw [← rs1.length, ← rs2.length]
    omega
noncomputable def mZip (ms : MA) : MI := fun ρ A => (ms ρ A).bind fun ds A1 => match ds with
  | [d, e] => match immOf d, immOf e with
    | some xs, some ys => .ok (.sq (.tup (zipD xs ys))) A1
    | _, _ => .no
  | _ => .no
theorem i_zip (hm : X.mg "zip" = none) (ha : DA X W [e, e2] ms) (hg : Gl X "zip" := by rfl) (hs : starEach [e, e2] X.env = (false, eval e X.env) :: starEach [e2] X.env := by rfl) (hpl : (backTo pos (starEach [e2] X.env)).any (·.1) = false := by rfl) :
    DI X W (.Tuple elts kk tpos) (.Call (.Name "zip" p) [e, e2] [] pos) (mZip ms) :=
  PIi (pi_zipK hg hm ha hs hpl) fun σ H Q ⟨m, A, ρ, R, E, h⟩ => tA.bind R E h fun m1 A1 ds vs H1 e1 R1 E1 r1 h1 => by
    split at h1
    · rename_i d e
      cases r1 with
      | cons r r1 =>
        obtain ⟨v, rfl, r'⟩ := r1.one
        split at h1
        · rename_i xs ys hx hy
          obtain ⟨q1, ws1, rfl, rs1, sq1⟩ := imm_rd hx r
          obtain ⟨q2, ws2, rfl, rs2, sq2⟩ := imm_rd hy r'
          exact ⟨_, _, q1, q2, ws1, ws2, rfl, sq1, sq2, Post.here R1 (iter_zip hx hy r r') h1⟩
        · exact h1.elim
    · exact h1.elim
/-! ### any, all -/
def blsOf : List D → Option (List Bool)
  | [] => some []
  | .bl b :: xs => (blsOf xs).map (b :: ·)
  | _ => none
theorem bls_rd {K : PySem.W.Frag} {m : Mp} {H : Hp} : ∀ {xs : List D} {bs : List Bool} {vs : List V}, blsOf xs = some bs → RDs K m H xs vs → vs = bs.map V.bl
  | [], bs, vs, h, r => by cases h; cases r; rfl
  | d :: xs, bs, vs, h, r => by
    cases r with
    | cons r rs =>
      cases d with
      | bl b =>
        simp only [blsOf, Option.map_eq_some_iff] at h
        obtain ⟨cs, h1, rfl⟩ := h
        rw [bls_rd h1 rs]
        cases r
        rfl
      | _ => simp [blsOf] at h
theorem bls_map : ∀ bs : List Bool, blsOf (bs.map D.bl) = some bs
  | [] => rfl
  | b :: bs => by rw [List.map_cons, blsOf, bls_map bs]; rfl
def fAny : List D → AH → Res D := fun ds A => match ds with
  | [.lst xs] => match blsOf xs with
    | some bs => .ok (.bl (bs.any id)) A
    | none => .no
  | _ => .no
def fAll : List D → AH → Res D := fun ds A => match ds with
  | [.lst xs] => match blsOf xs with
    | some bs => .ok (.bl (bs.all id)) A
    | none => .no
  | _ => .no
theorem fAny_ok {K : PySem.W.Frag} : CallD K fAny (rAny K) := by
  intro W σ m A H xs ds Q R hx h
  unfold fAny at h
  split at h
  · obtain ⟨v, rfl, r⟩ := hx.one
    split at h
    · rename_i bs hb
      cases r with
      | lst s rs =>
        have := bls_rd hb rs
        subst this
        exact ⟨_, bs, rfl, s.sq, Post.here R (.bl _) h⟩
    · exact h.elim
  · exact h.elim
theorem fAll_ok {K : PySem.W.Frag} : CallD K fAll (rAll K) := by
  intro W σ m A H xs ds Q R hx h
  unfold fAll at h
  split at h
  · obtain ⟨v, rfl, r⟩ := hx.one
    split at h
    · rename_i bs hb
      cases r with
      | lst s rs =>
        have := bls_rd hb rs
        subst this
        exact ⟨_, bs, rfl, s.sq, Post.here R (.bl _) h⟩
    · exact h.elim
  · exact h.elim
theorem d_any (hm : X.mg "any" = none) (ha : DA X W [e] ms) (hc : X.calm = true := by rfl) (hg : Gl X "any" := by rfl) (he : starEach [e] X.env = (false, eval e X.env) :: starEach [] X.env := by rfl) (hpl : (backTo pos (starEach [] X.env)).any (·.1) = false := by rfl) :
    DE X W (.Call (.Name "any" p) [e] [] pos) (mCall fAny ms) := d_callB (cr_any hc) fAny_ok hg hm (by decide +kernel) ha (by decide) (by decide) he hpl
theorem d_all (hm : X.mg "all" = none) (ha : DA X W [e] ms) (hc : X.calm = true := by rfl) (hg : Gl X "all" := by rfl) (he : starEach [e] X.env = (false, eval e X.env) :: starEach [] X.env := by rfl) (hpl : (backTo pos (starEach [] X.env)).any (·.1) = false := by rfl) :
    DE X W (.Call (.Name "all" p) [e] [] pos) (mCall fAll ms) := d_callB (cr_all hc) fAll_ok hg hm (by decide +kernel) ha (by decide) (by decide) he hpl
/-! ### sorted ints; sum -/
def intsOf : List D → Option (List Int)
  | [] => some []
  | .int b :: xs => (intsOf xs).map (b :: ·)
  | _ => none
theorem ints_rd {K : PySem.W.Frag} {m : Mp} {H : Hp} : ∀ {xs : List D} {bs : List Int} {vs : List V}, intsOf xs = some bs → RDs K m H xs vs → vs = bs.map V.int
  | [], bs, vs, h, r => by cases h; cases r; rfl
  | d :: xs, bs, vs, h, r => by
    cases r with
    | cons r rs =>
      cases d with
      | int b =>
        simp only [intsOf, Option.map_eq_some_iff] at h
        obtain ⟨cs, h1, rfl⟩ := h
        rw [ints_rd h1 rs]
        cases r
        rfl
      | _ => simp [intsOf] at h
theorem ints_map : ∀ bs : List Int, intsOf (bs.map D.int) = some bs
  | [] => rfl
  | b :: bs => by rw [List.map_cons, intsOf, ints_map bs]; rfl
theorem rds_ints {K : PySem.W.Frag} {m : Mp} {H : Hp} : ∀ bs : List Int, RDs K m H (bs.map D.int) (bs.map V.int)
  | [] => .nil
  | b :: bs => .cons (.int _) (rds_ints bs)
def srt (ns : List Int) : List Int := ns.mergeSort fun a b => decide (a ≤ b)
theorem srt_perm (ns : List Int) : (srt ns).Perm ns := List.mergeSort_perm ..
theorem srt_sorted (ns : List Int) : (srt ns).Pairwise (· ≤ ·) := by
  have h := List.pairwise_mergeSort (le := fun a b : Int => decide (a ≤ b)) (by intro a b c; simp; omega) (by intro a b; simp; omega) ns
  exact h.imp fun h => by simpa using h
theorem srt_uniq {a b : List Int} (h1 : a.Perm b) (h2 : a.Pairwise (· ≤ ·)) : a = srt b :=
  List.Perm.eq_of_pairwise (fun x y _ _ h h' => Int.le_antisymm h h') h2 (srt_sorted b) (h1.trans (srt_perm b).symm)
def fSortI : List D → AH → Res D := fun ds A => match ds with
  | [.lst xs] => match intsOf xs with
    | some ns => .ok (.lst ((srt ns).map D.int)) A
    | none => .no
  | _ => .no
theorem fSortI_ok {K : PySem.W.Frag} : CallD K fSortI (rSortedI K) := by
  intro W σ m A H xs ds Q R hx h
  unfold fSortI at h
  split at h
  · obtain ⟨v, rfl, r⟩ := hx.one
    split at h
    · rename_i ns hb
      cases r with
      | lst s rs =>
        have := ints_rd hb rs
        subst this
        refine ⟨_, ns, rfl, s.sq, fun ns' p hp hs hn => ?_⟩
        have := srt_uniq hp hs
        subst this
        exact lst_new R (rds_ints _) h p hn
    · exact h.elim
  · exact h.elim
theorem d_sortI (hm : X.mg "sorted" = none) (ha : DA X W [e] ms) (hg : Gl X "sorted" := by rfl) (he : starEach [e] X.env = (false, eval e X.env) :: starEach [] X.env := by rfl) (hpl : (backTo pos (starEach [] X.env)).any (·.1) = false := by rfl) :
    DE X W (.Call (.Name "sorted" p) [e] [] pos) (mCall fSortI ms) := d_callB cr_sortedI fSortI_ok hg hm (by decide +kernel) ha (by decide) (by decide) he hpl
theorem units65 {k : Nat} {A : Around} (r : Room k A) : A.units + 65 < cLine := by have := r.un; omega
/-! ### in, deep things -/
def rInT (K : PySem.W.Frag) : R2 := fun x y H Q => ∃ d ds, Dp K H x d ∧ Dp K H y (.tuple ds) ∧ SeqAt.shaped d = true ∧ SeqAt.shaped (.tuple ds) = true ∧ Q (.bl (ds.any fun z => PyData.eqv z d)) H
def rNotInT (K : PySem.W.Frag) : R2 := fun x y H Q => ∃ d ds, Dp K H x d ∧ Dp K H y (.tuple ds) ∧ SeqAt.shaped d = true ∧ SeqAt.shaped (.tuple ds) = true ∧ Q (.bl (!ds.any fun z => PyData.eqv z d)) H
theorem op_inT (hu : X.A.units + 65 < cLine) : OpR X (compareOp .In) (rInT X.K) := by
  intro pins s σ H x y v u Q I rx ry h
  obtain ⟨d, ds, hd, he, sd, se, q⟩ := h
  obtain ⟨as, r1⟩ := Dp.reads I d x v hd rx
  obtain ⟨bs, r2⟩ := Dp.reads I (.tuple ds) y u he ry
  exact SeqAt.in_tuple_reads r2 r1 (SeqAt.canLay_of_shaped se) (SeqAt.canLay_of_shaped sd) (room_in_shaped sd hu) ⟨.bl _, H, I, rfl, q⟩
theorem op_notInT (hu : X.A.units + 65 < cLine) : OpR X (compareOp .NotIn) (rNotInT X.K) := by
  intro pins s σ H x y v u Q I rx ry h
  obtain ⟨d, ds, hd, he, sd, se, q⟩ := h
  obtain ⟨as, r1⟩ := Dp.reads I d x v hd rx
  obtain ⟨bs, r2⟩ := Dp.reads I (.tuple ds) y u he ry
  exact SeqAt.notIn_tuple_reads r2 r1 (SeqAt.canLay_of_shaped se) (SeqAt.canLay_of_shaped sd) (room_in_shaped sd hu) ⟨.bl _, H, I, rfl, q⟩
def fInD (neg : Bool) : D → D → AH → Res D := fun d e A => match toPyA A d, toPyA A e with
  | some p, some (.list ds) => if SeqAt.shaped p = true ∧ SeqAt.shaped (.list ds) = true then .ok (.bl (if neg then !(ds.any fun z => PyData.eqv z p) else ds.any fun z => PyData.eqv z p)) A else .no
  | some p, some (.tuple ds) => if SeqAt.shaped p = true ∧ SeqAt.shaped (.tuple ds) = true then .ok (.bl (if neg then !(ds.any fun z => PyData.eqv z p) else ds.any fun z => PyData.eqv z p)) A else .no
  | _, _ => .no
theorem fInD_ok {K : PySem.W.Frag} : OpD K (fInD false) (fun x y H Q => rInD K x y H Q ∨ rInT K x y H Q) := by
  intro W σ m A H x y d e Q R hx hy h
  unfold fInD at h
  split at h
  · rename_i p ds h1 h2
    split at h
    · rename_i hs
      exact .inl ⟨p, ds, RD.dpA R hx h1, RD.dpA R hy h2, hs.1, hs.2, Post.here R (.bl _) h⟩
    · exact h.elim
  · rename_i p ds h1 h2
    split at h
    · rename_i hs
      exact .inr ⟨p, ds, RD.dpA R hx h1, RD.dpA R hy h2, hs.1, hs.2, Post.here R (.bl _) h⟩
    · exact h.elim
  · exact h.elim
theorem fNinD_ok {K : PySem.W.Frag} : OpD K (fInD true) (fun x y H Q => rNotInD K x y H Q ∨ rNotInT K x y H Q) := by
  intro W σ m A H x y d e Q R hx hy h
  unfold fInD at h
  split at h
  · rename_i p ds h1 h2
    split at h
    · rename_i hs
      exact .inl ⟨p, ds, RD.dpA R hx h1, RD.dpA R hy h2, hs.1, hs.2, Post.here R (.bl _) h⟩
    · exact h.elim
  · rename_i p ds h1 h2
    split at h
    · rename_i hs
      exact .inr ⟨p, ds, RD.dpA R hx h1, RD.dpA R hy h2, hs.1, hs.2, Post.here R (.bl _) h⟩
    · exact h.elim
  · exact h.elim
theorem d_inD (hu : X.A.units + 65 < cLine) (ha : DE X W a ma) (hb : DE X W b mb) (hm : behindInMarks .In b = false := by rfl) : DE X W (.Compare a [.In] [b] pos) (mOp (fInD false) ma mb) := d_cmp ((op_inD hu).or (op_inT hu)) fInD_ok ha hb hm
theorem d_ninD (hu : X.A.units + 65 < cLine) (ha : DE X W a ma) (hb : DE X W b mb) (hm : behindInMarks .NotIn b = false := by rfl) : DE X W (.Compare a [.NotIn] [b] pos) (mOp (fInD true) ma mb) := d_cmp ((op_notInD hu).or (op_notInT hu)) fNinD_ok ha hb hm
theorem t_inD (hu : X.A.units + 65 < cLine) (ha : DE X W a ma) (hb : DE X W b mb) (hm : behindInMarks .In b = false := by rfl) : DT X W (.Compare a [.In] [b] pos) (mTst (mOp (fInD false) ma mb)) := t_cmp ((op_inD hu).or (op_inT hu)) fInD_ok ha hb hm
theorem t_ninD (hu : X.A.units + 65 < cLine) (ha : DE X W a ma) (hb : DE X W b mb) (hm : behindInMarks .NotIn b = false := by rfl) : DT X W (.Compare a [.NotIn] [b] pos) (mTst (mOp (fInD true) ma mb)) := t_cmp ((op_notInD hu).or (op_notInT hu)) fNinD_ok ha hb hm
/-! ### list(range(n)) -/
def mListR (ma : ME) : ME := fun ρ A => (ma ρ A).bind fun d A1 => match d with
  | .int j => if 0 ≤ j ∧ j ≤ 1000000 then .ok (.lst (((List.range j.toNat).map fun i : Nat => (i : Int)).map D.int)) A1 else .no
  | _ => .no
theorem d_listR (hl : X.mg "list" = none) (hr : X.mg "range" = none) (ha : DE X W a ma) (hc : X.calm = true := by rfl) (hg : Gl X "list" := by rfl) (hg2 : Gl X "range" := by rfl) (na : starEach [a] X.env = (false, eval a X.env) :: starEach [] X.env := by rfl)
    (na2 : starEach [.Call (.Name "range" p2) [a] [] p3] X.env = (false, eval (.Call (.Name "range" p2) [a] [] p3) X.env) :: starEach [] X.env := by rfl) : DE X W (.Call (.Name "list" p) [.Call (.Name "range" p2) [a] [] p3] [] pos) (mListR ma) :=
  PEi (pe_listRg hc hg hl (prg_1 hg2 hr ha na) na2) fun σ H Q ⟨m, A, ρ, R, E, h⟩ => tE.bind R E h fun m1 A1 d v H1 e1 R1 E1 r1 h1 => by
    split at h1
    · cases r1
      split at h1
      · rename_i j hj
        refine ⟨j, rfl, RgOk.of_le (by decide) (by omega) (by decide) hj.1, fun q hq => ?_⟩
        have e : rgV 0 j = (((List.range j.toNat).map fun i : Nat => (i : Int)).map V.int) := by
          unfold rgV
          rw [Int.sub_zero, List.map_map]
          exact List.map_congr_left fun i _ => by simp
        rw [e]
        exact lst_new R1 (rds_ints _) h1 q hq
      · exact h1.elim
    · exact h1.elim
end
end DM
end
section
set_option maxHeartbeats 2000000
namespace DM
open PySem PySem.Spec PyProof.Rows L2
section
variable {X : Cx} {W : WX} {a b c e e2 tg : Expr} {es elts : List Expr} {ma mb mc me : ME} {mt mu : MT} {ms : MA} {pos p p2 p3 tpos : Pos} {kk : Nat}
/-! ### dicts: of pairs, read -/
def keyOf : D → Option Key
  | .int i => some (.inl i)
  | .str x => some (.inr x)
  | _ => none
theorem key_rd {K : PySem.W.Frag} {m : Mp} {H : Hp} {d : D} {k : Key} {v : V} (h : keyOf d = some k) (r : RD K m H d v) : v = kV k := by
  cases d <;> simp [keyOf] at h <;> subst h <;> cases r <;> rfl
def pairOf : D → Option (Key × D)
  | .tup [k, v] => (keyOf k).map fun k => (k, v)
  | _ => none
def pairsOf : List D → Option (List (Key × D))
  | [] => some []
  | x :: xs => match pairOf x, pairsOf xs with
    | some p, some ps => some (p :: ps)
    | _, _ => none
theorem pair_rd {K : PySem.W.Frag} {m : Mp} {H : Hp} {x : D} {k : Key} {d : D} {v : V} (h : pairOf x = some (k, d)) (r : RD K m H x v) : ∃ p w, v = .ref p ∧ SqT K H p [kV k, w] ∧ RD K m H d w := by
  unfold pairOf at h
  split at h
  · obtain ⟨k', h1, h2⟩ := Option.map_eq_some_iff.mp h
    cases h2
    cases r with
    | tup s rs =>
      cases rs with
      | cons rk rs =>
        obtain ⟨w, rfl, rw'⟩ := rs.one
        rw [key_rd h1 rk] at s
        exact ⟨_, w, rfl, s.sq, rw'⟩
  · cases h
theorem pairs_rd {K : PySem.W.Frag} {m : Mp} {H : Hp} : ∀ {xs : List D} {kvs : List (Key × D)} {vs : List V}, pairsOf xs = some kvs → RDs K m H xs vs →
    ∃ (ps : List Addr) (ws : List (Key × V)), vs = ps.map V.ref ∧ Paired (fun p kv => SqT K H p [kV kv.1, kv.2]) ps ws ∧ kvs.map (·.1) = ws.map (·.1) ∧ RDs K m H (kvs.map (·.2)) (ws.map (·.2))
  | [], kvs, vs, h, r => by cases h; cases r; exact ⟨[], [], rfl, .nil, rfl, .nil⟩
  | x :: xs, kvs, vs, h, r => by
    cases r with
    | cons r rs =>
      unfold pairsOf at h
      split at h
      · rename_i p ps h1 h2
        cases h
        obtain ⟨q, w, rfl, s, rd⟩ := pair_rd (k := p.1) (d := p.2) h1 r
        obtain ⟨qs, ws, rfl, g1, g2, g3⟩ := pairs_rd h2 rs
        exact ⟨q :: qs, (p.1, w) :: ws, rfl, .cons s g1, by rw [List.map_cons, List.map_cons, g2], .cons rd g3⟩
      · cases h
theorem putK_fresh : ∀ {kvs : List (Key × V)} {k : Key} {v : V}, k ∉ kvs.map (·.1) → putK kvs k v = kvs ++ [(k, v)] := fun {kvs k v} h => by
  unfold putK
  rw [if_neg]
  intro z
  obtain ⟨x, hx, e⟩ := List.any_eq_true.mp z
  exact h (List.mem_map.mpr ⟨x, hx, of_decide_eq_true e⟩)
theorem merge_nodup : ∀ (more kvs : List (Key × V)), ((kvs ++ more).map (·.1)).Nodup → mergeK kvs more = kvs ++ more
  | [], kvs, _ => (List.append_nil _).symm
  | x :: xs, kvs, h => by
    have h1 : x.1 ∉ kvs.map (·.1) := by
      rw [List.map_append, List.map_cons, List.nodup_append] at h
      intro z
      exact h.2.2 _ z _ List.mem_cons_self rfl
    show mergeK (putK kvs x.1 x.2) xs = _
    rw [putK_fresh h1, merge_nodup xs _ (by rw [List.append_assoc]; exact h), List.append_assoc]
    rfl
def fDictP : List D → AH → Res D := fun ds A => match ds with
  | [.lst xs] => match pairsOf xs with
    | some kvs => if (kvs.map (·.1)).Nodup then .ok (.ref A.length) (A ++ [.dk kvs]) else .no
    | none => .no
  | _ => .no
def rDictP (K : PySem.W.Frag) : List V → Hp → VK → Prop := fun xs H Q => ∃ (a : Addr) (ps : List Addr) (kvs : List (Key × V)), xs = [.ref a] ∧ SqL K H a (ps.map V.ref) ∧ Paired (fun p kv => SqT K H p [kV kv.1, kv.2]) ps kvs ∧
    ∀ p, H p = none → Q (.ref p) (upd H p (.dK (mergeK [] kvs)))
theorem fDictP_ok {K : PySem.W.Frag} : CallD K fDictP (rDictP K) := by
  intro W σ m A H xs ds Q R hx h
  unfold fDictP at h
  split at h
  · obtain ⟨v, rfl, r⟩ := hx.one
    split at h
    · rename_i kvs hk
      split at h
      · rename_i hn
        cases r with
        | lst s rs =>
          obtain ⟨ps, ws, rfl, g1, g2, g3⟩ := pairs_rd hk rs
          refine ⟨_, ps, ws, rfl, s.sq, g1, fun q hq => ?_⟩
          rw [merge_nodup ws [] (by rw [List.nil_append, ← g2]; exact hn), List.nil_append]
          let ⟨R1, e1⟩ := R.push (H' := upd H q (.dK ws)) (o := .dk kvs) hq (fun q' u z => by rw [upd_ne (ne_of_none z hq)]; exact z) fun e => ⟨ws, ⟨upd_same, g2⟩, RDs.mono e _ _ g3⟩
          exact h _ _ _ e1 R1 (.ref (by rw [← R.len]; simp))
      · exact h.elim
    · exact h.elim
  · exact h.elim
theorem d_dictP (hm : X.mg "dict" = none) (ha : DA X W [e] ms) (hc : X.calm = true := by rfl) (hg : Gl X "dict" := by rfl) (he : starEach [e] X.env = (false, eval e X.env) :: starEach [] X.env := by rfl) (hpl : (backTo pos (starEach [] X.env)).any (·.1) = false := by rfl) :
    DE X W (.Call (.Name "dict" p) [e] [] pos) (mCall fDictP ms) := d_callTy (call_dictP hc) fDictP_ok hg hm (by decide +kernel) ha (by decide) (by decide) he hpl
/-! ### d[k] -/
def valD (kvs : List (Key × D)) (k : Key) : Option D := (kvs.find? fun kv => decide (kv.1 = k)).map (·.2)
theorem val_rd {K : PySem.W.Frag} {m : Mp} {H : Hp} : ∀ {kvs : List (Key × D)} {ws : List (Key × V)} {k : Key} {d : D}, kvs.map (·.1) = ws.map (·.1) → RDs K m H (kvs.map (·.2)) (ws.map (·.2)) → valD kvs k = some d → ∃ v, valV ws k = some v ∧ RD K m H d v
  | [], ws, k, d, _, _, h => by simp [valD] at h
  | x :: xs, [], k, d, h1, _, h => by simp at h1
  | x :: xs, y :: ys, k, d, h1, r, h => by
    rw [List.map_cons, List.map_cons] at h1 r
    injection h1 with h1 h2
    cases r with
    | cons r rs =>
      by_cases e : x.1 = k
      · have e' : y.1 = k := h1 ▸ e
        rw [valV_pos e']
        simp [valD, List.find?_cons, e] at h
        subst h
        exact ⟨_, rfl, r⟩
      · have e' : ¬ y.1 = k := fun z => e (h1.trans z)
        rw [valV_neg e']
        simp [valD, List.find?_cons, e] at h
        exact val_rd h2 rs (by simp [valD]; exact h)
def fDGet : D → D → AH → Res D := fun d e A => match d with
  | .ref n => match A[n]?, keyOf e with
    | some (.dk kvs), some k => (match valD kvs k with
      | some x => .ok x A
      | none => .no)
    | _, _ => .no
  | _ => .no
theorem d_dget (hu : X.A.units + 64 < cLine) (ha : DE X W a ma) (hb : DE X W b mb) (hs : NoSl b := by exact fun _ _ => rfl) : DE X W (.Subscript a b pos) (mOp fDGet ma mb) :=
  PEi (pe_dget (by omega) ha hb hs) fun σ H Q ⟨m, A, ρ, R, E, h⟩ => tE.bind R E h fun m1 A1 d v H1 e1 R1 E1 r1 h1 => tE.bind R1 E1 h1 fun m2 A2 d2 v2 H2 e2 R2 E2 r2 h2 => by
    replace r1 := RD.mono e2 _ _ r1
    unfold fDGet at h2
    split at h2
    · rename_i n
      split at h2
      · rename_i kvs k hA hk
        split at h2
        · rename_i x hx
          cases r1 with
          | ref hm =>
            obtain ⟨q, g1, ws, ⟨g2, g3⟩, g4⟩ := R2.obj _ _ hA
            rw [hm] at g1; cases g1
            obtain ⟨v, w1, w2⟩ := val_rd g3 g4 hx
            refine ⟨_, v, rfl, ?_, Post.here R2 w2 h2⟩
            rw [key_rd hk r2, ← w1]
            exact DGet.k g2
        · exact h2.elim
      · exact h2.elim
    · exact h2.elim
end
end DM
end
section
set_option maxHeartbeats 2000000
namespace DM
open PySem PySem.Spec PyProof.Rows L2
/-! ### instances of own classes -/
structure ClsI (K : PySem.W.Frag) (C : Str) (c : Addr) : Prop where
  nm : clsV K C = some (.ref c)
  cl : Cls K c
theorem zip_fs : ∀ (fs : List (Str × D)), (fs.map (·.1)).zip (fs.map (·.2)) = fs
  | [] => rfl
  | (a, b) :: fs => by
    rw [List.map_cons, List.map_cons, List.zip_cons_cons, zip_fs fs]
theorem fld_rel {K : PySem.W.Frag} {m : Mp} {H : Hp} {f : Str} {fs : List (Str × D)} {gs : List (Str × V)} {x : D} (hn : fs.map (·.1) = gs.map (·.1)) (r : RDs K m H (fs.map (·.2)) (gs.map (·.2))) (h : fs.lookup f = some x) : ∃ v, gs.lookup f = some v ∧ RD K m H x v := by
  refine lookup_rel r ?_
  rw [← hn, zip_fs]
  exact h
theorem lookup_names : ∀ {fs : List (Str × D)} {gs : List (Str × V)} {f : Str}, fs.map (·.1) = gs.map (·.1) → fs.lookup f = none → gs.lookup f = none
  | [], [], _, _, _ => rfl
  | [], _ :: _, _, h, _ => by simp at h
  | _ :: _, [], _, h, _ => by simp at h
  | (a, x) :: fs, (b, y) :: gs, f, h, hl => by
    simp only [List.map_cons, List.cons.injEq] at h
    obtain ⟨rfl, h⟩ := h
    simp only [List.lookup_cons] at hl ⊢
    cases hb : (f == a) with
    | true => rw [hb] at hl; cases hl
    | false =>
      rw [hb] at hl
      exact lookup_names h hl
def putFD (f : Str) (v : D) : List (Str × D) → List (Str × D)
  | [] => [(f, v)]
  | (g, x) :: r => if g = f then (g, v) :: r else (g, x) :: putFD f v r
theorem put_rel {K : PySem.W.Frag} {m : Mp} {H : Hp} {f : Str} {y : D} {v : V} (ry : RD K m H y v) : ∀ {fs : List (Str × D)} {gs : List (Str × V)}, fs.map (·.1) = gs.map (·.1) → RDs K m H (fs.map (·.2)) (gs.map (·.2)) →
    (putFD f y fs).map (·.1) = (putF f v gs).map (·.1) ∧ RDs K m H ((putFD f y fs).map (·.2)) ((putF f v gs).map (·.2))
  | [], [], _, _ => ⟨rfl, .cons ry .nil⟩
  | [], _ :: _, h, _ => by simp at h
  | _ :: _, [], h, _ => by simp at h
  | (a, x) :: fs, (b, z) :: gs, h, r => by
    simp only [List.map_cons, List.cons.injEq] at h
    obtain ⟨rfl, h⟩ := h
    cases r with
    | cons r rs =>
      unfold putFD putF
      by_cases e : a = f
      · rw [if_pos e, if_pos e]
        exact ⟨by simp [h], .cons ry rs⟩
      · rw [if_neg e, if_neg e]
        obtain ⟨g1, g2⟩ := put_rel ry h rs
        exact ⟨by simp only [List.map_cons, g1], .cons r g2⟩
section
variable {X : Cx} {W : WX} {a b c e o tg : Expr} {es : List Expr} {ma mb mc me mo mv : ME} {mt mu : MT} {ms mk : MA} {pos p pos' apos : Pos} {kws : List Keyword} {C f mname : Str} {ca : Addr}
def mFld (C f : Str) (me : ME) : ME := fun ρ A => (me ρ A).bind fun d A1 => match d with
  | .ref n => match A1[n]? with
    | some (.ins C' fs) => if C' = C then (match fs.lookup f with
      | some x => .ok x A1
      | none => .no) else .no
    | _ => .no
  | _ => .no
theorem d_fld (T : ClsI X.K C ca) (nf : NoAttr X.K ca f) (he : DE X W e me) (hb : attributeBase e f X.env (eval e X.env) = eval e X.env := by rfl) : DE X W (.Attribute e f pos) (mFld C f me) :=
  PEi (pe_fld he hb) fun σ H Q ⟨m, A, ρ, R, E, h⟩ => tE.bind R E h fun m1 A1 d v H1 e1 R1 E1 r1 h1 => by
    split at h1
    · rename_i n
      split at h1
      · rename_i C' fs hA
        split at h1
        · rename_i hC
          subst hC
          split at h1
          · rename_i x hx
            cases r1 with
            | ref hm =>
              obtain ⟨q, g1, gs, ⟨c', dx, k1, k2, k3, k4, k5⟩, r⟩ := R1.obj _ _ hA
              rw [hm] at g1; cases g1
              rw [T.nm] at k1; cases k1
              obtain ⟨v, w1, w2⟩ := fld_rel k5 r hx
              exact ⟨_, _, dx, gs, v, rfl, k2, T.cl, nf, w1, Post.here R1 w2 h1⟩
          · exact h1.elim
        · exact h1.elim
      · exact h1.elim
    · exact h1.elim
def mSetF (C f : Str) (mv mo : ME) : MS := fun ρ A => lift (mv ρ A) ρ fun y A1 => lift (mo ρ A1) ρ fun d A2 => match d with
  | .ref n => match A2[n]? with
    | some (.ins C' fs) => if C' = C ∧ fs.length < 1000 then .nx ρ (A2.set n (.ins C' (putFD f y fs))) else .no
    | _ => .no
  | _ => .no
theorem set_fld {m : Mp} {A : AH} {H : Hp} {n : Nat} {q : Addr} {C : Str} {fs : List (Str × D)} {gs : List (Str × V)} {c' dx : Addr} {K : PySem.W.Frag} {y : D} {v : V} (R : Rel K m A H) (hm : m.1[n]? = some q) (k1 : clsV K C = some (.ref c')) (k2 : H q = some (.ins c' dx gs)) (k3 : H dx = some (.own q)) (k4 : Out m dx)
    (k5 : fs.map (·.1) = gs.map (·.1)) (r : RDs K m H (fs.map (·.2)) (gs.map (·.2))) (ry : RD K m H y v) : Rel K m (A.set n (.ins C (putFD f y fs))) (upd H q (.ins c' dx (putF f v gs))) ∧ Ext m H m (upd H q (.ins c' dx (putF f v gs))) := by
  refine R.write hm (fun p u hp z => by rw [upd_ne hp]; exact z) fun ex => ?_
  obtain ⟨g1, g2⟩ := put_rel (f := f) (RD.mono ex _ _ ry) k5 (RDs.mono ex _ _ r)
  have hne : dx ≠ q := fun z => by
    rw [z, k2] at k3
    cases k3
  exact ⟨putF f v gs, ⟨c', dx, k1, upd_same, by rw [upd_ne hne]; exact k3, k4, g1⟩, g2⟩
theorem s_fld (T : ClsI X.K C ca) (nf : NoAttr X.K ca f) (ho : DE X W o mo) (hv : DE X W e mv) (hs : swapsWith e (some (.Attribute o f pos')) pos.line X.env = pure false := by rfl) : DS X W (.Assign [.Attribute o f pos'] e pos) (mSetF C f mv mo) :=
  PSi (ps_fld ho hv hs) fun D0 σ H ⟨m, A, ρ, R, E, h⟩ => tE.lift R E h fun m1 A1 y v H1 e1 R1 E1 ry h1 => tE.lift R1 E1 h1 fun m2 A2 d w H2 e2 R2 E2 r2 h2 => by
    split at h2
    · rename_i n
      split at h2
      · rename_i C' fs hA
        split at h2
        · rename_i hC
          obtain ⟨hC, hlen⟩ := hC
          subst hC
          cases r2 with
          | ref hm =>
            obtain ⟨q, g1, gs, ⟨c', dx, k1, k2, k3, k4, k5⟩, r⟩ := R2.obj _ _ hA
            rw [hm] at g1; cases g1
            have k1' := k1
            rw [T.nm] at k1; cases k1
            obtain ⟨R3, e3⟩ := set_fld (f := f) R2 hm k1' k2 k3 k4 k5 r (RD.mono e2 _ _ ry)
            have hl : gs.length < 1000 := by
              have := congrArg List.length k5
              rw [List.length_map, List.length_map] at this
              omega
            exact ⟨_, _, dx, gs, rfl, k2, T.cl, nf, hl, h2 m2 _ _ e3 R3 (E2.mono e3)⟩
        · exact h2.elim
      · exact h2.elim
    · exact h2.elim
/-! ### methods -/
def callM (C mname : Str) (n : Nat) (mf : List D → AH → Res D) (k : Nat) (ds : List D) (A : AH) : Res D := if ds.length + 1 = n then mf (.ref k :: ds) A else .no
def mMeth (C mname : Str) (n : Nat) (mf : List D → AH → Res D) (mo : ME) (ms : MA) : ME := fun ρ A => (mo ρ A).bind fun d A1 => match d with
  | .ref k => match A1[k]? with
    | some (.ins C' fs) => if C' = C ∧ fs.lookup mname = none then (ms ρ A1).bind fun ds A2 => if (D.ref k :: ds).length = n then mf (.ref k :: ds) A2 else .no else .no
    | _ => .no
  | _ => .no
def mMethK (C mname : Str) (l n : Nat) (pm : List Nat) (mf : List D → AH → Res D) (mo : ME) (mk : MA) : ME := fun ρ A => (mo ρ A).bind fun d A1 => match d with
  | .ref k => match A1[k]? with
    | some (.ins C' fs) => if C' = C ∧ fs.lookup mname = none then (mk ρ A1).bind fun es A2 => if es.length = l ∧ (DM.pick pm (D.ref k :: es)).length = n then mf (DM.pick pm (D.ref k :: es)) A2 else .no else .no
    | _ => .no
  | _ => .no
variable {k : Nat} {g : Addr} {fd : FuncData} {ps ks : List Str} {mf : List D → AH → Res D} {pl : Sem Bool}
theorem spD_of {K : PySem.W.Frag} {n : Nat} {m : Mp} {A : AH} {H : Hp} {σ : L2.St} {ds : List D} {vs : List V} {Q : VK} (R : Rel K m A H) (r : RDs K m H ds vs) (h : Post K (RD K) W σ m H (if ds.length = n then mf ds A else .no) Q) : spD K n mf vs H Q (WE W σ) := by
  split at h
  · rename_i hl
    exact ⟨by rw [← r.length]; exact hl, m, A, ds, R, r, by
      cases hz : mf ds A with
      | ok d A2 => rw [hz] at h; exact h
      | exc C fs A2 => rw [hz] at h; exact h
      | no => rw [hz] at h; exact h⟩
  · exact h.elim
theorem d_meth (T : ClsI X.K C ca) (hM : Meth X.K ca mname g) (F : FnD X.prog X.w X.K X.mg X.base k g fd ps mf) (hr : Room k X.A) (gd : X.A.guards = some []) (tk : Takes X W) (hb : Binds X.K fd ps []) (ho : DE X W o mo) (ha : DA X W (e :: es) ms) {n : Nat} (hn : ps.length = n := by rfl)
    (hst : starEach (e :: es) X.env = (false, eval e X.env) :: starEach es X.env := by rfl) (hpl : (backTo pos (starEach es X.env)).any (·.1) = false := by rfl)
    (ht : eval (.Call (.Attribute o mname apos) (e :: es) [] pos) X.env = (do
      let ov ← eval o X.env
      standAt apos.atName
      let (f, first) ← holding [ov] (getMethod ov mname pl)
      callWith pos f first (backTo pos (starEach (e :: es) X.env)) (backToKw pos (keywordEach [] X.env))) := by rfl) :
    DE X W (.Call (.Attribute o mname apos) (e :: es) [] pos) (mMeth C mname n mf mo ms) := by
  subst hn
  refine ⟨fun pins s σ H Q I ⟨m, A, ρ, R, E, h⟩ => ?_⟩
  refine PySem.W.methodCall_KW (pl := pl) (thn (ho.run pins s σ H (fun x H1 => ∃ a dx gs, x = .ref a ∧ H1 a = some (.ins ca dx gs) ∧ gs.lookup mname = none ∧ tA X.K W ms σ H1 fun vs H2 => spD X.K ps.length mf (.ref a :: vs) H2 Q (WE W σ)) I (tE.bind R E h fun m1 A1 d v H1 e1 R1 E1 r1 h1 => ?_)) fun u s1 ⟨x, H1, I1, rx, a, dx, gs, ex, ea, l, q⟩ => ?_) ht
  · split at h1
    · rename_i n
      split at h1
      · rename_i C' fs hA
        split at h1
        · rename_i hC
          obtain ⟨hC, hlk⟩ := hC
          subst hC
          cases r1 with
          | ref hm =>
            obtain ⟨q, g1, gs, ⟨c', dx, k1, k2, k3, k4, k5⟩, r⟩ := R1.obj _ _ hA
            rw [hm] at g1; cases g1
            rw [T.nm] at k1; cases k1
            refine ⟨_, dx, gs, rfl, k2, lookup_names k5 hlk, tA.bind R1 E1 h1 fun m2 A2 ds vs H2 e2 R2 E2 r2 h2 => ?_⟩
            exact spD_of R2 (.cons (RD.mono e2 _ _ (.ref hm)) r2) h2
        · exact h1.elim
      · exact h1.elim
    · exact h1.elim
  · subst ex
    obtain rfl : u = Value.ref a := rx
    refine getmeth_ok I1 ea T.cl hM l ?_
    refine PySem.W.callWith_K (first := [.ref a]) (h₀ := X.base) I.ok.mod.kin hM.kp (thn (ha.run pos pins s1 σ H1 _ I1 q) fun us s2 ⟨vs, H2, I2, r, q2⟩ => ⟨I2.kIn, call_D ?_⟩) hst hpl
    have b := hb s2 (.ref a :: us) I2.kIn (by rw [List.append_nil, List.length_cons, ← r.length]; exact q2.1)
    rw [List.append_nil] at b
    exact run_D F hr gd tk I2 b (show Vals (V.ref a :: vs) (Value.ref a :: us) from .cons rfl r) q2
theorem d_meth0 (T : ClsI X.K C ca) (hM : Meth X.K ca mname g) (F : FnD X.prog X.w X.K X.mg X.base k g fd ps mf) (hr : Room k X.A) (gd : X.A.guards = some []) (tk : Takes X W) (hb : Binds X.K fd ps []) (ho : DE X W o mo) {n : Nat} (hn : ps.length = n := by rfl)
    (ht : eval (.Call (.Attribute o mname apos) [] [] pos) X.env = (do
      let ov ← eval o X.env
      standAt apos.atName
      let (f, first) ← holding [ov] (getMethod ov mname pl)
      callWith pos f first (backTo pos (starEach [] X.env)) (backToKw pos (keywordEach [] X.env))) := by rfl) :
    DE X W (.Call (.Attribute o mname apos) [] [] pos) (mMeth C mname n mf mo mNil) := by
  subst hn
  refine ⟨fun pins s σ H Q I ⟨m, A, ρ, R, E, h⟩ => ?_⟩
  refine PySem.W.methodCall_KW (pl := pl) (thn (ho.run pins s σ H (fun x H1 => ∃ a dx gs, x = .ref a ∧ H1 a = some (.ins ca dx gs) ∧ gs.lookup mname = none ∧ spD X.K ps.length mf [.ref a] H1 Q (WE W σ)) I (tE.bind R E h fun m1 A1 d v H1 e1 R1 E1 r1 h1 => ?_)) fun u s1 ⟨x, H1, I1, rx, a, dx, gs, ex, ea, l, q⟩ => ?_) ht
  · split at h1
    · rename_i n
      split at h1
      · rename_i C' fs hA
        split at h1
        · rename_i hC
          obtain ⟨hC, hlk⟩ := hC
          subst hC
          cases r1 with
          | ref hm =>
            obtain ⟨q, g1, gs, ⟨c', dx, k1, k2, k3, k4, k5⟩, r⟩ := R1.obj _ _ hA
            rw [hm] at g1; cases g1
            rw [T.nm] at k1; cases k1
            exact ⟨_, dx, gs, rfl, k2, lookup_names k5 hlk, spD_of R1 (.cons (.ref hm) .nil) h1⟩
        · exact h1.elim
      · exact h1.elim
    · exact h1.elim
  · subst ex
    obtain rfl : u = Value.ref a := rx
    refine getmeth_ok I1 ea T.cl hM l ?_
    refine PySem.W.callWith_K0 (first := [.ref a]) I1.kIn hM.kp (call_D ?_)
    have b := hb s1 [.ref a] I1.kIn (by rw [List.append_nil]; exact q.1)
    rw [List.append_nil] at b
    exact run_D F hr gd tk I1 b (show Vals [V.ref a] [Value.ref a] from .cons rfl .nil) q
theorem d_methK {pm : List Nat} (T : ClsI X.K C ca) (hM : Meth X.K ca mname g) (F : FnD X.prog X.w X.K X.mg X.base k g fd ps mf) (hr : Room k X.A) (gd : X.A.guards = some []) (tk : Takes X W) (hb : KB X.K fd ps 1 ks pm) (ho : DE X W o mo) (hkw : DK X W kws mk) {l n : Nat} (hl : ks.length = l := by rfl) (hn : ps.length = n := by rfl)
    (hall : (backToKw pos (keywordEach kws X.env)).all (·.1.isSome) = true := by rfl) (hks : (backToKw pos (keywordEach kws X.env)).filterMap (·.1) = ks := by rfl)
    (hpl : ((backTo pos (starEach [] X.env)).any (·.1) || (backToKw pos (keywordEach kws X.env)).any (·.1.isNone)) = false := by rfl)
    (ht : eval (.Call (.Attribute o mname apos) [] kws pos) X.env = (do
      let ov ← eval o X.env
      standAt apos.atName
      let (f, first) ← holding [ov] (getMethod ov mname pl)
      callWith pos f first (backTo pos (starEach [] X.env)) (backToKw pos (keywordEach kws X.env))) := by rfl) :
    DE X W (.Call (.Attribute o mname apos) [] kws pos) (mMethK C mname l n pm mf mo mk) := by
  subst hl hn
  refine ⟨fun pins s σ H Q I ⟨m, A, ρ, R, E, h⟩ => ?_⟩
  refine PySem.W.methodCall_KW (pl := pl) (thn (ho.run pins s σ H (fun x H1 => ∃ a dx gs, x = .ref a ∧ H1 a = some (.ins ca dx gs) ∧ gs.lookup mname = none ∧ tA X.K W mk σ H1 fun zs H2 => zs.length = ks.length ∧ spD X.K ps.length mf (DM.pick pm (.ref a :: zs)) H2 Q (WE W σ)) I (tE.bind R E h fun m1 A1 d v H1 e1 R1 E1 r1 h1 => ?_)) fun u s1 ⟨x, H1, I1, rx, a, dx, gs, ex, ea, l, q⟩ => ?_) ht
  · split at h1
    · rename_i n
      split at h1
      · rename_i C' fs hA
        split at h1
        · rename_i hC
          obtain ⟨hC, hlk⟩ := hC
          subst hC
          cases r1 with
          | ref hm =>
            obtain ⟨q, g1, gs, ⟨c', dx, k1, k2, k3, k4, k5⟩, r⟩ := R1.obj _ _ hA
            rw [hm] at g1; cases g1
            rw [T.nm] at k1; cases k1
            refine ⟨_, dx, gs, rfl, k2, lookup_names k5 hlk, tA.bind R1 E1 h1 fun m2 A2 ds vs H2 e2 R2 E2 r2 h2 => ?_⟩
            split at h2
            · rename_i hl
              have rr := RDs.pick (RDs.cons (RD.mono e2 _ _ (RD.ref hm)) r2) pm
              refine ⟨by rw [← r2.length]; exact hl.1, spD_of R2 rr ?_⟩
              rw [if_pos hl.2]
              exact h2
            · exact h2.elim
        · exact h1.elim
      · exact h1.elim
    · exact h1.elim
  · subst ex
    obtain rfl : u = Value.ref a := rx
    refine getmeth_ok I1 ea T.cl hM l ?_
    refine PySem.W.callWith_KW0 (first := [.ref a]) (h₀ := X.base) I.ok.mod.kin hM.kp hall (thn (hkw.run pos pins s1 σ H1 _ I1 q) fun ws s2 ⟨zs, H2, I2, rz, hl, q2⟩ => ⟨I2.kIn, ?_⟩) hpl
    rw [hks]
    exact call_D (run_D F hr gd tk I2 (hb s2 [.ref a] ws I2.kIn rfl (by rw [← L2.Vals.length rz]; exact hl)) (Vals.pick (show Vals (V.ref a :: zs) (Value.ref a :: ws) from .cons rfl rz) pm) q2)
/-! ### C(..) -/
def mMake (C : Str) (n : Nat) (mf : List D → AH → Res D) (ms : MA) : ME := fun ρ A => (ms ρ A).bind fun ds A1 => if (D.ref A1.length :: ds).length = n then (match mf (.ref A1.length :: ds) (A1 ++ [.ins C []]) with
  | .ok .non A2 => .ok (.ref A1.length) A2
  | .exc C fs A2 => .exc C fs A2
  | _ => .no) else .no
theorem make_D {pins : List (Addr × Obj)} {σ : L2.St} {H : Hp} {s : Shared} {Q : VK} {us : List Value} {vs : List V} {m : Mp} {A : AH} {ds : List D} (T : ClsI X.K C ca) (M : Mk X.K ca g) (F : FnD X.prog X.w X.K X.mg X.base k g fd ps mf) (hr : Room (k + 1) X.A) (gd : X.A.guards = some []) (tk : Takes X W) (hb : Binds X.K fd ps [])
    (I : Inv X pins σ H s) (r : Vals vs us) (R : Rel X.K m A H) (rd : RDs X.K m H ds vs) (h : Post X.K (RD X.K) W σ m H (if (D.ref A.length :: ds).length = ps.length then (match mf (.ref A.length :: ds) (A ++ [.ins C []]) with
      | .ok .non A2 => .ok (.ref A.length) A2
      | .exc C fs A2 => .exc C fs A2
      | _ => .no) else .no) Q) : wpAny (model X.prog X.w) X.A (call (.ref ca) us) (EP X pins σ Q) X.xe s := by
  split at h
  rotate_left
  · exact h.elim
  rename_i hl
  have I2 := Inv.made (C := ca) I
  have n1 : H (s.heap.objs.size + 1) = none := I.hok.fresh (Nat.le_succ _)
  have n0 : H s.heap.objs.size = none := I.hok.fresh (Nat.le_refl _)
  have r2 : Vals (V.ref (s.heap.objs.size + 1) :: vs) (Value.ref (s.heap.objs.size + 1) :: us) := .cons rfl r
  have hq : spD X.K ps.length mf (V.ref (s.heap.objs.size + 1) :: vs) (upd (upd H s.heap.objs.size (.own (s.heap.objs.size + 1))) (s.heap.objs.size + 1) (.ins ca s.heap.objs.size [])) (fun v H2 => v = .non ∧ Q (.ref (s.heap.objs.size + 1)) H2) (WE W σ) := by
    obtain ⟨R1, e1⟩ := R.new n0 (.own (s.heap.objs.size + 1))
    have n1' : upd H s.heap.objs.size (.own (s.heap.objs.size + 1)) (s.heap.objs.size + 1) = none := by rw [upd_ne (Nat.succ_ne_self _)]; exact n1
    have hout : Out (m.1 ++ [s.heap.objs.size + 1], m.2) s.heap.objs.size := by
      refine ⟨fun z => ?_, fun z => (R.out n0).2 z⟩
      rcases List.mem_append.mp z with z | z
      · exact (R.out n0).1 z
      · exact absurd (List.mem_singleton.mp z) (Nat.succ_ne_self _).symm
    obtain ⟨R2, e2⟩ := R1.push (q := s.heap.objs.size + 1) (o := .ins C []) n1' (H' := upd (upd H s.heap.objs.size (.own (s.heap.objs.size + 1))) (s.heap.objs.size + 1) (.ins ca s.heap.objs.size [])) (fun p u z => by rw [upd_ne (ne_of_none z n1')]; exact z)
      fun ex => ⟨[], ⟨ca, s.heap.objs.size, T.nm, upd_same, by rw [upd_ne (Nat.succ_ne_self _).symm]; exact upd_same, hout, rfl⟩, .nil⟩
    · refine ⟨by rw [List.length_cons, ← rd.length]; exact hl, _, _, .ref A.length :: ds, R2, .cons (.ref (by rw [← R.len]; simp)) (RDs.mono (e1.trans e2) _ _ rd), ?_⟩
      cases hz : mf (.ref A.length :: ds) (A ++ [.ins C []]) with
      | ok d A2 =>
        rw [hz] at h
        cases d with
        | non =>
          intro m' H' v e3 R3 r3
          cases r3
          refine ⟨rfl, ?_⟩
          have e4 := (e1.trans e2).trans e3
          refine h m' H' _ e4 R3 (.ref ?_)
          obtain ⟨l, hl'⟩ := e3.pre
          rw [hl', ← R.len]
          simp
        | _ => exact h.elim
      | exc C fs A2 =>
        rw [hz] at h
        intro m' H' c dx e3 R3 hc hx
        exact h m' H' c dx ((e1.trans e2).trans e3) R3 hc hx
      | no => rw [hz] at h; exact h.elim
  have b := hb _ (Value.ref (s.heap.objs.size + 1) :: us) I2.kIn (by rw [List.append_nil, ← r2.length]; exact hq.1)
  rw [List.append_nil] at b
  refine wpAny_call (make_map (f := g) I.kIn M.makes M.init (beq_iff_eq.mp M.fn) (codeAny_mono (F.run _ X.stack _ _ ⟨Value.ref (s.heap.objs.size + 1) :: us, []⟩ (Value.ref (s.heap.objs.size + 1) :: us) _ _ (WE W σ) (hr.make ca us []) gd
    (I2.env0.make ca us []) b r2 hq) fun r s' hq' => ?_))
  cases r with
  | error e => exact passAt tk σ pins _ _ e s' I2 hq'
  | ok fl =>
    cases fl with
    | ret u =>
      obtain ⟨v, H', I3, rv, ev, q3⟩ := I2.after hq'
      subst ev
      exact ⟨rv, ⟨V.ref (s.heap.objs.size + 1), H', I3, rfl, q3⟩⟩
    | next => exact False.elim hq'
    | brk => exact False.elim hq'
    | cont => exact False.elim hq'
theorem d_make {x : Str} (T : ClsI X.K C ca) (M : Mk X.K ca g) (F : FnD X.prog X.w X.K X.mg X.base k g fd ps mf) (hr : Room (k + 1) X.A) (gd : X.A.guards = some []) (tk : Takes X W) (hm : X.mg x = some (.ref ca)) (hb : Binds X.K fd ps []) (ha : DA X W (e :: es) ms) {n : Nat} (hn : ps.length = n := by rfl)
    (hg : Gl X x := by rfl) (hdb : (x == ("__debug__" : Str)) = false := by decide) (he : starEach (e :: es) X.env = (false, eval e X.env) :: starEach es X.env := by rfl) (hpl : (backTo pos (starEach es X.env)).any (·.1) = false := by rfl) :
    DE X W (.Call (.Name x p) (e :: es) [] pos) (mMake C n mf ms) := by
  subst hn
  refine ⟨fun pins s σ H Q I ⟨m, A, ρ, R, E, h⟩ => wpAny_Call_Name_kw (ld_glob I hg hm (PySem.W.callWith_K (h₀ := X.base) I.ok.mod.kin M.kp (thn (ha.run pos pins s σ H (fun vs H1 => ∃ m1 A1 ds, Rel X.K m1 A1 H1 ∧ RDs X.K m1 H1 ds vs ∧ Post X.K (RD X.K) W σ m1 H1 (if (D.ref A1.length :: ds).length = ps.length then (match mf (.ref A1.length :: ds) (A1 ++ [.ins C []]) with
      | .ok .non A2 => .ok (.ref A1.length) A2
      | .exc C fs A2 => .exc C fs A2
      | _ => .no) else .no) Q) I (tA.bind R E h fun m1 A1 ds vs H1 e1 R1 E1 r1 h1 => ⟨m1, A1, ds, R1, r1, h1⟩)) fun us s1 ⟨vs, H1, I1, r, m1, A1, ds, R1, r1, q⟩ => ⟨I1.kIn, make_D T M F hr gd tk hb I1 r R1 r1 q⟩) he hpl) hdb)⟩
theorem d_make0 {x : Str} (T : ClsI X.K C ca) (M : Mk X.K ca g) (F : FnD X.prog X.w X.K X.mg X.base k g fd ps mf) (hr : Room (k + 1) X.A) (gd : X.A.guards = some []) (tk : Takes X W) (hm : X.mg x = some (.ref ca)) (hb : Binds X.K fd ps []) {n : Nat} (hn : ps.length = n := by rfl)
    (hg : Gl X x := by rfl) (hdb : (x == ("__debug__" : Str)) = false := by decide) : DE X W (.Call (.Name x p) [] [] pos) (mMake C n mf mNil) := by
  subst hn
  exact ⟨fun pins s σ H Q I ⟨m, A, ρ, R, E, h⟩ => wpAny_Call_Name_kw (ld_glob I hg hm (PySem.W.callWith_K0 I.kIn M.kp (make_D (us := []) T M F hr gd tk hb I .nil R .nil h)) hdb)⟩
/-! ### is, of bools -/
def fIsB (neg : Bool) : D → D → AH → Res D := fun d e A => match d, e with
  | .bl a, .bl b => .ok (.bl (if neg then !decide (a = b) else decide (a = b))) A
  | _, _ => .no
theorem fIsB_ok {K : PySem.W.Frag} : OpD K (fIsB false) rIsB := by
  intro W σ m A H x y d e Q R hx hy h
  unfold fIsB at h
  split at h
  · cases hx; cases hy
    exact ⟨_, _, rfl, rfl, Post.here R (.bl _) h⟩
  · exact h.elim
theorem fNotB_ok {K : PySem.W.Frag} : OpD K (fIsB true) rNotB := by
  intro W σ m A H x y d e Q R hx hy h
  unfold fIsB at h
  split at h
  · cases hx; cases hy
    exact ⟨_, _, rfl, rfl, Post.here R (.bl _) h⟩
  · exact h.elim
theorem d_isB (ha : DE X W a ma) (hb : DE X W b mb) : DE X W (.Compare a [.Is] [b] pos) (mOp (fIsB false) ma mb) := d_cmp op_isBl fIsB_ok ha hb
theorem d_isntB (ha : DE X W a ma) (hb : DE X W b mb) : DE X W (.Compare a [.IsNot] [b] pos) (mOp (fIsB true) ma mb) := d_cmp op_notBl fNotB_ok ha hb
theorem t_isB (ha : DE X W a ma) (hb : DE X W b mb) : DT X W (.Compare a [.Is] [b] pos) (mTst (mOp (fIsB false) ma mb)) := t_cmp op_isBl fIsB_ok ha hb
theorem t_isntB (ha : DE X W a ma) (hb : DE X W b mb) : DT X W (.Compare a [.IsNot] [b] pos) (mTst (mOp (fIsB true) ma mb)) := t_cmp op_notBl fNotB_ok ha hb
end
end DM
end
section
set_option maxHeartbeats 2000000
namespace DM
open PySem PySem.Spec PyProof.Rows L2
/-! ### isinstance of several built-in types -/
def rIsiU (K : PySem.W.Frag) : List V → Hp → VK → Prop := fun xs H Q => ∃ (x : V) (tp : Addr) (cs : List V) (t : Value) (us : List Value) (b : Bool), xs = [x, .ref tp] ∧ SqT K H tp cs ∧ Paired ClsV cs us ∧ TyX K H x t ∧ PySem.W.kitAny K t us = some b ∧ Q (.bl b) H
theorem call_isiU {X : Cx} : CallR X (.builtin "isinstance") (rIsiU X.K) := by
  intro pins s σ H xs us Q I r h
  obtain ⟨x, tp, cs, t, ws, b, rfl, hT, k, ty, e, q⟩ := h
  obtain ⟨u1, u2, rfl, r1, r2⟩ := vals2 r
  cases (show u2 = Value.ref tp from r2)
  obtain ⟨P, Z, p, hx⟩ := kit_of I r1 ty
  obtain ⟨its, rv, ⟨o, h1, h2, n, h3⟩, _⟩ := I.tuple hT
  have e3 := ClsV.all k rv
  subst e3
  obtain ⟨oc, od, dt, sl⟩ := o
  simp only at h2 h3
  subst h2 h3
  exact PySem.W.kia_tup Z I.kIn p h1 e hx fun tk => ⟨.bl b, H, I.tok tk, rfl, q⟩
def tysOf : List D → Option (List String)
  | [] => some []
  | .ty n :: r => (tysOf r).map (n :: ·)
  | _ => none
theorem tys_rd {K : PySem.W.Frag} {m : Mp} {H : Hp} : ∀ {xs : List D} {ns : List String} {vs : List V}, tysOf xs = some ns → RDs K m H xs vs → vs = ns.map V.ty
  | [], ns, vs, h, r => by cases h; cases r; rfl
  | d :: xs, ns, vs, h, r => by
    cases r with
    | cons r rs =>
      cases d with
      | ty b =>
        simp only [tysOf, Option.map_eq_some_iff] at h
        obtain ⟨cs, h1, rfl⟩ := h
        rw [tys_rd h1 rs]
        cases r
        rfl
      | _ => simp [tysOf] at h
theorem tys_cls : ∀ ns : List String, Paired ClsV (ns.map V.ty) (ns.map Value.type)
  | [] => .nil
  | n :: ns => .cons (.ty n) (tys_cls ns)
theorem kit_tys {K : PySem.W.Frag} {t : String} (ht : t ∈ tyNames) : ∀ ns : List String, (∀ n ∈ ns, n ∈ tyNames) → PySem.W.kitAny K (.type t) (ns.map Value.type) = some (ns.any fun n => isB t n)
  | [], _ => rfl
  | n :: ns, h => by
    have e := kit_ty (K := K) (kitB_ok t ht n (h n List.mem_cons_self))
    have ih := kit_tys (K := K) ht ns fun z hz => h z (List.mem_cons_of_mem _ hz)
    rw [List.map_cons, List.any_cons]
    unfold PySem.W.kitAny
    rw [e]
    cases isB t n with
    | true => rfl
    | false => simpa using ih
def fIsiT : List D → AH → Res D := fun ds A => match ds with
  | [x, .tup ts] => (match tyName A x, tysOf ts with
    | some t, some ns => if ∀ n ∈ ns, n ∈ tyNames then .ok (.bl (ns.any fun n => isB t n)) A else .no
    | _, _ => .no)
  | _ => .no
theorem fIsiT_ok {K : PySem.W.Frag} : CallD K fIsiT (rIsiU K) := by
  intro W σ m A H xs ds Q R hx h
  unfold fIsiT at h
  split at h
  rotate_left
  · exact h.elim
  rename_i x ts
  split at h
  rotate_left
  · exact h.elim
  rename_i t ns ht hn
  split at h
  rotate_left
  · exact h.elim
  rename_i hm
  cases hx with
  | cons r1 r =>
    obtain ⟨v, rfl, r2⟩ := r.one
    cases r2 with
    | tup s rs =>
      have := tys_rd hn rs
      subst this
      exact ⟨_, _, _, _, _, _, rfl, s.sq, tys_cls ns, tyName_ok R r1 ht, kit_tys (tyName_in ht) ns hm, Post.here R (.bl _) h⟩
section
variable {X : Cx} {W : WX} {a b c e e2 tg : Expr} {es elts : List Expr} {ma mb mc me : ME} {mt mu : MT} {ms : MA} {pos p p2 p3 tpos : Pos} {kk : Nat}
theorem d_isiT (hm : X.mg "isinstance" = none) (ha : DA X W (e :: es) ms)
    (hg : Gl X "isinstance" := by rfl) (he : starEach (e :: es) X.env = (false, eval e X.env) :: starEach es X.env := by rfl) (hpl : (backTo pos (starEach es X.env)).any (·.1) = false := by rfl) :
    DE X W (.Call (.Name "isinstance" p) (e :: es) [] pos) (mCall fIsiT ms) := d_callB call_isiU fIsiT_ok hg hm (by decide +kernel) ha (by decide) (by decide) he hpl
/-! ### sum, min of two -/
def fSum : List D → AH → Res D := fun ds A => match ds with
  | [.lst xs] => match intsOf xs with
    | some ns => .ok (.int ns.sum) A
    | none => .no
  | _ => .no
theorem fSum_ok {K : PySem.W.Frag} : CallD K fSum (rSum K) := by
  intro W σ m A H xs ds Q R hx h
  unfold fSum at h
  split at h
  · obtain ⟨v, rfl, r⟩ := hx.one
    split at h
    · rename_i ns hb
      cases r with
      | lst s rs =>
        have := ints_rd hb rs
        subst this
        exact ⟨_, ns, rfl, s.sq, Post.here R (.int _) h⟩
    · exact h.elim
  · exact h.elim
theorem d_sum (hm : X.mg "sum" = none) (ha : DA X W [e] ms) (hc : X.calm = true := by rfl) (hg : Gl X "sum" := by rfl) (he : starEach [e] X.env = (false, eval e X.env) :: starEach [] X.env := by rfl) (hpl : (backTo pos (starEach [] X.env)).any (·.1) = false := by rfl) :
    DE X W (.Call (.Name "sum" p) [e] [] pos) (mCall fSum ms) := d_callB (cr_sum hc) fSum_ok hg hm (by decide +kernel) ha (by decide) (by decide) he hpl
def fMin2 : List D → AH → Res D := fun ds A => match ds with
  | [.int i, .int j] => .ok (.int (if j < i then j else i)) A
  | _ => .no
theorem fMin2_ok {K : PySem.W.Frag} : CallD K fMin2 (fun xs H Q => ∃ i j, xs = [.int i, .int j] ∧ Q (.int (if j < i then j else i)) H) := by
  intro W σ m A H xs ds Q R hx h
  unfold fMin2 at h
  split at h
  · cases hx with
    | cons r1 r =>
      obtain ⟨v, rfl, r2⟩ := r.one
      cases r1
      cases r2
      exact ⟨_, _, rfl, Post.here R (.int _) h⟩
  · exact h.elim
theorem d_min2 (hm : X.mg "min" = none) (ha : DA X W [e, e2] ms) (hc : X.calm = true := by rfl) (hg : Gl X "min" := by rfl) (he : starEach [e, e2] X.env = (false, eval e X.env) :: starEach [e2] X.env := by rfl) (hpl : (backTo pos (starEach [e2] X.env)).any (·.1) = false := by rfl) :
    DE X W (.Call (.Name "min" p) [e, e2] [] pos) (mCall fMin2 ms) := d_callB (call_min2 hc) fMin2_ok hg hm (by decide +kernel) ha (by decide) (by decide) he hpl
/-! ### lists that will change: a copy, a slice -/
def fListN : List D → AH → Res D := fun ds A => match ds with
  | [d] => match seqOf A d with
    | some xs => .ok (.ref A.length) (A ++ [.lst xs])
    | none => .no
  | _ => .no
theorem fListN_ok {K : PySem.W.Frag} : CallD K fListN (rListOf K) := by
  intro W σ m A H xs ds Q R hx h
  unfold fListN at h
  split at h
  · obtain ⟨v, rfl, r⟩ := hx.one
    split at h
    · rename_i ys hs
      obtain ⟨q, vs, rfl, sq, rs⟩ := seqOf_ok R r hs
      exact ⟨q, vs, rfl, sq, ref_new R rs h⟩
    · exact h.elim
  · exact h.elim
theorem d_listN (hm : X.mg "list" = none) (ha : DA X W [e] ms) (hg : Gl X "list" := by rfl) (he : starEach [e] X.env = (false, eval e X.env) :: starEach [] X.env := by rfl) (hpl : (backTo pos (starEach [] X.env)).any (·.1) = false := by rfl) :
    DE X W (.Call (.Name "list" p) [e] [] pos) (mCall fListN ms) := d_callTy call_list_of fListN_ok hg hm (by decide +kernel) ha (by decide) (by decide) he hpl
def fSlN : D → Option Int → Option Int → AH → Res D := fun d lo hi A => if isTup d = true then .no else match seqOf A d with
  | some xs => .ok (.ref A.length) (A ++ [.lst (cutD xs lo hi)])
  | none => .no
def mSlN (me : ME) (ml mh : MO) : ME := fun ρ A => (me ρ A).bind fun d A1 => (ml ρ A1).bind fun lo A2 => (mh ρ A2).bind fun hi A3 => fSlN d lo hi A3
theorem d_slN {lo hi : Option Expr} {ml mh : MO} (he : DE X W e me) (hl : DO X W lo ml) (hh : DO X W hi mh) : DE X W (.Subscript e (.Slice lo hi none p2) pos) (mSlN me ml mh) :=
  PEi (pe_slice sl_list he hl.go hh.go) fun σ H Q ⟨m, A, ρ, R, E, h⟩ => tE.bind R E h fun m1 A1 d v H1 e1 R1 E1 r1 h1 => tO.bind R1 E1 h1 fun m2 A2 l H2 e2 R2 E2 h2 => tO.bind R2 E2 h2 fun m3 A3 u H3 e3 R3 E3 h3 => by
    have r3 := RD.mono (e2.trans e3) _ _ r1
    unfold fSlN at h3
    split at h3
    · exact h3.elim
    · rename_i ht
      split at h3
      · rename_i xs hs
        obtain ⟨q, vs, rfl, rs, sq⟩ := seqOf_is R3 r3 hs
        rcases sq with ⟨rfl, _⟩ | ⟨_, sq⟩
        · exact (ht rfl).elim
        · exact ⟨q, vs, rfl, sq, ref_new R3 (cut_rel rs) h3⟩
      · exact h3.elim
/-! ### zip of things that may change -/
theorem iter_zipR {K : PySem.W.Frag} {m : Mp} {A : AH} {H : Hp} {d e : D} {q1 q2 : Addr} (r1 : RD K m H d (.ref q1)) (r2 : RD K m H e (.ref q2)) : Iter K (ItzK (isTup d) (isTup e) K q1 q2) m H (.zp d e) := by
  have sk : ∀ {m : Mp} {A : AH} {H : Hp} {d : D} {q : Addr} {xs : List D}, Rel K m A H → RD K m H d (.ref q) → seqOf A d = some xs → ∃ vs, RDs K m H xs vs ∧ SqK (isTup d) K H q vs := by
    intro m A H d q xs R r hs
    obtain ⟨q', vs, hq, rs, sq⟩ := seqOf_is R r hs
    cases hq
    refine ⟨vs, rs, ?_⟩
    rcases sq with ⟨rfl, sq⟩ | ⟨hd, sq⟩
    · exact sq
    · rw [hd]; exact sq
  refine ⟨fun m' A' H' all i x ex R hs hi => ?_, fun m' A' H' all i ex R hs hl => ?_⟩
  · have hs : (match seqOf A' d, seqOf A' e with | some xs, some ys => some (zipD xs ys) | _, _ => none) = some all := hs
    split at hs
    · rename_i xs ys h1 h2
      cases hs
      obtain ⟨x1, x2, rfl, g1, g2⟩ := zip_at xs ys i x hi
      obtain ⟨vs, rs1, sq1⟩ := sk R (RD.mono ex _ _ r1) h1
      obtain ⟨ws, rs2, sq2⟩ := sk R (RD.mono ex _ _ r2) h2
      obtain ⟨v, a1, a2⟩ := rs1.get g1
      obtain ⟨w, b1, b2⟩ := rs2.get g2
      refine ⟨⟨vs, ws, v, w, sq1, sq2, a1, b1⟩, fun y H'' hy => ?_⟩
      obtain ⟨T, v', w', rfl, hT, rfl, hv, hw⟩ := hy
      have := hv vs sq1
      rw [a1] at this; cases this
      have := hw ws sq2
      rw [b1] at this; cases this
      obtain ⟨R1, e1⟩ := R.new hT (.tup [v, w])
      exact ⟨R1, e1, .tup (.inl ⟨.inl upd_same, R.out hT⟩) (.cons (RD.mono e1 _ _ a2) (.cons (RD.mono e1 _ _ b2) .nil))⟩
    · cases hs
  · have hs : (match seqOf A' d, seqOf A' e with | some xs, some ys => some (zipD xs ys) | _, _ => none) = some all := hs
    split at hs
    · rename_i xs ys h1 h2
      cases hs
      obtain ⟨vs, rs1, sq1⟩ := sk R (RD.mono ex _ _ r1) h1
      obtain ⟨ws, rs2, sq2⟩ := sk R (RD.mono ex _ _ r2) h2
      rw [zip_length] at hl
      refine ⟨vs, ws, sq1, sq2, ?_⟩
      rw [← rs1.length, ← rs2.length]
      omega
    · cases hs
noncomputable def mZipR (ms : MA) : MI := fun ρ A => (ms ρ A).bind fun ds A1 => match ds with
  | [d, e] => match seqOf A1 d, seqOf A1 e with
    | some xs, some ys => .ok (.zp d e) A1
    | _, _ => .no
  | _ => .no
theorem i_zipR (hm : X.mg "zip" = none) (ha : DA X W [e, e2] ms) (hg : Gl X "zip" := by rfl) (hs : starEach [e, e2] X.env = (false, eval e X.env) :: starEach [e2] X.env := by rfl) (hpl : (backTo pos (starEach [e2] X.env)).any (·.1) = false := by rfl) :
    DI X W (.Tuple elts kk tpos) (.Call (.Name "zip" p) [e, e2] [] pos) (mZipR ms) :=
  PIi (pi_zipK hg hm ha hs hpl) fun σ H Q ⟨m, A, ρ, R, E, h⟩ => tA.bind R E h fun m1 A1 ds vs H1 e1 R1 E1 r1 h1 => by
    split at h1
    · rename_i d e
      cases r1 with
      | cons r r1 =>
        obtain ⟨v, rfl, r'⟩ := r1.one
        split at h1
        · rename_i xs ys hx hy
          obtain ⟨q1, ws1, rfl, rs1, sq1⟩ := seqOf_is R1 r hx
          obtain ⟨q2, ws2, rfl, rs2, sq2⟩ := seqOf_is R1 r' hy
          have k1 : SqK (isTup d) X.K H1 q1 ws1 := by
            rcases sq1 with ⟨rfl, sq⟩ | ⟨hd, sq⟩
            · exact sq
            · rw [hd]; exact sq
          have k2 : SqK (isTup e) X.K H1 q2 ws2 := by
            rcases sq2 with ⟨rfl, sq⟩ | ⟨hd, sq⟩
            · exact sq
            · rw [hd]; exact sq
          exact ⟨_, _, q1, q2, ws1, ws2, rfl, k1, k2, Post.here R1 (iter_zipR (A := A1) r r') h1⟩
        · exact h1.elim
    · exact h1.elim
end
end DM
end
section
set_option maxHeartbeats 2000000
namespace DM
open PySem PySem.Spec PyProof.Rows L2
section
variable {X : Cx} {W : WX} {a b c e e2 tg : Expr} {es elts : List Expr} {ma mb mc me mv mo : ME} {mt mu : MT} {ms : MA} {pos pos' p p2 p3 tpos apos cpos : Pos} {kk : Nat}
/-! ### dicts that change -/
def putKD (kvs : List (Key × D)) (k : Key) (v : D) : List (Key × D) :=
  if (kvs.any fun kv => decide (kv.1 = k)) = true then kvs.map (fun kv => if kv.1 = k then (kv.1, v) else kv) else kvs ++ [(k, v)]
def dropKD (kvs : List (Key × D)) (k : Key) : List (Key × D) := kvs.filter fun kv => decide (kv.1 ≠ k)
theorem any_keys {α β : Type} (k : Key) : ∀ {kvs : List (Key × α)} {ws : List (Key × β)}, kvs.map (·.1) = ws.map (·.1) → (kvs.any fun kv => decide (kv.1 = k)) = ws.any fun kv => decide (kv.1 = k)
  | [], [], _ => rfl
  | [], _ :: _, h => by simp at h
  | _ :: _, [], h => by simp at h
  | x :: xs, y :: ys, h => by
    simp only [List.map_cons, List.cons.injEq] at h
    rw [List.any_cons, List.any_cons, h.1, any_keys k h.2]
theorem valD_any (k : Key) : ∀ kvs : List (Key × D), (valD kvs k).isSome = kvs.any fun kv => decide (kv.1 = k) := fun kvs => by
  unfold valD
  rw [Option.isSome_map]
  induction kvs with
  | nil => rfl
  | cons x xs ih =>
    rw [List.find?_cons, List.any_cons]
    cases decide (x.1 = k) with
    | true => rfl
    | false => exact ih
theorem repl_rd {K : PySem.W.Frag} {m : Mp} {H : Hp} {k : Key} {d : D} {v : V} (r : RD K m H d v) : ∀ {kvs : List (Key × D)} {ws : List (Key × V)}, kvs.map (·.1) = ws.map (·.1) → RDs K m H (kvs.map (·.2)) (ws.map (·.2)) →
    (kvs.map fun kv => if kv.1 = k then (kv.1, d) else kv).map (·.1) = (ws.map fun kv => if kv.1 = k then (kv.1, v) else kv).map (·.1) ∧
    RDs K m H ((kvs.map fun kv => if kv.1 = k then (kv.1, d) else kv).map (·.2)) ((ws.map fun kv => if kv.1 = k then (kv.1, v) else kv).map (·.2))
  | [], [], _, _ => ⟨rfl, .nil⟩
  | [], _ :: _, h, _ => by simp at h
  | _ :: _, [], h, _ => by simp at h
  | x :: xs, y :: ys, h, hr => by
    simp only [List.map_cons, List.cons.injEq] at h hr
    cases hr with
    | cons r1 rs =>
      obtain ⟨g1, g2⟩ := repl_rd (k := k) r h.2 rs
      simp only [List.map_cons]
      by_cases e : x.1 = k
      · have e' : y.1 = k := h.1 ▸ e
        rw [if_pos e, if_pos e']
        exact ⟨by rw [g1, h.1], .cons r g2⟩
      · have e' : ¬ y.1 = k := fun z => e (h.1.trans z)
        rw [if_neg e, if_neg e']
        exact ⟨by rw [g1, h.1], .cons r1 g2⟩
theorem put_rdK {K : PySem.W.Frag} {m : Mp} {H : Hp} {k : Key} {d : D} {v : V} (r : RD K m H d v) {kvs : List (Key × D)} {ws : List (Key × V)} (h : kvs.map (·.1) = ws.map (·.1)) (hr : RDs K m H (kvs.map (·.2)) (ws.map (·.2))) :
    (putKD kvs k d).map (·.1) = (putK ws k v).map (·.1) ∧ RDs K m H ((putKD kvs k d).map (·.2)) ((putK ws k v).map (·.2)) := by
  unfold putKD putK
  rw [any_keys k h]
  split
  · exact repl_rd r h hr
  · rw [List.map_append, List.map_append, List.map_append, List.map_append, h]
    exact ⟨rfl, hr.append (.cons r .nil)⟩
theorem drop_rdK {K : PySem.W.Frag} {m : Mp} {H : Hp} {k : Key} : ∀ {kvs : List (Key × D)} {ws : List (Key × V)}, kvs.map (·.1) = ws.map (·.1) → RDs K m H (kvs.map (·.2)) (ws.map (·.2)) →
    (dropKD kvs k).map (·.1) = (dropK ws k).map (·.1) ∧ RDs K m H ((dropKD kvs k).map (·.2)) ((dropK ws k).map (·.2))
  | [], [], _, _ => ⟨rfl, .nil⟩
  | [], _ :: _, h, _ => by simp at h
  | _ :: _, [], h, _ => by simp at h
  | x :: xs, y :: ys, h, hr => by
    simp only [List.map_cons, List.cons.injEq] at h hr
    cases hr with
    | cons r1 rs =>
      obtain ⟨g1, g2⟩ := drop_rdK (k := k) h.2 rs
      unfold dropKD dropK at g1 g2 ⊢
      by_cases e : x.1 = k
      · have e' : y.1 = k := h.1 ▸ e
        rw [List.filter_cons_of_neg (by simp [e]), List.filter_cons_of_neg (by simp [e'])]
        exact ⟨g1, g2⟩
      · have e' : ¬ y.1 = k := fun z => e (h.1.trans z)
        rw [List.filter_cons_of_pos (by simp [e]), List.filter_cons_of_pos (by simp [e'])]
        exact ⟨by rw [List.map_cons, List.map_cons, g1, h.1], .cons r1 g2⟩
theorem valD_some {kvs : List (Key × D)} {ws : List (Key × V)} {k : Key} (h : kvs.map (·.1) = ws.map (·.1)) : (valD kvs k).isSome = (valV ws k).isSome := by
  rw [← valV_any, ← any_keys k h, valD_any]
/-- k in d, k not in d -/
def fDIn (neg : Bool) : D → D → AH → Res D := fun e d A => match d with
  | .ref n => match A[n]?, keyOf e with
    | some (.dk kvs), some k => .ok (.bl ((valD kvs k).isSome != neg)) A
    | _, _ => .no
  | _ => .no
theorem fDIn_rd {K : PySem.W.Frag} {m : Mp} {A : AH} {H : Hp} {neg : Bool} {e d : D} {y x : V} {σ : L2.St} {Q : VK} (R : Rel K m A H) (re : RD K m H e y) (rd : RD K m H d x) (h : Post K (RD K) W σ m H (fDIn neg e d A) Q) :
    ∃ q o, x = .ref q ∧ DGet H q y o ∧ Q (.bl (o.isSome != neg)) H := by
  unfold fDIn at h
  split at h
  · rename_i n
    split at h
    · rename_i kvs k hA hk
      cases rd with
      | ref hm =>
        obtain ⟨q, g1, ws, ⟨g2, g3⟩, g4⟩ := R.obj _ _ hA
        rw [hm] at g1; cases g1
        refine ⟨_, valV ws k, rfl, by rw [key_rd hk re]; exact DGet.k g2, ?_⟩
        rw [← valD_some g3]
        exact Post.here R (.bl _) h
    · exact h.elim
  · exact h.elim
theorem din_run (neg : Bool) {σ : L2.St} {H : Hp} {Q : VK} (h : tE X.K W (mOp (fDIn neg) ma mb) σ H Q) : tE X.K W ma σ H fun y H1 => tE X.K W mb σ H1 fun x H2 => ∃ q o, x = .ref q ∧ DGet H2 q y o ∧ Q (.bl (o.isSome != neg)) H2 := by
  obtain ⟨m, A, ρ, R, E, h⟩ := h
  exact tE.bind R E h fun m1 A1 d v H1 e1 R1 E1 r1 h1 => tE.bind R1 E1 h1 fun m2 A2 d2 v2 H2 e2 R2 E2 r2 h2 => fDIn_rd R2 (RD.mono e2 _ _ r1) r2 h2
theorem din_in {σ : L2.St} {H : Hp} {Q : VK} (h : tE X.K W (mOp (fDIn false) ma mb) σ H Q) : tDIn (tE X.K W ma) (tE X.K W mb) σ H Q := by
  have z := din_run false h
  simp only [Bool.bne_false] at z
  exact z
theorem din_nin {σ : L2.St} {H : Hp} {Q : VK} (h : tE X.K W (mOp (fDIn true) ma mb) σ H Q) : tDNotIn (tE X.K W ma) (tE X.K W mb) σ H Q := by
  have z := din_run true h
  simp only [Bool.bne_true] at z
  exact z
theorem d_din (hu : X.A.units + 64 < cLine) (ha : DE X W a ma) (hb : DE X W b mb) (hm : behindInMarks .In b = false := by rfl) : DE X W (.Compare a [.In] [b] pos) (mOp (fDIn false) ma mb) :=
  PEi (pe_cmp (pc_din (by omega) ha hb) hm) fun _ _ _ h => din_in h
theorem d_dnin (hu : X.A.units + 64 < cLine) (ha : DE X W a ma) (hb : DE X W b mb) (hm : behindInMarks .NotIn b = false := by rfl) : DE X W (.Compare a [.NotIn] [b] pos) (mOp (fDIn true) ma mb) :=
  PEi (pe_cmp (pc_dnotin (by omega) ha hb) hm) fun _ _ _ h => din_nin h
theorem t_din (hu : X.A.units + 64 < cLine) (ha : DE X W a ma) (hb : DE X W b mb) (hm : behindInMarks .In b = false := by rfl) : DT X W (.Compare a [.In] [b] pos) (mTst (mOp (fDIn false) ma mb)) :=
  PTi (pt_cmp (pc_din (by omega) ha hb) hm) fun _ _ _ h => tTstD (fun _ q => din_in q) h
theorem t_dnin (hu : X.A.units + 64 < cLine) (ha : DE X W a ma) (hb : DE X W b mb) (hm : behindInMarks .NotIn b = false := by rfl) : DT X W (.Compare a [.NotIn] [b] pos) (mTst (mOp (fDIn true) ma mb)) :=
  PTi (pt_cmp (pc_dnotin (by omega) ha hb) hm) fun _ _ _ h => tTstD (fun _ q => din_nin q) h
/-- {} -/
def mDict0 : ME := fun ρ A => .ok (.ref A.length) (A ++ [.dk []])
theorem d_dict0 : DE X W (.Dict [] [] pos) mDict0 :=
  PEi pe_dnewK fun σ H Q ⟨m, A, ρ, R, E, h⟩ => fun q hq => by
    let ⟨R1, e1⟩ := R.push (H' := upd H q (.dK [])) (o := .dk []) hq (fun q' u z => by rw [upd_ne (ne_of_none z hq)]; exact z) fun e => ⟨[], ⟨upd_same, rfl⟩, .nil⟩
    exact h _ _ _ e1 R1 (.ref (by rw [← R.len]; simp))
/-- d[k] = v -/
def mDPut (mv mo mi : ME) : MS := fun ρ A => lift (mv ρ A) ρ fun v A1 => lift (mo ρ A1) ρ fun d A2 => lift (mi ρ A2) ρ fun e A3 => match d with
  | .ref n => match A3[n]?, keyOf e with
    | some (.dk kvs), some k => if kvs.length < 16777216 then .nx ρ (A3.set n (.dk (putKD kvs k v))) else .no
    | _, _ => .no
  | _ => .no
theorem s_dput (hu : X.A.units + 64 < cLine) (ho : DE X W a mo) (hi : DE X W b mb) (hv : DE X W e mv) (hs : swapsWith e (some (.Subscript a b pos')) pos.line X.env = pure false := by rfl) : DS X W (.Assign [.Subscript a b pos'] e pos) (mDPut mv mo mb) :=
  PSi (ps_dput (by omega) ho hi hv hs) fun D0 σ H ⟨m, A, ρ, R, E, h⟩ => tE.lift R E h fun m1 A1 y v H1 e1 R1 E1 ry h1 => tE.lift R1 E1 h1 fun m2 A2 d w H2 e2 R2 E2 r2 h2 => tE.lift R2 E2 h2 fun m3 A3 i u H3 e3 R3 E3 r3 h3 => by
    replace r2 := RD.mono e3 _ _ r2
    replace ry := RD.mono e3 _ _ (RD.mono e2 _ _ ry)
    split at h3
    · rename_i n
      split at h3
      · rename_i kvs k hA hk
        split at h3
        · rename_i hlen
          cases r2 with
          | ref hm =>
            rename_i q0
            obtain ⟨q, g1, ws, ⟨g2, g3⟩, g4⟩ := R3.obj _ _ hA
            rw [hm] at g1; cases g1
            have hl : ws.length < sizeLine := by
              have := congrArg List.length g3
              rw [List.length_map, List.length_map] at this
              rw [← this, sizeLine_eq]; exact hlen
            let ⟨R4, e4⟩ := R3.write (H' := upd H3 q0 (.dK (putK ws k v))) (o := .dk (putKD kvs k y)) hm (fun p u hp z => by rw [upd_ne hp]; exact z) fun ex => by
              obtain ⟨w1, w2⟩ := put_rdK (k := k) (RD.mono ex _ _ ry) g3 (RDs.mono ex _ _ g4)
              exact ⟨_, ⟨upd_same, w1⟩, w2⟩
            refine ⟨_, _, rfl, by rw [key_rd hk r3]; exact DPut.k g2 hl, h3 m3 _ _ e4 R4 (E3.mono e4)⟩
        · exact h3.elim
      · exact h3.elim
    · exact h3.elim
/-- d.pop(k) -/
def mDPop (mo me : ME) : ME := fun ρ A => (mo ρ A).bind fun d A1 => match d with
  | .ref n => match A1[n]? with
    | some (.dk _) => (me ρ A1).bind fun e A2 => match A2[n]?, keyOf e with
      | some (.dk kvs), some k => (match valD kvs k with
        | some x => .ok x (A2.set n (.dk (dropKD kvs k)))
        | none => .no)
      | _, _ => .no
    | _ => .no
  | _ => .no
theorem d_dpop (ho : DE X W a mo) (he : DE X W e me) (hb1 : attributeBase a "pop" X.env (eval a X.env) = eval a X.env := by rfl)
    (hfew : ((backTo cpos (starEach [e] X.env)).all (fun x => !x.1) && (backToKw cpos (keywordEach [] X.env)).all (fun x => x.1.isSome)
      && decide (([e] : List Expr).length + ([] : List Keyword).length + (if ([] : List Keyword).isEmpty then 0 else 1) < 30)) = true := by rfl)
    (hline : (apos.endLine == cpos.line) = true := by rfl) (htr : backTo cpos (starEach [e] X.env) = [(false, eval e X.env)] := by rfl) : DE X W (.Call (.Attribute a "pop" apos) [e] [] cpos) (mDPop mo me) :=
  PEi (pe_dpop1 ho he ⟨hb1, hfew, hline, htr⟩) fun σ H Q ⟨m, A, ρ, R, E, h⟩ => tE.bind R E h fun m1 A1 d v H1 e1 R1 E1 r1 h1 => by
    split at h1
    · rename_i n
      split at h1
      · rename_i kvs0 hA0
        cases r1 with
        | ref hm =>
          rename_i q0
          obtain ⟨q, g1, ws0, ⟨g2, _⟩, _⟩ := R1.obj _ _ hA0
          rw [hm] at g1; cases g1
          refine ⟨_, rfl, .inl ⟨ws0, .inl g2⟩, tE.bind R1 E1 h1 fun m2 A2 i u H2 e2 R2 E2 r2 h2 => ?_⟩
          split at h2
          · rename_i kvs k hA hk
            split at h2
            · rename_i x hx
              have hm2 := e2.get hm
              obtain ⟨q, g1, ws, ⟨g2, g3⟩, g4⟩ := R2.obj _ _ hA
              rw [hm2] at g1; cases g1
              obtain ⟨v, w1, w2⟩ := val_rd g3 g4 hx
              refine ⟨ws, k, v, g2, key_rd hk r2, w1, ?_⟩
              let ⟨R4, e4⟩ := R2.write (H' := upd H2 q0 (.dK (dropK ws k))) (o := .dk (dropKD kvs k)) hm2 (fun p u hp z => by rw [upd_ne hp]; exact z) fun ex => by
                obtain ⟨w1, w2⟩ := drop_rdK (k := k) g3 (RDs.mono ex _ _ g4)
                exact ⟨_, ⟨upd_same, w1⟩, w2⟩
              exact h2 _ _ _ e4 R4 (RD.mono e4 _ _ w2)
            · exact h2.elim
          · exact h2.elim
      · exact h1.elim
    · exact h1.elim
end
end DM
end
section
set_option maxHeartbeats 2000000
namespace DM
open PySem PySem.Spec PyProof.Rows L2
section
variable {X : Cx} {W : WX} {a b c e e2 o tg : Expr} {es elts : List Expr} {ma mb mc me mv mo : ME} {mt mu : MT} {ms : MA} {pos pos' p p2 p3 tpos apos cpos : Pos} {kk : Nat} {C f : Str} {ca : Addr}
/-! ### xs.insert(i, y), xs.remove(k) of whole numbers -/
def fInsL : Nat → List D → AH → Res D := fun n ds A => match ds with
  | [.int i, x] => match A[n]? with
    | some (.lst xs) => if xs.length < 16777216 ∧ 0 ≤ i ∧ i < 9223372036854775808 then .ok .non (A.set n (.lst (xs.take i.toNat ++ [x] ++ xs.drop i.toNat))) else .no
    | _ => .no
  | _ => .no
theorem d_insL (ho : DE X W o mo) (ha : DA X W [e, e2] ms) (hb1 : attributeBase o "insert" X.env (eval o X.env) = eval o X.env := by rfl)
    (hfew : ((backTo pos (starEach [e, e2] X.env)).all (fun x => !x.1) && (backToKw pos (keywordEach [] X.env)).all (fun x => x.1.isSome)
      && decide ([e, e2].length + ([] : List Keyword).length + (if ([] : List Keyword).isEmpty then 0 else 1) < 30)) = true := by rfl)
    (hline : (apos.endLine == pos.line) = true := by rfl) (hs : starEach [e, e2] X.env = (false, eval e X.env) :: starEach [e2] X.env := by rfl) (hpl : (backTo pos (starEach [e2] X.env)).any (·.1) = false := by rfl) :
    DE X W (.Call (.Attribute o "insert" apos) [e, e2] [] pos) (mMet fInsL mo ms) :=
  PEi (pe_bm PySem.F.plainAttrs_list PySem.F.slot_list_insert PySem.F.type_list_insert mt_insert ho ha hb1 hfew hline hs hpl) fun σ H Q ⟨m, A, ρ, R, E, h⟩ => tE.bind R E h fun m1 A1 d v H1 e1 R1 E1 r1 h1 => by
    split at h1
    · rename_i n
      split at h1
      rotate_left
      · exact h1.elim
      rename_i xs0 hA0
      cases r1 with
      | ref hm =>
        rename_i q
        obtain ⟨ws, hw, _⟩ := R1.lst hm hA0
        refine ⟨.inl ⟨rfl, ws, .inl (.inl hw)⟩, tA.bind R1 E1 h1 fun m2 A2 ds vs H2 e2 R2 E2 r2 h2 => ?_⟩
        unfold fInsL at h2
        split at h2
        · rename_i i x
          cases r2 with
          | cons ri rs =>
            obtain ⟨y, rfl, ry⟩ := rs.one
            cases ri
            split at h2
            · rename_i xs hA
              split at h2
              · rename_i hz
                have hm2 := e2.get hm
                obtain ⟨us, h4, rw4⟩ := R2.lst hm2 hA
                exact ⟨q, us, i, y, rfl, rfl, h4, by rw [← rw4.length, sizeLine_eq]; exact hz.1, hz.2.1, hz.2.2, wr_lst R2 hm2 (((rw4.take _).append (.cons ry .nil)).append (rw4.drop _)) .non h2⟩
              · exact h2.elim
            · exact h2.elim
        · exact h2.elim
    · exact h1.elim
def fRemL : Nat → List D → AH → Res D := fun n ds A => match ds with
  | [.int k] => match A[n]? with
    | some (.lst xs) => match intsOf xs with
      | some ns => if k ∈ ns then .ok .non (A.set n (.lst ((ns.erase k).map D.int))) else .no
      | none => .no
    | _ => .no
  | _ => .no
def mRemL (mo me : ME) : ME := fun ρ A => (mo ρ A).bind fun d A1 => match d with
  | .ref n => (match A1[n]? with
    | some (.lst _) => (me ρ A1).bind fun i A2 => fRemL n [i] A2
    | _ => .no)
  | _ => .no
theorem d_remL (hc : X.calm = true) (tk : Takes X W) (ho : DE X W o mo) (he : DE X W e me) (hb1 : attributeBase o "remove" X.env (eval o X.env) = eval o X.env := by rfl)
    (hfew : ((backTo cpos (starEach [e] X.env)).all (fun x => !x.1) && (backToKw cpos (keywordEach [] X.env)).all (fun x => x.1.isSome)
      && decide (([e] : List Expr).length + ([] : List Keyword).length + (if ([] : List Keyword).isEmpty then 0 else 1) < 30)) = true := by rfl)
    (hline : (apos.endLine == cpos.line) = true := by rfl) (hs : starEach [e] X.env = (false, eval e X.env) :: starEach [] X.env := by rfl) (hpl : (backTo cpos (starEach [] X.env)).any (·.1) = false := by rfl) :
    DE X W (.Call (.Attribute o "remove" apos) [e] [] cpos) (mRemL mo me) :=
  PEi (pe_remX hc tk ho he hb1 hfew hline hs hpl) fun σ H Q ⟨m, A, ρ, R, E, h⟩ => tE.bind R E h fun m1 A1 d v H1 e1 R1 E1 r1 h1 => by
    split at h1
    · rename_i n
      split at h1
      rotate_left
      · exact h1.elim
      rename_i xs0 hA0
      cases r1 with
      | ref hm =>
        rename_i q
        obtain ⟨ws, hw, _⟩ := R1.lst hm hA0
        refine ⟨.inl ⟨rfl, ws, .inl (.inl hw)⟩, tE.bind R1 E1 h1 fun m2 A2 i u H2 e2 R2 E2 r2 h2 => ?_⟩
        unfold fRemL at h2
        split at h2
        · rename_i k heq
          cases heq
          cases r2
          split at h2
          · rename_i xs hA
            split at h2
            · rename_i ns hn
              split at h2
              · rename_i hk
                have hm2 := e2.get hm
                obtain ⟨us, h4, rw4⟩ := R2.lst hm2 hA
                have e := ints_rd hn rw4
                subst e
                exact ⟨q, ns, k, rfl, rfl, h4, fun _ => wr_lst R2 hm2 (rds_ints _) .non h2, fun z => absurd hk z⟩
              · exact h2.elim
            · exact h2.elim
          · exact h2.elim
        · exact h2.elim
    · exact h1.elim
/-! ### o.f += i -/
def mAddF (C f : Str) (mo mv : ME) : MS := fun ρ A => lift (mo ρ A) ρ fun d A1 => match d with
  | .ref n => match A1[n]? with
    | some (.ins C' fs) => if C' = C then (match fs.lookup f with
      | some (.int i) => lift (mv ρ A1) ρ fun y A2 => (match y, A2[n]? with
        | .int j, some (.ins C2 fs2) => if C2 = C ∧ fs2.length < 1000 then .nx ρ (A2.set n (.ins C (putFD f (.int (i + j)) fs2))) else .no
        | _, _ => .no)
      | _ => .no) else .no
    | _ => .no
  | _ => .no
theorem s_addF (T : ClsI X.K C ca) (nf : NoAttr X.K ca f) (ho : DE X W o mo) (hv : DE X W e mv) : DS X W (.AugAssign (.Attribute o f tpos) .Add e pos) (mAddF C f mo mv) :=
  PSi (ps_fldaug ho hv in_add) fun D0 σ H ⟨m, A, ρ, R, E, h⟩ => tE.lift R E h fun m1 A1 d v H1 e1 R1 E1 r1 h1 => by
    split at h1
    · rename_i n
      split at h1
      · rename_i C' fs hA
        split at h1
        · rename_i hC
          subst hC
          split at h1
          · rename_i i hx
            cases r1 with
            | ref hm =>
              rename_i q0
              obtain ⟨q, g1, gs, ⟨c', dx, k1, k2, k3, k4, k5⟩, r⟩ := R1.obj _ _ hA
              rw [hm] at g1; cases g1
              have k1' := k1
              rw [T.nm] at k1; cases k1
              obtain ⟨v, w1, w2⟩ := fld_rel k5 r hx
              refine ⟨_, _, dx, gs, v, rfl, k2, T.cl, nf, w1, tE.lift R1 E1 h1 fun m2 A2 y u H2 e2 R2 E2 r2 h2 => ?_⟩
              split at h2
              · rename_i j C2 fs2 hA2
                split at h2
                · rename_i hh
                  obtain ⟨hC2, hlen⟩ := hh
                  subst hC2
                  cases r2
                  cases w2
                  refine ⟨i, j, rfl, rfl, ?_⟩
                  have hm2 := e2.get hm
                  obtain ⟨q, g1, gs2, ⟨c2, dx2, l1, l2, l3, l4, l5⟩, r3⟩ := R2.obj _ _ hA2
                  rw [hm2] at g1; cases g1
                  have l1' := l1
                  rw [T.nm] at l1; cases l1
                  obtain ⟨R3, e3⟩ := set_fld (f := f) R2 hm2 l1' l2 l3 l4 l5 r3 (RD.int (i + j))
                  have hl : gs2.length < 1000 := by
                    have := congrArg List.length l5
                    rw [List.length_map, List.length_map] at this
                    omega
                  exact ⟨dx2, gs2, l2, hl, h2 m2 _ _ e3 R3 (E2.mono e3)⟩
                · exact h2.elim
              · exact h2.elim
          · exact h1.elim
        · exact h1.elim
      · exact h1.elim
    · exact h1.elim
end
end DM
end
section
set_option maxHeartbeats 4000000
namespace DM
open PySem PySem.Spec PyProof.Rows L2
/-! ### set(xs) of a list of whole numbers, and sorted(set(xs)) -/
abbrev freshSet (w : World) : Obj := { cls := .type "set", dict := none, data := .set #[] 0 (.fresh 0 0 (!w.params.followText "set-order")) }
abbrev listIt (l : Addr) : Obj := { cls := .type "list_iterator", data := .fields #[.ref l, .int 0 0] }
section
variable {P : Program} {w : World} {A : Around} {E : Value → Shared → Prop} {s : Shared}
/-- a fresh set takes in what a list holds -/
theorem set_takes {l a : Addr} {items : Array Value} {ns : List Int} {G : Value → Shared → Prop} (calm : A.handled = none) (hS : s.heap.get? a = some (freshSet w)) (lo : l ≠ s.heap.objs.size) (la : l ≠ a) (hl : s.heap.IsList l items) (hi : IntsAre items.toList ns) (hb : ns.length + 1 < scanBound)
    (fin : ∀ (h' : Heap) (tk c : Nat), SetR w h' a (fun j => decide (j ∈ ns)) c → c ≤ ns.length → (∀ b o, b ≠ a → s.heap.get? b = some o → h'.get? b = some o) → G .none { s with heap := h', toks := tk }) :
    codeAny (model P w) A (.call (.builtin "set.__init__") ⟨[.ref a, .ref l], []⟩) (wants G E) s := by
  have hT : s.TypeIs (.ref a) "set" := ⟨_, hS, rfl⟩
  refine codeAny_call_builtin F.called_set.init.plain F.entry_set_init (check_set_init_1 hT ?_)
  have sz : items.size = ns.length := by rw [← IntsAre.length hi, Array.length_toList]
  have told : ∀ (i : Nat) (v : Value), items[i]? = some v → ∃ k t, ns[i]? = some k ∧ v = .int k t := fun i v hv => by
    have hlt : i < ns.length := by rw [← sz]; exact (Array.getElem?_eq_some_iff.mp hv).1
    obtain ⟨t, e⟩ := PyProof.Rows.IntsAre.int_at hi i v (by rw [Array.getElem?_toList]; exact hv)
    exact ⟨ns[i], t, List.getElem?_eq_getElem hlt, by rw [e, List.getD_eq_getElem?_getD, List.getElem?_eq_getElem hlt] <;> rfl⟩
  have big : a < s.heap.objs.size := Heap.lt_size hS
  have isL := hl
  obtain ⟨⟨oc, od, odt, osl⟩, ho, e1, nl, e2⟩ := hl
  simp only at e1 e2
  subst e1 e2
  have s1 := F.sub_list_set
  have s2 := F.sub_list_frozenset
  have s3 : (Value.type "list" == Value.type "dict") = false := by decide
  unfold Builtin.«set.__init__» noKeywords Builtin.Frozenset.updateFrom
  generalize hPI : pyIter = PI
  wp_walk
  subst hPI
  refine wpAny_pyIter_list isL (wpAny_bind (wpAny_runValue ?_))
  have calm3 : A.in1.in1.handled = none := by simp [calm]
  have apart : a ∉ [s.heap.objs.size, l] := by
    simp only [List.mem_cons, List.not_mem_nil, or_false, not_or]
    exact ⟨Nat.ne_of_lt big, Ne.symm la⟩
  have g2 : (s.heap.push (listIt l)).get? a = some (freshSet w) := Heap.get?_push_of_some _ hS
  refine set_update_ints ((Walks.list calm3 _ l lo items).toS) a apart ns sz hb told (items.size - 0) 0 _ (by omega) (Nat.zero_le _) ?stand ?fresh fun s' c moved hc hR => ?_
  case stand => exact ⟨⟨_, Heap.get?_push_size _ rfl, rfl, rfl⟩, isL.push _⟩
  case fresh => exact ⟨0, Nat.le_refl 0, setR_new_at (w := w) (ns := ns) g2⟩
  obtain ⟨h', g2, d2, tk2, os2⟩ := s'
  obtain rfl : g2 = s.gens := moved.gens
  obtain rfl : d2 = s.drawn := moved.drawn
  obtain rfl : os2 = s.os := moved.os
  refine wpAny_pure ?_
  show wpAny _ _ (ret Value.none) _ _ _
  refine wpAny_pure (fin h' tk2 c hR (by rw [← sz]; exact hc) fun b o hb e => moved.heap b o ?_ (Heap.get?_push_of_some _ e))
  simp only [List.mem_cons, List.not_mem_nil, or_false, not_or]
  exact ⟨hb, Nat.ne_of_lt (Heap.lt_size e)⟩
/-- set(l) -/
theorem set_of_list {l : Addr} {items : Array Value} {ns : List Int} {Q : Value → Shared → Prop} (calm : A.handled = none) (hl : s.heap.IsList l items) (hi : IntsAre items.toList ns) (hb : ns.length + 1 < scanBound)
    (fin : ∀ (h' : Heap) (tk c : Nat), SetR w h' s.heap.objs.size (fun j => decide (j ∈ ns)) c → c ≤ ns.length → (∀ b o, s.heap.get? b = some o → h'.get? b = some o) → Q (.ref s.heap.objs.size) { s with heap := h', toks := tk }) :
    wpAny (model P w) A (call (.type "set") [.ref l]) Q E s := by
  obtain ⟨mh, ml, line⟩ := F.called_set.mro
  have f1 := F.called_set.made
  have f2 := F.called_set.sub
  have f3 := F.called_set.notType
  have f4 := F.called_set.canCreate
  have f5 := F.typeCall_set_1 (.ref l)
  have there : l < s.heap.objs.size := by
    obtain ⟨o, ho, _⟩ := hl
    exact Heap.lt_size ho
  refine wpAny_call (codeAny_of_tree ?_)
  show wpAny _ _ (callAny (.type "set") _) _ _ _
  refine wpAny_pure ⟨Code.quiet_builtin _ (by decide +kernel), codeAny_builtin F.entry_type_call ?_⟩
  rw [Around.under_plain (weight_type_call_type "set" [.ref l] []) rfl]
  repeat (any_goals (first | assumption | wp_step))
  refine codeAny_mono (code_set_led1 (.ref l) (E := E) (Q₁ := fun x s₁ => x = .ref s.heap.objs.size ∧ s₁ = { s with heap := s.heap.push (freshSet w) }) ⟨rfl, rfl⟩) fun r s₁ z => ?_
  cases r with
  | error x => exact z
  | ok fl =>
    cases fl with
    | next => exact z.elim
    | brk => exact z.elim
    | cont => exact z.elim
    | ret x =>
      obtain ⟨rfl, rfl⟩ := z
      have hS : (s.heap.push (freshSet w)).get? s.heap.objs.size = some (freshSet w) := Heap.get?_push_size _ rfl
      have hT : Shared.TypeIs { s with heap := s.heap.push (freshSet w) } (.ref s.heap.objs.size) "set" := ⟨_, hS, rfl⟩
      have g1 := F.called_set.init.lookup
      have g2 := F.called_set.init.bind (.ref s.heap.objs.size)
      repeat (any_goals (first | assumption | wp_step))
      refine codeAny_mono (set_takes (E := E) (G := fun x s₂ => x = .none ∧ ∃ h' tk c, s₂ = { s with heap := h', toks := tk } ∧ SetR w h' s.heap.objs.size (fun j => decide (j ∈ ns)) c ∧ c ≤ ns.length ∧ (∀ b o, s.heap.get? b = some o → h'.get? b = some o))
        (s := { s with heap := s.heap.push (freshSet w) }) (by simpa using calm) hS (by rw [Heap.size_push]; exact Nat.ne_of_lt (Nat.lt_succ_of_lt there)) (Nat.ne_of_lt there) (hl.push _) hi hb fun h' tk c hR hc k => ⟨rfl, h', tk, c, rfl, hR, hc, fun b o e => k b o (Nat.ne_of_lt (Heap.lt_size e)) (Heap.get?_push_of_some _ e)⟩) fun r₂ s₂ z => ?_
      cases r₂ with
      | error x => exact z
      | ok fl =>
        cases fl with
        | next => exact z.elim
        | brk => exact z.elim
        | cont => exact z.elim
        | ret x =>
          obtain ⟨rfl, h', tk, c, rfl, hR, hc, k⟩ := z
          repeat (any_goals (first | assumption | wp_step))
          exact fin _ _ _ hR hc k
end
/-! ### sorted(set(xs)) -/
def insS (k : Int) : List Int → List Int
  | [] => [k]
  | x :: r => if k < x then k :: x :: r else if k = x then x :: r else x :: insS k r
/-- what a list holds, ascending, each once -/
def sset : List Int → List Int
  | [] => []
  | k :: r => insS k (sset r)
theorem mem_insS {k j : Int} : ∀ {l : List Int}, j ∈ insS k l ↔ j = k ∨ j ∈ l
  | [] => by simp [insS]
  | x :: r => by
    unfold insS
    split
    · simp
    · split
      · rename_i h
        subst h
        simp
      · rw [List.mem_cons, mem_insS, List.mem_cons]
        constructor
        · rintro (h | h | h)
          · exact .inr (.inl h)
          · exact .inl h
          · exact .inr (.inr h)
        · rintro (h | h | h)
          · exact .inr (.inl h)
          · exact .inl h
          · exact .inr (.inr h)
theorem insS_up {k : Int} : ∀ {l : List Int}, l.Pairwise (· < ·) → (insS k l).Pairwise (· < ·)
  | [], _ => by simp [insS]
  | x :: r, h => by
    have h1 := List.pairwise_cons.mp h
    unfold insS
    split
    · rename_i hk
      refine List.pairwise_cons.mpr ⟨fun j hj => ?_, h⟩
      rcases List.mem_cons.mp hj with rfl | hj
      · exact hk
      · have := h1.1 j hj
        omega
    · split
      · exact h
      · refine List.pairwise_cons.mpr ⟨fun j hj => ?_, insS_up h1.2⟩
        rcases mem_insS.mp hj with rfl | hj
        · omega
        · exact h1.1 j hj
theorem mem_sset {j : Int} : ∀ {l : List Int}, j ∈ sset l ↔ j ∈ l
  | [] => by simp [sset]
  | k :: r => by
    unfold sset
    rw [mem_insS, mem_sset, List.mem_cons]
theorem sset_up : ∀ l : List Int, (sset l).Pairwise (· < ·)
  | [] => List.Pairwise.nil
  | _ :: r => insS_up (sset_up r)
/-- ascending lists with the same members are the same -/
theorem up_ext : ∀ {a b : List Int}, a.Pairwise (· < ·) → b.Pairwise (· < ·) → (∀ k, k ∈ a ↔ k ∈ b) → a = b
  | [], [], _, _, _ => rfl
  | [], y :: b, _, _, h => absurd ((h y).mpr List.mem_cons_self) (by simp)
  | x :: a, [], _, _, h => absurd ((h x).mp List.mem_cons_self) (by simp)
  | x :: a, y :: b, h1, h2, h => by
    obtain ⟨p1, q1⟩ := List.pairwise_cons.mp h1
    obtain ⟨p2, q2⟩ := List.pairwise_cons.mp h2
    have e : x = y := by
      rcases List.mem_cons.mp ((h x).mp List.mem_cons_self) with z | z
      · exact z
      · rcases List.mem_cons.mp ((h y).mpr List.mem_cons_self) with z2 | z2
        · exact z2.symm
        · have := p1 y z2
          have := p2 x z
          omega
    subst e
    rw [up_ext q1 q2 fun k => ⟨fun z => ?_, fun z => ?_⟩]
    · rcases List.mem_cons.mp ((h k).mp (List.mem_cons_of_mem _ z)) with rfl | z2
      · exact absurd (p1 k z) (by omega)
      · exact z2
    · rcases List.mem_cons.mp ((h k).mpr (List.mem_cons_of_mem _ z)) with rfl | z2
      · exact absurd (p2 k z) (by omega)
      · exact z2
theorem sset_eq {a l : List Int} (h : a.Pairwise (· < ·)) (hm : ∀ k, k ∈ a ↔ k ∈ l) : sset l = a := up_ext (sset_up l) h fun k => mem_sset.trans (hm k).symm
theorem insS_len {k : Int} : ∀ {l : List Int}, (insS k l).length ≤ l.length + 1
  | [] => by simp [insS]
  | x :: r => by
    unfold insS
    split
    · simp
    · split
      · simp
      · have := insS_len (k := k) (l := r)
        simp only [List.length_cons]
        omega
theorem sset_len : ∀ l : List Int, (sset l).length ≤ l.length
  | [] => Nat.le_refl _
  | k :: r => by
    have h1 := insS_len (k := k) (l := sset r)
    have h2 := sset_len r
    unfold sset
    simp only [List.length_cons]
    omega
section
variable {X : Cx} {W : WX} {e : Expr} {me : ME} {p p2 pos pos2 : Pos}
def rSetL (K : PySem.W.Frag) (w : World) : List V → Hp → VK → Prop := fun xs H Q => ∃ (l : Addr) (ns : List Int), xs = [.ref l] ∧ SqL K H l (ns.map V.int) ∧ ns.length < 64 ∧
  ∀ (a : Addr) (c : Nat), H a = none → c ≤ ns.length → Q (.ref a) (upd H a (SetO w a (fun j => decide (j ∈ ns)) c))
theorem cr_setL (hc : X.calm = true) : CallR X (.type "set") (rSetL X.K X.w) := by
  intro pins s σ H xs us Q I r h
  obtain ⟨l, ns, rfl, sq, few, q⟩ := h
  rw [Vals.ref1 r]
  obtain ⟨its, rv, pl, hz⟩ := I.list sq
  refine set_of_list (I.ok.hd hc) pl.isList (ns := ns) (by simpa using rv.ints) (by have z : (65 : Nat) < scanBound := (by decide +kernel); omega) fun h' tk c R hcn k => ?_
  exact ⟨.ref _, upd H s.heap.objs.size (SetO X.w s.heap.objs.size (fun j => decide (j ∈ ns)) c), I.laid (t' := tk) k (Nat.le_refl _) (setO_new R), rfl, q _ c (I.hok.fresh (Nat.le_refl _)) hcn⟩
/-- the list's members in order, each once -/
def fSortSet : List D → AH → Res D := fun ds A => match ds with
  | [d] => if isTup d = true then .no else match seqOf A d with
    | some xs => match intsOf xs with
      | some ns => if ns.length < 64 then .ok (.lst ((sset ns).map D.int)) A else .no
      | none => .no
    | none => .no
  | _ => .no
theorem sortSetD {σ : L2.St} {H : Hp} {Q : VK} {ms : MA} (h : tE X.K W (mCall fSortSet ms) σ H Q) : tA X.K W ms σ H fun vs H1 => rSetL X.K X.w vs H1 fun x H2 => rSortedSet X.w [x] H2 Q := by
  obtain ⟨m, A, ρ, R, E, h⟩ := h
  refine tA.bind R E h fun m1 A1 ds vs H1 e1 R1 E1 r1 h1 => ?_
  unfold fSortSet at h1
  split at h1
  rotate_left
  · exact h1.elim
  obtain ⟨v, rfl, rv⟩ := r1.one
  split at h1
  · exact h1.elim
  rename_i d ht
  split at h1
  rotate_left
  · exact h1.elim
  rename_i xs hs
  split at h1
  rotate_left
  · exact h1.elim
  rename_i ns hn
  split at h1
  rotate_left
  · exact h1.elim
  rename_i few
  obtain ⟨a, us, rfl, rs, z⟩ := seqOf_is R1 rv hs
  have hL : SqL X.K H1 a us := by
    rcases z with ⟨rfl, _⟩ | ⟨_, z⟩
    · exact absurd rfl ht
    · exact z
  have := ints_rd hn rs
  subst this
  refine ⟨a, ns, rfl, hL, few, fun b c hb hc => ⟨b, _, c, rfl, upd_same, by omega, fun out q up mem len hq => ?_⟩⟩
  let ⟨R2, e2⟩ := R1.new hb (SetO X.w b (fun j => decide (j ∈ ns)) c)
  have eo : sset ns = out := sset_eq up fun k => by rw [mem k]; simp
  rw [eo] at h1
  exact lst_new R2 (rds_ints _) (Post.mono e2 h1) q hq
theorem d_sortSet (hc : X.calm = true) (hm : X.mg "sorted" = none) (hm2 : X.mg "set" = none) (ha : DE X W e me) (hg : Gl X "sorted" := by rfl) (hg2 : Gl X "set" := by rfl)
    (he1 : starEach [e] X.env = (false, eval e X.env) :: starEach [] X.env := by rfl) (he2 : starEach [.Call (.Name "set" p2) [e] [] pos2] X.env = (false, eval (.Call (.Name "set" p2) [e] [] pos2) X.env) :: starEach [] X.env := by rfl) (hpl : (backTo pos2 (starEach [] X.env)).any (·.1) = false := by rfl) (hpl2 : (backTo pos (starEach [] X.env)).any (·.1) = false := by rfl) :
    DE X W (.Call (.Name "sorted" p) [.Call (.Name "set" p2) [e] [] pos2] [] pos) (mCall fSortSet (mCons me mNil)) :=
  PEi (pe_callB (cr_sortedSet hc) hg hm (by decide +kernel) (pa_cons (pe_callTy (cr_setL hc) hg2 hm2 PyProof.Rows.boot_set (a_cons ha a_nil he1) (by decide) (by decide) he1 hpl) pa_nil he2) (by decide) (by decide) he2 hpl2) fun _ _ _ h => sortSetD h
end
end DM
namespace DM
open PySem PySem.Spec PyProof.Rows L2
theorem units64 {k : Nat} {A : Around} (r : Room k A) : A.units + 64 < cLine := by have := r.un; omega
section
variable {X : Cx} {j k : Nat} {a f : Addr} {oe : Obj} {pn : List (Addr × Obj)} {fd : FuncData} {ps : List Str} {mf : List D → AH → Res D} {x : Str} {p pos : Pos} {e : Expr} {es : List Expr} {ms : MA}
/-- f(b, ..) in the suite for the exception at a -/
theorem d_callS (F : FnH X.prog X.w X.K X.mg X.base k f fd ps mf) (hr : Room j X.A) (gd : X.A.guards = some []) (hm : X.mg x = some (.ref f)) (hk : PySem.W.keepIn X.K (.ref f) = true) (hb : Binds X.K fd ps []) (ha : DA (X.suite a ((a, oe) :: pn)) WNo (e :: es) ms) {n : Nat} (hkj : k ≤ j := by decide) (hstk : X.stack = X.env :: X.outer := by rfl) (hn : ps.length = n := by rfl)
    (hg : Gl X x := by rfl) (hdb : (x == ("__debug__" : Str)) = false := by decide) (he : starEach (e :: es) X.env = (false, eval e X.env) :: starEach es X.env := by rfl) (hpl : (backTo pos (starEach es X.env)).any (·.1) = false := by rfl) :
    DE (X.suite a ((a, oe) :: pn)) WNo (.Call (.Name x p) (e :: es) [] pos) (mCallF n mf ms) :=
  have r1 := (L2H.roomH_of hr).mono hkj
  have r2 : L2H.RoomH k (X.suite a ((a, oe) :: pn)).A := ⟨by have := r1.dp; first | exact this | simpa [Around.mark] using this, by have := r1.un; first | exact this | simpa [Around.mark] using this⟩
  have r3 : (X.suite a ((a, oe) :: pn)).A.guards = some [] := by first | exact gd | simpa [Around.mark] using gd
  d_callH (X := X.suite a ((a, oe) :: pn)) F r2 hot_suite r3 hstk hm hk hb ha hn hg hdb he hpl
end
end DM
end
section
set_option maxHeartbeats 1000000
namespace DM
open PySem PySem.Spec PyProof.Rows L2
/-! ### numbers as data -/
theorem toPys_ints : ∀ L : List Int, toPys (L.map D.int) = some (L.map PyData.int)
  | [] => rfl
  | x :: L => by
    simp only [List.map_cons, toPys, toPy, toPys_ints L]
theorem toPysG_ints (g : Nat → Option PyData) : ∀ L : List Int, toPysG g (L.map D.int) = some (L.map PyData.int)
  | [] => rfl
  | x :: L => by
    simp only [List.map_cons, toPysG, toPyG, toPysG_ints g L]
theorem canLays_ints : ∀ L : List Int, PyData.canLayAll0 (L.map PyData.int) = true
  | [] => rfl
  | x :: L => by simp only [List.map_cons, PyData.canLayAll0, PyData.canLay0, canLays_ints L, Bool.and_self]
theorem depths_ints : ∀ L : List Int, PyData.depthAll (L.map PyData.int) ≤ 1
  | [] => by decide
  | x :: L => by
    have h := depths_ints L
    simp only [List.map_cons, PyData.depthAll, PyData.depth] at h ⊢
    omega
theorem shaped_lints (L : List Int) : SeqAt.shaped (.list (L.map PyData.int)) = true := by
  have h := depths_ints L
  have h1 : PyData.canLay0 (.list (L.map PyData.int)) = true := by simp only [PyData.canLay0, canLays_ints]
  have h2 : PyData.depth (.list (L.map PyData.int)) ≤ 64 := by
    simp only [PyData.depth]
    omega
  unfold SeqAt.shaped
  rw [h1, decide_eq_true h2]
  rfl
theorem shaped_tints (L : List Int) : SeqAt.shaped (.tuple (L.map PyData.int)) = true := by
  have h := depths_ints L
  have h1 : PyData.canLay0 (.tuple (L.map PyData.int)) = true := by simp only [PyData.canLay0, canLays_ints]
  have h2 : PyData.depth (.tuple (L.map PyData.int)) ≤ 64 := by
    simp only [PyData.depth]
    omega
  unfold SeqAt.shaped
  rw [h1, decide_eq_true h2]
  rfl
theorem eqvAll_nil (xs : List PyData) : PyData.eqvAll xs [] = xs.isEmpty := by
  cases xs <;> rfl
/-- the drawing object: at h the pair of the list at q and the number -/
def HS (h q : Nat) (A : AH) : Prop := h ≠ q ∧ ∃ (L : List Int) (s : Int), A[h]? = some (.lst [.ref q, .int s]) ∧ A[q]? = some (.lst (L.map D.int)) ∧ L.length ≤ 63 ∧ 0 ≤ s ∧ s < 2147483647
def Drawn (h q : Nat) (A A' : AH) : Prop := A'.length = A.length ∧ HS h q A' ∧ ∀ n, n ≠ h → n ≠ q → A'[n]? = A[n]?
theorem Drawn.trans {h q : Nat} {A B C : AH} (a : Drawn h q A B) (b : Drawn h q B C) : Drawn h q A C := ⟨b.1.trans a.1, b.2.1, fun n h1 h2 => (b.2.2 n h1 h2).trans (a.2.2 n h1 h2)⟩
/-- one object changed -/
def Put (q : Nat) (o : AO) (A A' : AH) : Prop := A'.length = A.length ∧ A'[q]? = some o ∧ ∀ n, n ≠ q → A'[n]? = A[n]?
theorem Put.set {q : Nat} {o u : AO} {A : AH} (h : A[q]? = some u) : Put q o A (A.set q o) := by
  refine ⟨List.length_set .., List.getElem?_set_self (List.getElem?_eq_some_iff.mp h).1, fun n hn => List.getElem?_set_ne (Ne.symm hn)⟩
theorem Put.trans {q : Nat} {o u : AO} {A B C : AH} (a : Put q o A B) (b : Put q u B C) : Put q u A C := ⟨b.1.trans a.1, b.2.1, fun n h => (b.2.2 n h).trans (a.2.2 n h)⟩
theorem at_ref0 {q : Nat} {s : Int} : atI [D.ref q, D.int s] 0 = some (D.ref q) := rfl
theorem at_ref1 {q : Nat} {s : Int} : atI [D.ref q, D.int s] 1 = some (D.int s) := rfl
theorem seqOf_ref {A : AH} {n : Nat} {xs : List D} (h : A[n]? = some (.lst xs)) : seqOf A (.ref n) = some xs := by
  simp only [seqOf, h]
theorem ix_ref {A : AH} {n : Nat} {xs : List D} {i : Int} {v : D} (h : A[n]? = some (.lst xs)) (hv : atI xs i = some v) : fIx (.ref n) (.int i) A = .ok v A := by
  unfold fIx
  simp only [seqOf_ref h, hv]
theorem ix_lst {A : AH} {xs : List D} {i : Int} {v : D} (hv : atI xs i = some v) : fIx (.lst xs) (.int i) A = .ok v A := by
  unfold fIx
  simp only [seqOf, hv]
theorem ix_tup {A : AH} {xs : List D} {i : Int} {v : D} (hv : atI xs i = some v) : fIx (.tup xs) (.int i) A = .ok v A := by
  unfold fIx
  simp only [seqOf, hv]
theorem eq_ints {A : AH} {i j : Int} {neg : Bool} : fEq neg (.int i) (.int j) A = .ok (.bl (if neg then !decide (i = j) else decide (i = j))) A := rfl
theorem eq_refnil {A : AH} {n : Nat} {L : List Int} (h : A[n]? = some (.lst (L.map D.int))) {neg : Bool} : fEq neg (.ref n) (.lst []) A = .ok (.bl (if neg then !L.isEmpty else L.isEmpty)) A := by
  have hz : SeqAt.shaped (.list []) = true := by decide +kernel
  have e : cEq A (.ref n) (.lst []) = some L.isEmpty := by
    unfold cEq
    simp only [toPyA, refPy, toPyG, h, toPysG_ints, toPys_ints, toPy, toPys, Option.map_some, shaped_lints, hz, and_self, if_true, PyData.eqv, eqvAll_nil]
    cases L <;> rfl
  unfold fEq
  rw [e]
noncomputable def heapM : List D → AH → Res D := mFun 5 (mSeq (mSet 2 (mLc false (mSq (mSl (mVar 0) (mNone) (mSome (mK (.int 63))))) (.nm 4) (mYes) (mCall fAbs (mCons (mCall fInt (mCons (mVar 4)
    (mNil))) (mNil))) [4])) (mSeq (mSet 3 (mOp fAdd (mK (.int 52387)) (mOp fMulA (mK (.int 811)) (mVar 1)))) (mSeq (mFor (mSq (mVar 2)) (.nm 4) (mSet 3 (mOp fMod (mCall fInt (mCons (mOp fAdd (mOp fAdd
    (mOp fMulA (mVar 3) (mK (.int 48271))) (mOp fMod (mVar 4) (mK (.int 2147483549)))) (mK (.int 29))) (mNil))) (mK (.int 2147483647))))) (mRet (mNew (mCons (mRev true (mLc false (mSq (mVar 2)) (.nm 4)
    (mTst (mOp fGe (mVar 4) (mOp fPow (mK (.int 10)) (mK (.int 18))))) (mVar 4) [4])) (mCons (mVar 3) (mNil))))))))
noncomputable def drawM : List D → AH → Res D := mFun 3 (mSeq (mWhile (mAnd (mTst (mOp (fEq true) (mOp fIx (mVar 0) (mK (.int 0))) (mLst (mNil)))) (mTst (mOp (fEq false) (mOp fIx (mOp fIx (mVar
    0) (mK (.int 0))) (mNeg (mK (.int 1)))) (mK (.int 0))))) (mDrop (mPop (mOp fIx (mVar 0) (mK (.int 0)))))) (mSeq (mIfS (mTst (mOp (fEq true) (mOp fIx (mVar 0) (mK (.int 0))) (mLst (mNil)))) (mSeq
    (mSet 2 (mCall fInt (mCons (mPop (mOp fIx (mVar 0) (mK (.int 0)))) (mNil)))) (mSeq (mDrop (mMet fApp (mOp fIx (mVar 0) (mK (.int 0))) (mCons (mOp fDiv (mVar 2) (mVar 1)) (mNil)))) (mRet (mOp fMod
    (mVar 2) (mVar 1))))) (mNext)) (mSeq (mSto (mOp fMod (mCall fInt (mCons (mOp fAdd (mOp fMulA (mOp fIx (mVar 0) (mK (.int 1))) (mK (.int 48271))) (mK (.int 13))) (mNil))) (mK (.int 2147483647)))
    (mVar 0) (mK (.int 1))) (mRet (mOp fMod (mCall fInt (mCons (mOp fDiv (mOp fIx (mVar 0) (mK (.int 1))) (mK (.int 64))) (mNil))) (mVar 1))))))
noncomputable def pickM (c : List D → AH → Res D) : List D → AH → Res D := mFun 2 (mRet (mOp fIx (mVar 1) (mCallF 2 c (mCons (mVar 0) (mCons (mCall fLen (mCons (mVar 1)
    (mNil))) (mNil))))))
noncomputable def bodyM (c__law_draw : List D → AH → Res D) (c__law_pick : List D → AH → Res D) : List D → AH → Res D := mFun 4 (mSeq (mSet 2 (mCallF 2 c__law_draw (mCons (mVar 0) (mCons (mOp
    fAdd (mVar 1) (mK (.int 1))) (mNil))))) (mRet (mCall fTup (mCons (mLc false (mR1 (mCons (mVar 2) (mNil))) (.nm 3) (mYes) (mCallF 2 c__law_pick (mCons (mVar 0) (mCons (mLst (mCons (mK (.int 0))
    (mCons (mK (.int 255)) (mCons (mK (.int 1)) (mCons (mCallF 2 c__law_draw (mCons (mVar 0) (mCons (mK (.int 256)) (mNil)))) (mCons (mCallF 2 c__law_draw (mCons (mVar 0) (mCons (mK (.int 256))
    (mNil)))) (mNil))))))) (mNil)))) [3]) (mNil)))))

def tstM : MT := mAnd (mTst (mOp (fEq true) (mOp fIx (mVar 0) (mK (.int 0))) (mLst (mNil)))) (mTst (mOp (fEq false) (mOp fIx (mOp fIx (mVar 0) (mK (.int 0))) (mNeg (mK (.int 1)))) (mK (.int 0))))
def popM : MS := mDrop (mPop (mOp fIx (mVar 0) (mK (.int 0))))
theorem zeros_go {h q : Nat} {s k : Int} (hq : h ≠ q) : ∀ (n : Nat) (L : List Int) (A : AH), L.length = n → A[h]? = some (.lst [.ref q, .int s]) → A[q]? = some (.lst (L.map D.int)) →
    ∃ (L' : List Int) (A' : AH), L'.length ≤ L.length ∧ Put q (.lst (L'.map D.int)) A A' ∧ iterW tstM popM (n + 1) [some (.ref h), some (.int k), none] A = .nx [some (.ref h), some (.int k), none] A'
  | n, L, A, hn, h1, h2 => by
    cases hL : L with
    | nil =>
      subst hL
      refine ⟨[], A, Nat.le_refl _, ⟨rfl, h2, fun _ _ => rfl⟩, ?_⟩
      simp [iterW, tstM, mAnd, mTst, mOp, mVar, mK, mLst, mNil, ix_ref h1 at_ref0, eq_refnil h2]
    | cons x0 R =>
      obtain ⟨M, x, e⟩ : ∃ M x, L = M ++ [x] := ⟨L.dropLast, L.getLast (by rw [hL]; simp), (List.dropLast_concat_getLast (by rw [hL]; simp)).symm⟩
      rw [← hL]
      have hlast : atI (L.map D.int) (-1) = some (D.int x) := by
        rw [e, List.map_append]; exact atI_last _ _
      have hne : L.isEmpty = false := by rw [hL]; rfl
      have t1 : tstM [some (.ref h), some (.int k), none] A = .ok (decide (x = 0)) A := by
        simp [tstM, mAnd, mTst, mOp, mVar, mK, mLst, mNil, mNeg, ix_ref h1 at_ref0, eq_refnil h2, hne, ix_ref h2 hlast, eq_ints]
      by_cases hx : x = 0
      · have hlen : M.length + 1 = n := by rw [← hn, e]; simp
        obtain ⟨m, rfl⟩ : ∃ m, n = m + 1 := ⟨M.length, hlen.symm⟩
        have hg : (L.map D.int)[(L.map D.int).length - 1]? = some (D.int x) := by
          rw [e]; simp
        have hd : (L.map D.int).dropLast = M.map D.int := by
          rw [e]; simp
        have p1 : popM [some (.ref h), some (.int k), none] A = .nx [some (.ref h), some (.int k), none] (A.set q (.lst (M.map D.int))) := by
          simp only [popM, mDrop, mPop, mOp, mVar, mK, List.getElem?_cons_zero, bind_ok, ix_ref h1 at_ref0, h2, hg, hd, lift_ok]
        have P := Put.set (o := .lst (M.map D.int)) h2
        obtain ⟨L', A', l1, P', w⟩ := zeros_go hq m M (A.set q (.lst (M.map D.int))) (by omega) ((P.2.2 h hq).trans h1) P.2.1
        refine ⟨L', A', by rw [e]; simp; omega, P.trans P', ?_⟩
        unfold iterW
        rw [t1, decide_eq_true hx]
        simp only [p1]
        exact w
      · refine ⟨L, A, Nat.le_refl _, ⟨rfl, h2, fun _ _ => rfl⟩, ?_⟩
        unfold iterW
        rw [t1, decide_eq_false hx]
theorem draw_ok {h q : Nat} {A : AH} {k : Int} (hs : HS h q A) (h0 : 0 < k) (h1 : k < 1073741824) : ∃ v A', drawM [.ref h, .int k] A = .ok (.int v) A' ∧ 0 ≤ v ∧ v < k ∧ Drawn h q A A' := by
  obtain ⟨hq, L, s, e1, e2, hl, s0, s1⟩ := hs
  obtain ⟨L', A1, l1, P, w⟩ := zeros_go (k := k) hq L.length L A rfl e1 e2
  have w' : mWhile tstM popM [some (.ref h), some (.int k), none] A = .nx [some (.ref h), some (.int k), none] A1 := mWhile_eq w (by intro z; cases z)
  have f1 : A1[h]? = some (.lst [.ref q, .int s]) := (P.2.2 h hq).trans e1
  have f2 := P.2.1
  have hm : drawM [.ref h, .int k] A = mFun 3 (mSeq (mWhile tstM popM) (mSeq (mIfS (mTst (mOp (fEq true) (mOp fIx (mVar 0) (mK (.int 0))) (mLst (mNil)))) (mSeq (mSet 2 (mCall fInt (mCons (mPop (mOp fIx (mVar 0) (mK (.int 0)))) (mNil)))) (mSeq (mDrop (mMet fApp (mOp fIx (mVar 0) (mK (.int 0))) (mCons (mOp fDiv (mVar 2) (mVar 1)) (mNil)))) (mRet (mOp fMod (mVar 2) (mVar 1))))) (mNext)) (mSeq (mSto (mOp fMod (mCall fInt (mCons (mOp fAdd (mOp fMulA (mOp fIx (mVar 0) (mK (.int 1))) (mK (.int 48271))) (mK (.int 13))) (mNil))) (mK (.int 2147483647))) (mVar 0) (mK (.int 1))) (mRet (mOp fMod (mCall fInt (mCons (mOp fDiv (mOp fIx (mVar 0) (mK (.int 1))) (mK (.int 64))) (mNil))) (mVar 1)))))) [.ref h, .int k] A := rfl
  rw [hm]
  cases hL : L' with
  | nil =>
    subst hL
    have cm : CMul s 48271 := .inl ⟨by omega, by omega⟩
    have A2 := Put.set (o := .lst [.ref q, .int ((s * 48271 + 13) % 2147483647)]) f1
    refine ⟨((s * 48271 + 13) % 2147483647) / 64 % k, A1.set h (.lst [.ref q, .int ((s * 48271 + 13) % 2147483647)]), ?_, Int.emod_nonneg _ (by omega), Int.emod_lt_of_pos _ h0, ?_, ⟨hq, [], (s * 48271 + 13) % 2147483647, A2.2.1, (A2.2.2 q (Ne.symm hq)).trans f2, by simp, Int.emod_nonneg _ (by omega), Int.emod_lt_of_pos _ (by omega)⟩, fun n a b => (A2.2.2 n a).trans (P.2.2 n b)⟩
    · have g1 := A2.2.1
      have ixn : ixN 2 1 = some 1 := rfl
      simp [mFun, mSeq, w', mIfS, mTst, mOp, mVar, mK, mLst, mNil, mCons, mCall, mRet, mSto, mNext, ix_ref f1 at_ref0, ix_ref f1 at_ref1, eq_refnil f2, fAdd, fMulA, fMod, fDiv, fI, fInt, cm, f1, ixn, ix_ref g1 at_ref1, CDiv, h0, h1]
    · exact A2.1.trans P.1
  | cons x0 R =>
    obtain ⟨M, x, e⟩ : ∃ M x, L' = M ++ [x] := ⟨L'.dropLast, L'.getLast (by rw [hL]; simp), (List.dropLast_concat_getLast (by rw [hL]; simp)).symm⟩
    have hne : L'.isEmpty = false := by rw [hL]; rfl
    have hg : (L'.map D.int)[L'.length - 1]? = some (D.int x) := by
      rw [e]; simp
    have hd : (L'.map D.int).dropLast = M.map D.int := by
      rw [e]; simp
    have B := Put.set (o := .lst (M.map D.int)) f2
    have b1 : (A1.set q (.lst (M.map D.int)))[h]? = some (.lst [.ref q, .int s]) := (B.2.2 h hq).trans f1
    have b2 := B.2.1
    have C := Put.set (o := .lst (M.map D.int ++ [D.int (x / k)])) b2
    have ml : M.length ≤ 62 := by
      have : L'.length = M.length + 1 := by rw [e]; simp
      omega
    refine ⟨x % k, _, ?_, Int.emod_nonneg _ (by omega), Int.emod_lt_of_pos _ h0, ?_, ⟨hq, M ++ [x / k], s, (C.2.2 h hq).trans b1, ?_, by simp; omega, s0, s1⟩, fun n a b => (C.2.2 n b).trans ((B.2.2 n b).trans (P.2.2 n b))⟩
    · have hlen : (M.map D.int).length < 16777216 := by rw [List.length_map]; omega
      rw [List.length_map] at hlen
      simp only [hg, hd, mFun, mSeq, w', mIfS, mTst, mOp, mVar, mK, mLst, mNil, mCons, mCall, mRet, mSet, mDrop, mPop, mMet, ix_ref f1 at_ref0, eq_refnil f2, hne, f2, b2, ix_ref b1 at_ref0, fApp, fMod, fDiv, fI, fInt, CDiv, h0, h1, hlen,
        List.map_cons, List.map_nil, List.cons_append, List.nil_append, List.length_cons, List.length_nil, List.getElem?_cons_zero, List.getElem?_cons_succ, List.set_cons_succ, List.set_cons_zero, bind_ok, lift_ok, List.replicate, Nat.reduceAdd, Nat.reduceSub, Nat.reduceLeDiff, if_true, and_self, Bool.not_false, List.length_map]
    · exact C.1.trans (B.1.trans P.1)
    · rw [C.2.1]; simp
end DM
end
section
set_option maxHeartbeats 1000000
namespace DM
open PySem PySem.Spec PyProof.Rows L2
theorem pick_ok {h q : Nat} {A : AH} {xs : List D} (hs : HS h q A) (h0 : 0 < xs.length) (h1 : xs.length < 1073741824) : ∃ (i : Nat) (hi : i < xs.length) (A' : AH), pickM drawM [.ref h, .lst xs] A = .ok xs[i] A' ∧ Drawn h q A A' := by
  obtain ⟨v, A', e, v0, v1, dr⟩ := draw_ok (k := (xs.length : Int)) hs (by omega) (by omega)
  obtain ⟨i, rfl⟩ : ∃ i : Nat, v = i := ⟨v.toNat, by omega⟩
  have hi : i < xs.length := by omega
  refine ⟨i, hi, A', ?_, dr⟩
  have ha : atI xs (i : Int) = some xs[i] := atI_nat (List.getElem?_eq_getElem hi)
  simp [pickM, mFun, mRet, mOp, mVar, mCallF, mCons, mNil, mCall, fLen, seqOf, e, ix_lst ha]
/-- a comprehension whose parts change nothing -/
theorem comp_pure {iv : ItV} {all : List D} {t : Tg} {tt : MT} {me : ME} {ρ : DM.Env} {A : AH} {p : D → Bool} {f : D → D} (hit : itemsOf A iv = some all) : ∀ (xs acc : List D), (∀ x ∈ xs, ∃ ρ1, bindT t x ρ = some ρ1 ∧ tt ρ1 A = .ok (p x) A ∧ (p x = true → me ρ1 A = .ok (f x) A)) →
    compGo iv all t tt me ρ xs acc A = .ok (acc ++ (xs.filter p).map f) A
  | [], acc, _ => by
    unfold compGo
    rw [if_pos hit]
    simp
  | x :: xs, acc, h => by
    obtain ⟨ρ1, h1, h2, h3⟩ := h x List.mem_cons_self
    have ih := comp_pure (t := t) (tt := tt) (me := me) (ρ := ρ) (p := p) (f := f) hit xs
    unfold compGo
    rw [if_pos hit, h1]
    simp only [h2]
    cases hp : p x with
    | true =>
      simp only [h3 hp]
      rw [ih _ fun y hy => h y (List.mem_cons_of_mem _ hy), List.filter_cons, if_pos hp, List.map_cons, List.append_assoc]
      rfl
    | false =>
      simp only
      rw [ih _ fun y hy => h y (List.mem_cons_of_mem _ hy), List.filter_cons, if_neg (by rw [hp]; decide)]
theorem cut_take (xs : List D) (k : Nat) : cutD xs none (some (k : Int)) = xs.take k := by
  unfold cutD
  rw [HT.sIx_none, HT.sIx_nat, List.drop_zero, Nat.sub_zero]
  rcases Nat.le_total k xs.length with h | h
  · rw [Nat.min_eq_left h]
  · rw [Nat.min_eq_right h, List.take_of_length_le (Nat.le_refl _), List.take_of_length_le h]
theorem filter_true {α : Type} (xs : List α) : xs.filter (fun _ => true) = xs := List.filter_eq_self.mpr fun _ _ => rfl
/-- the mixing of the cells -/
theorem stir_go {d0 d1 d2 d4 : Option D} {all : List D} {A : AH} : ∀ (L : List Int) (s : Int), 0 ≤ s → s < 2147483647 → ∃ s' d, 0 ≤ s' ∧ s' < 2147483647 ∧
    forGo (.sq (.lst all)) all (.nm 4) (mSet 3 (mOp fMod (mCall fInt (mCons (mOp fAdd (mOp fAdd (mOp fMulA (mVar 3) (mK (.int 48271))) (mOp fMod (mVar 4) (mK (.int 2147483549)))) (mK (.int 29))) (mNil))) (mK (.int 2147483647)))) (L.map D.int) [d0, d1, d2, some (.int s), d4] A
      = .nx [d0, d1, d2, some (.int s'), d] A
  | [], s, h0, h1 => ⟨s, d4, h0, h1, by simp [forGo, itemsOf, seqOf]⟩
  | x :: L, s, h0, h1 => by
    obtain ⟨s', d, a, b, e⟩ := stir_go (d0 := d0) (d1 := d1) (d2 := d2) (d4 := some (.int x)) (all := all) (A := A) L ((s * 48271 + x % 2147483549 + 29) % 2147483647) (Int.emod_nonneg _ (by omega)) (Int.emod_lt_of_pos _ (by omega))
    refine ⟨s', d, a, b, ?_⟩
    have cm : CMul s 48271 := .inl ⟨by omega, by omega⟩
    rw [List.map_cons]
    unfold forGo
    simp only [itemsOf, seqOf, if_true, bindT, List.set_cons_succ, List.set_cons_zero, mSet, mOp, mCall, mCons, mNil, mVar, mK, List.getElem?_cons_zero, List.getElem?_cons_succ, bind_ok, fMulA, fI, cm, fMod, fAdd, fInt, lift_ok, show (0 : Int) < 2147483549 by decide, show (0 : Int) < 2147483647 by decide]
    exact e
theorem heap_ok {A : AH} {ns : List Int} {b : Int} (b0 : 0 ≤ b) (b1 : b < 1000) : ∃ h q A', heapM [.lst (ns.map D.int), .int b] A = .ok (.ref h) A' ∧ HS h q A' ∧ A'.length = A.length + 2 ∧ h = A.length + 1 ∧ q = A.length ∧ ∀ n, n < A.length → A'[n]? = A[n]? := by
  have cz : ∀ L : List Int, (L.map D.int).map (fun d => match d with | .int i => D.int (if i < 0 then -i else i) | d => d) = (L.map fun i => if i < 0 then -i else i).map D.int := fun L => by
    rw [List.map_map, List.map_map]; rfl
  have hl : ((ns.map D.int).take 63).length ≤ 16777216 := by rw [List.length_take]; omega
  generalize hN : ns.take 63 = M at *
  have hM : (ns.map D.int).take 63 = M.map D.int := by rw [← hN, List.map_take]
  have hMl : M.length ≤ 63 := by rw [← hN, List.length_take]; omega
  have cm : CMul 811 b := .inl ⟨by decide, by decide⟩
  generalize hC : (M.map fun i => if i < 0 then -i else i) = C at *
  have hCl : C.length ≤ 63 := by rw [← hC, List.length_map]; exact hMl
  have c1 : ∀ d1 d3, compGo (.sq (.lst (M.map D.int))) (M.map D.int) (.nm 4) mYes (mCall fAbs (mCons (mCall fInt (mCons (mVar 4) mNil)) mNil)) [some (.lst (ns.map D.int)), d1, none, d3, none] (M.map D.int) [] A = .ok (C.map D.int) A := fun d1 d3 => by
    rw [comp_pure (p := fun _ => true) (f := fun d => match d with | .int i => D.int (if i < 0 then -i else i) | d => d) rfl _ _ fun x hx => ?_]
    · rw [filter_true, cz, hC]; rfl
    · obtain ⟨i, _, rfl⟩ := List.mem_map.mp hx
      exact ⟨_, rfl, rfl, fun _ => rfl⟩
  obtain ⟨s', d, s0, s1, st⟩ := stir_go (d0 := some (.lst (ns.map D.int))) (d1 := some (.int b)) (d2 := some (.lst (C.map D.int))) (d4 := none) (all := C.map D.int) (A := A) C (52387 + 811 * b) (by omega) (by omega)
  have pw : CPow 10 18 := ⟨by decide, by decide, by decide⟩
  have c2 : ∀ d3, compGo (.sq (.lst (C.map D.int))) (C.map D.int) (.nm 4) (mTst (mOp fGe (mVar 4) (mOp fPow (mK (.int 10)) (mK (.int 18))))) (mVar 4) [some (.lst (ns.map D.int)), some (.int b), some (.lst (C.map D.int)), d3, none] (C.map D.int) [] A = .ok ((C.filter fun i => decide ((10 : Int) ^ 18 ≤ i)).map D.int) A := fun d3 => by
    rw [comp_pure (p := fun d => match d with | .int i => decide ((10 : Int) ^ 18 ≤ i) | _ => true) (f := fun d => d) rfl _ _ fun x hx => ?_]
    · rw [List.map_id', List.filter_map]; rfl
    · obtain ⟨i, _, rfl⟩ := List.mem_map.mp hx
      refine ⟨_, rfl, ?_, fun _ => rfl⟩
      simp only [mTst, mOp, mVar, mK, bindT, List.set_cons_succ, List.set_cons_zero, List.getElem?_cons_zero, List.getElem?_cons_succ, bind_ok, fPow, fI, pw, if_true, fGe, fI0]
      rfl
  generalize hF : (C.filter fun i => decide ((10 : Int) ^ 18 ≤ i)) = F at *
  have hFl : F.length ≤ 63 := by rw [← hF]; exact Nat.le_trans (List.length_filter_le _ _) hCl
  have e63 : cutD (ns.map D.int) none (some 63) = M.map D.int := by rw [← hM]; exact cut_take _ 63
  have z1 : (M.map D.int).length ≤ 16777216 := by rw [List.length_map]; omega
  have z2 : (C.map D.int).length ≤ 16777216 := by rw [List.length_map]; omega
  refine ⟨A.length + 1, A.length, A ++ [.lst (F.map D.int).reverse] ++ [.lst [.ref A.length, .int s']], ?_, ⟨by omega, F.reverse, s', ?_, ?_, by rw [List.length_reverse]; exact hFl, s0, s1⟩, by simp, rfl, rfl, fun n hn => ?_⟩
  · unfold heapM
    refine fun_rt ?_
    refine (seq_nx (ρ1 := [some (.lst (ns.map D.int)), some (.int b), some (.lst (C.map D.int)), none, none]) (A1 := A) ?_).trans ?_
    · simp only [ev_var, ev_K, ev_op, ev_neg, ev_tst, ev_and, ev_or, ev_not, ev_andV, ev_orV, ev_notV, ev_if, ev_chn, ev_nil, ev_cons, ev_tup, ev_lst, ev_new, ev_call, ev_callF, ev_callK, ev_met, ev_sl, ev_some, ev_none, ev_rev, ev_yes, ev_sq, ev_r1, ev_next, ev_drop, ev_ret, ev_ifs, ev_set, ev_par2, ev_par3, ev_asg, ev_nm, List.getElem?_cons_zero, List.getElem?_cons_succ, List.set_cons_zero, List.set_cons_succ, bind_ok, lift_ok, List.length_cons, List.length_nil, Nat.reduceAdd, Nat.reduceLeDiff, ↓reduceIte, if_true, if_false, Bool.false_eq_true, ev_lc, fSl, seqOf, e63, itemsOf, z1, wipeD, List.map_cons, List.map_nil, List.replicate, List.cons_append, List.nil_append, List.foldl_cons, List.foldl_nil, Nat.reduceSub, c1]
    refine (seq_nx (ρ1 := [some (.lst (ns.map D.int)), some (.int b), some (.lst (C.map D.int)), some (.int (52387 + 811 * b)), none]) (A1 := A) ?_).trans ?_
    · simp only [ev_var, ev_K, ev_op, ev_neg, ev_tst, ev_and, ev_or, ev_not, ev_andV, ev_orV, ev_notV, ev_if, ev_chn, ev_nil, ev_cons, ev_tup, ev_lst, ev_new, ev_call, ev_callF, ev_callK, ev_met, ev_sl, ev_some, ev_none, ev_rev, ev_yes, ev_sq, ev_r1, ev_next, ev_drop, ev_ret, ev_ifs, ev_set, ev_par2, ev_par3, ev_asg, ev_nm, List.getElem?_cons_zero, List.getElem?_cons_succ, List.set_cons_zero, List.set_cons_succ, bind_ok, lift_ok, List.length_cons, List.length_nil, Nat.reduceAdd, Nat.reduceLeDiff, ↓reduceIte, if_true, if_false, Bool.false_eq_true, fMulA, fI, cm, fAdd]
    refine (seq_nx (ρ1 := [some (.lst (ns.map D.int)), some (.int b), some (.lst (C.map D.int)), some (.int s'), d]) (A1 := A) ?_).trans ?_
    · simp only [ev_var, ev_K, ev_op, ev_neg, ev_tst, ev_and, ev_or, ev_not, ev_andV, ev_orV, ev_notV, ev_if, ev_chn, ev_nil, ev_cons, ev_tup, ev_lst, ev_new, ev_call, ev_callF, ev_callK, ev_met, ev_sl, ev_some, ev_none, ev_rev, ev_yes, ev_sq, ev_r1, ev_next, ev_drop, ev_ret, ev_ifs, ev_set, ev_par2, ev_par3, ev_asg, ev_nm, List.getElem?_cons_zero, List.getElem?_cons_succ, List.set_cons_zero, List.set_cons_succ, bind_ok, lift_ok, List.length_cons, List.length_nil, Nat.reduceAdd, Nat.reduceLeDiff, ↓reduceIte, if_true, if_false, Bool.false_eq_true, ev_for, itemsOf, seqOf]
      exact st
    simp only [ev_var, ev_K, ev_op, ev_neg, ev_tst, ev_and, ev_or, ev_not, ev_andV, ev_orV, ev_notV, ev_if, ev_chn, ev_nil, ev_cons, ev_tup, ev_lst, ev_new, ev_call, ev_callF, ev_callK, ev_met, ev_sl, ev_some, ev_none, ev_rev, ev_yes, ev_sq, ev_r1, ev_next, ev_drop, ev_ret, ev_ifs, ev_set, ev_par2, ev_par3, ev_asg, ev_nm, List.getElem?_cons_zero, List.getElem?_cons_succ, List.set_cons_zero, List.set_cons_succ, bind_ok, lift_ok, List.length_cons, List.length_nil, Nat.reduceAdd, Nat.reduceLeDiff, ↓reduceIte, if_true, if_false, Bool.false_eq_true, ev_lc, seqOf, itemsOf, z2, wipeD, List.foldl_cons, List.foldl_nil, c2, isTup]
    simp
  · rw [List.getElem?_append_right (by simp)]; simp
  · rw [List.getElem?_append_left (by simp), List.getElem?_append_right (by simp)]; simp
  · rw [List.getElem?_append_left (by simp; omega), List.getElem?_append_left hn]
end DM
end
section
set_option maxHeartbeats 1000000
namespace DM
open PySem PySem.Spec PyProof.Rows L2
/-- octets as data -/
def dI (os : List Nat) : List D := os.map fun n : Nat => D.int (n : Int)
theorem dI_length (os : List Nat) : (dI os).length = os.length := by simp [dI]
theorem dI_append (a b : List Nat) : dI (a ++ b) = dI a ++ dI b := by simp [dI]
theorem dI_take (a : List Nat) (k : Nat) : (dI a).take k = dI (a.take k) := by simp [dI, List.map_take]
theorem dI_drop (a : List Nat) (k : Nat) : (dI a).drop k = dI (a.drop k) := by simp [dI, List.map_drop]
theorem dI_ints (a : List Nat) : dI a = (a.map fun n : Nat => (n : Int)).map D.int := by simp [dI, List.map_map, Function.comp_def]
theorem Drawn.refl {h q : Nat} {A : AH} (hs : HS h q A) : Drawn h q A A := ⟨rfl, hs, fun _ _ _ => rfl⟩
/-- a comprehension whose parts draw -/
theorem comp_draw {iv : ItV} {all : List D} {t : Tg} {tt : MT} {me : ME} {ρ : DM.Env} {h q : Nat} {Pd : D → Prop} {G : AH → Prop} (hit : ∀ A, itemsOf A iv = some all) (hG : ∀ A A', G A → Drawn h q A A' → G A') : ∀ (xs acc : List D) (A : AH), HS h q A → G A →
    (∀ x ∈ xs, ∀ A, HS h q A → G A → ∃ ρ1 y A1, bindT t x ρ = some ρ1 ∧ tt ρ1 A = .ok true A ∧ me ρ1 A = .ok y A1 ∧ Pd y ∧ Drawn h q A A1) →
    ∃ ys A', compGo iv all t tt me ρ xs acc A = .ok (acc ++ ys) A' ∧ ys.length = xs.length ∧ (∀ y ∈ ys, Pd y) ∧ Drawn h q A A'
  | [], acc, A, hs, g, _ => ⟨[], A, by unfold compGo; rw [if_pos (hit A)]; simp, rfl, by simp, Drawn.refl hs⟩
  | x :: xs, acc, A, hs, g, st => by
    obtain ⟨ρ1, y, A1, e1, e2, e3, p, d⟩ := st x List.mem_cons_self A hs g
    obtain ⟨ys, A', w, l, ps, d'⟩ := comp_draw (t := t) (tt := tt) (me := me) (ρ := ρ) (Pd := Pd) (G := G) hit hG xs (acc ++ [y]) A1 d.2.1 (hG _ _ g d) fun z hz => st z (List.mem_cons_of_mem _ hz)
    refine ⟨y :: ys, A', ?_, by simp [l], ?_, d.trans d'⟩
    · unfold compGo
      rw [if_pos (hit A), e1]
      simp only [e2, e3]
      rw [w]
      simp
    · intro z hz
      rcases List.mem_cons.mp hz with rfl | hz
      · exact p
      · exact ps z hz
def Oct (d : D) : Prop := ∃ b : Nat, d = .int b ∧ b < 256
theorem octs : ∀ ys : List D, (∀ y ∈ ys, Oct y) → ∃ bs : List Nat, ys = dI bs ∧ ∀ b ∈ bs, b < 256
  | [], _ => ⟨[], rfl, by simp⟩
  | y :: ys, h => by
    obtain ⟨b, rfl, hb⟩ := h y List.mem_cons_self
    obtain ⟨bs, rfl, hs⟩ := octs ys fun z hz => h z (List.mem_cons_of_mem _ hz)
    exact ⟨b :: bs, rfl, by simp; exact ⟨hb, hs⟩⟩
theorem body_ok {h q : Nat} {A : AH} {most : Nat} (hs : HS h q A) (hm : most < 1000) : ∃ (bs : List Nat) (A' : AH), bodyM drawM (pickM drawM) [.ref h, .int most] A = .ok (.tup (dI bs)) A' ∧ bs.length ≤ most ∧ (∀ b ∈ bs, b < 256) ∧ Drawn h q A A' := by
  obtain ⟨v, A1, e1, v0, v1, d1⟩ := draw_ok (k := (most : Int) + 1) hs (by omega) (by omega)
  obtain ⟨n, rfl⟩ : ∃ n : Nat, v = n := ⟨v.toNat, by omega⟩
  have hn : n ≤ most := by omega
  obtain ⟨ys, A2, w, l, ps, d2⟩ := comp_draw (iv := .rng 0 n) (all := (List.range n).map fun i : Nat => D.int (0 + (i : Int))) (t := .nm 3) (tt := mYes) (ρ := [some (.ref h), some (.int most), some (.int n), none]) (Pd := Oct) (G := fun _ => True)
    (me := mCallF 2 (pickM drawM) (mCons (mVar 0) (mCons (mLst (mCons (mK (.int 0)) (mCons (mK (.int 255)) (mCons (mK (.int 1)) (mCons (mCallF 2 drawM (mCons (mVar 0) (mCons (mK (.int 256)) (mNil)))) (mCons (mCallF 2 drawM (mCons (mVar 0) (mCons (mK (.int 256)) (mNil)))) (mNil))))))) (mNil))))
    (by intro A; simp [itemsOf]) (fun _ _ _ _ => trivial) ((List.range n).map fun i : Nat => D.int (0 + (i : Int))) [] A1 d1.2.1 trivial (by
      intro x _ A hs _
      obtain ⟨a, B, ea, a0, a1, da⟩ := draw_ok (k := 256) hs (by decide) (by decide)
      obtain ⟨b, C, eb, b0, b1, db⟩ := draw_ok (k := 256) da.2.1 (by decide) (by decide)
      obtain ⟨i, hi, E, ec, dc⟩ := pick_ok (xs := [D.int 0, .int 255, .int 1, .int a, .int b]) db.2.1 (by simp) (by simp)
      have hi5 : i < 5 := hi
      refine ⟨_, [D.int 0, .int 255, .int 1, .int a, .int b][i], E, rfl, rfl, ?_, ?_, (da.trans db).trans dc⟩
      · simp only [ev_var, ev_K, ev_op, ev_neg, ev_tst, ev_and, ev_or, ev_not, ev_andV, ev_orV, ev_notV, ev_if, ev_chn, ev_nil, ev_cons, ev_tup, ev_lst, ev_new, ev_call, ev_callF, ev_callK, ev_met, ev_sl, ev_some, ev_none, ev_rev, ev_yes, ev_sq, ev_next, ev_drop, ev_ret, ev_ifs, ev_set, ev_par2, ev_par3, ev_asg, ev_nm, List.getElem?_cons_zero, List.getElem?_cons_succ, List.set_cons_zero, List.set_cons_succ, bind_ok, lift_ok, List.length_cons, List.length_nil, Nat.reduceAdd, Nat.reduceLeDiff, ↓reduceIte, if_true, if_false, Bool.false_eq_true, ea, eb]
        exact ec
      · rcases i with _ | _ | _ | _ | _ | i
        · exact ⟨0, rfl, by decide⟩
        · exact ⟨255, rfl, by decide⟩
        · exact ⟨1, rfl, by decide⟩
        · exact ⟨a.toNat, by simp; omega, by omega⟩
        · exact ⟨b.toNat, by simp; omega, by omega⟩
        · omega)
  obtain ⟨bs, rfl, hb⟩ := octs ys ps
  refine ⟨bs, A2, ?_, ?_, hb, d1.trans d2⟩
  · unfold bodyM
    refine fun_rt ?_
    refine (seq_nx (ρ1 := [some (.ref h), some (.int most), some (.int n), none]) (A1 := A1) ?_).trans ?_
    · simp only [ev_var, ev_K, ev_op, ev_neg, ev_tst, ev_and, ev_or, ev_not, ev_andV, ev_orV, ev_notV, ev_if, ev_chn, ev_nil, ev_cons, ev_tup, ev_lst, ev_new, ev_call, ev_callF, ev_callK, ev_met, ev_sl, ev_some, ev_none, ev_rev, ev_yes, ev_sq, ev_next, ev_drop, ev_ret, ev_ifs, ev_set, ev_par2, ev_par3, ev_asg, ev_nm, List.getElem?_cons_zero, List.getElem?_cons_succ, List.set_cons_zero, List.set_cons_succ, bind_ok, lift_ok, List.length_cons, List.length_nil, Nat.reduceAdd, Nat.reduceLeDiff, ↓reduceIte, if_true, if_false, Bool.false_eq_true, fAdd, List.map_cons, List.map_nil, List.replicate, List.cons_append, List.nil_append, Nat.reduceSub, e1]
    have z : ((List.range n).map fun i : Nat => D.int (0 + (i : Int))).length ≤ 16777216 := by simp; omega
    have z1 : itemsOf A1 (.rng 0 (n : Int)) = some ((List.range n).map fun i : Nat => D.int (0 + (i : Int))) := by simp [itemsOf]
    have z2 : -(2 ^ 62) ≤ (n : Int) ∧ (n : Int) < 2 ^ 62 := by omega
    have h1 : mR1 (mCons (mVar 2) mNil) [some (.ref h), some (.int most), some (.int n), none] A1 = .ok (.rng 0 n) A1 := r1_at (by simp only [ev_cons, ev_nil, ev_var, List.getElem?_cons_zero, List.getElem?_cons_succ, bind_ok]) z2
    simp only [ev_var, ev_K, ev_op, ev_neg, ev_tst, ev_and, ev_or, ev_not, ev_andV, ev_orV, ev_notV, ev_if, ev_chn, ev_nil, ev_cons, ev_tup, ev_lst, ev_new, ev_call, ev_callF, ev_callK, ev_met, ev_sl, ev_some, ev_none, ev_rev, ev_yes, ev_sq, ev_next, ev_drop, ev_ret, ev_ifs, ev_set, ev_par2, ev_par3, ev_asg, ev_nm, List.getElem?_cons_zero, List.getElem?_cons_succ, List.set_cons_zero, List.set_cons_succ, bind_ok, lift_ok, List.length_cons, List.length_nil, Nat.reduceAdd, Nat.reduceLeDiff, ↓reduceIte, if_true, if_false, Bool.false_eq_true, ev_lc, h1, z1, z, wipeD, w]
    simp [fTup, seqOf]
  · rw [dI_length] at l
    simp at l
    omega
end DM
end
section
set_option maxHeartbeats 1000000
namespace DM
open PySem PySem.Spec PyProof.Rows L2
noncomputable def checkM : List D → AH → Res D := mFun 3 (mSeq (mSet 1 (mK (.int 1))) (mSeq (mFor (mSq (mVar 0)) (.nm 2) (mSet 1 (mOp fMod (mOp fAdd (mOp fMulA (mVar 1) (mK (.int 256))) (mVar 2))
    (mK (.int 4294967291))))) (mRet (mVar 1))))
noncomputable def pairM : List D → AH → Res D := mFun 1 (mRet (mTup (mCons (mOp fShr (mVar 0) (mK (.int 8))) (mCons (mOp fAnd (mVar 0) (mK (.int 255))) (mNil)))))
noncomputable def sumM (c_check_sum : List D → AH → Res D) (c_pair_of : List D → AH → Res D) : List D → AH → Res D := mFun 2 (mSeq (mSet 1 (mCallF 1 c_check_sum (mCons (mVar 0) (mNil)))) (mRet
    (mOp fAdd (mCallF 1 c_pair_of (mCons (mOp fShr (mVar 1) (mK (.int 16))) (mNil))) (mCallF 1 c_pair_of (mCons (mOp fAnd (mVar 1) (mK (.int 65535))) (mNil))))))
noncomputable def putM (c_sum_octets : List D → AH → Res D) (c_pair_of : List D → AH → Res D) : List D → AH → Res D := mFun 2 (mSeq (mIfS (mTst (mOp fGt (mCall fLen (mCons (mVar 0) (mNil))) (mK
    (.int 65535)))) (mRaise "InvalidSize" "word" (mK (.str "body"))) (mNext)) (mSeq (mSet 1 (mOp fAdd (mOp fAdd (mCallF 1 c_pair_of (mCons (mCall fLen (mCons (mVar 0) (mNil))) (mNil))) (mCallF 1 c_pair_of (mCons (mOp fSub (mK (.int 65535))
    (mCall fLen (mCons (mVar 0) (mNil)))) (mNil)))) (mCall fTup (mCons (mVar 0) (mNil))))) (mRet (mOp fAdd (mVar 1) (mCallF 1 c_sum_octets (mCons (mVar 1) (mNil)))))))
noncomputable def faultM (c_sum_octets : List D → AH → Res D) : List D → AH → Res D := mFun 4 (mSeq (mIfS (mTst (mOp fLt (mCall fLen (mCons (mVar 0) (mNil))) (mOp fAdd (mVar 1) (mK (.int 4)))))
    (mRet (mK (.str "cut"))) (mNext)) (mSeq (mSet 2 (mOp fAdd (mOp fMulA (mOp fIx (mVar 0) (mVar 1)) (mK (.int 256))) (mOp fIx (mVar 0) (mOp fAdd (mVar 1) (mK (.int 1)))))) (mSeq (mIfS (mTst (mOp (fEq
    true) (mOp fAdd (mOp fAdd (mVar 2) (mOp fMulA (mOp fIx (mVar 0) (mOp fAdd (mVar 1) (mK (.int 2)))) (mK (.int 256)))) (mOp fIx (mVar 0) (mOp fAdd (mVar 1) (mK (.int 3))))) (mK (.int 65535)))) (mRet
    (mK (.str "broken"))) (mNext)) (mSeq (mSet 3 (mOp fAdd (mOp fAdd (mVar 1) (mVar 2)) (mK (.int 8)))) (mSeq (mIfS (mTst (mOp fLt (mCall fLen (mCons (mVar 0) (mNil))) (mVar 3))) (mRet (mK (.str
    "cut"))) (mNext)) (mRet (mIf (mTst (mOp (fEq false) (mCall fTup (mCons (mSl (mVar 0) (mSome (mOp fSub (mVar 3) (mK (.int 4)))) (mSome (mVar 3))) (mNil))) (mCallF 1 c_sum_octets (mCons (mSl (mVar 0)
    (mSome (mVar 1)) (mSome (mOp fSub (mVar 3) (mK (.int 4))))) (mNil))))) (mK .non) (mK (.str "broken")))))))))
/-! ### the sum -/
def cs (os : List Nat) : Nat := os.foldl (fun t o => (t * 256 + o) % 4294967291) 1
theorem cs_step {x : Option D} {i j : Int} {A : AH} (cm : CMul i 256) : mSet 1 (mOp fMod (mOp fAdd (mOp fMulA (mVar 1) (mK (.int 256))) (mVar 2)) (mK (.int 4294967291))) [x, some (.int i), some (.int j)] A = .nx [x, some (.int ((i * 256 + j) % 4294967291)), some (.int j)] A := by
  simp only [ev_var, ev_K, ev_op, ev_neg, ev_tst, ev_and, ev_or, ev_not, ev_andV, ev_orV, ev_notV, ev_if, ev_chn, ev_nil, ev_cons, ev_tup, ev_lst, ev_new, ev_call, ev_callF, ev_callK, ev_met, ev_sl, ev_some, ev_none, ev_rev, ev_yes, ev_sq, ev_next, ev_drop, ev_ret, ev_ifs, ev_set, ev_par2, ev_par3, ev_asg, ev_nm, List.getElem?_cons_zero, List.getElem?_cons_succ, List.set_cons_zero, List.set_cons_succ, bind_ok, lift_ok, List.length_cons, List.length_nil, Nat.reduceAdd, Nat.reduceLeDiff, ↓reduceIte, if_true, if_false, Bool.false_eq_true, fMulA, fI, cm, fAdd, fMod, show (0 : Int) < 4294967291 by decide]
theorem cs_go {x : Option D} {all : List D} {A : AH} (hx : x = some (.tup all)) : ∀ (os : List Nat) (t : Nat) (d : Option D), t < 4294967291 → ∃ d',
    forGo (.sq (.tup all)) all (.nm 2) (mSet 1 (mOp fMod (mOp fAdd (mOp fMulA (mVar 1) (mK (.int 256))) (mVar 2)) (mK (.int 4294967291)))) (dI os) [x, some (.int (t : Int)), d] A
      = .nx [x, some (.int ((os.foldl (fun t o => (t * 256 + o) % 4294967291) t : Nat) : Int)), d'] A
  | [], t, d, _ => ⟨d, for_nil rfl⟩
  | o :: os, t, d, ht => by
    obtain ⟨d', e⟩ := cs_go (x := x) (all := all) (A := A) hx os ((t * 256 + o) % 4294967291) (some (.int o)) (Nat.mod_lt _ (by decide))
    refine ⟨d', ?_⟩
    rw [List.foldl_cons, show dI (o :: os) = .int o :: dI os from rfl]
    have cm : CMul (t : Int) 256 := .inl ⟨by omega, by omega⟩
    have e1 : ((t : Int) * 256 + o) % 4294967291 = (((t * 256 + o) % 4294967291 : Nat) : Int) := by omega
    have st := cs_step (x := x) (A := A) (i := t) (j := o) cm
    rw [e1] at st
    exact (for_nx rfl rfl st).trans e
theorem check_ok {os : List Nat} {A : AH} : checkM [.tup (dI os)] A = .ok (.int (cs os : Nat)) A := by
  obtain ⟨d', e⟩ := cs_go (x := some (.tup (dI os))) (all := dI os) (A := A) rfl os 1 none (by decide)
  unfold checkM
  refine fun_rt ?_
  refine (seq_nx (ρ1 := [some (.tup (dI os)), some (.int (1 : Nat)), none]) (A1 := A) rfl).trans ?_
  refine (seq_nx (ρ1 := [some (.tup (dI os)), some (.int ((cs os : Nat) : Int)), d']) (A1 := A) ?_).trans ?_
  · simp only [ev_var, ev_K, ev_op, ev_neg, ev_tst, ev_and, ev_or, ev_not, ev_andV, ev_orV, ev_notV, ev_if, ev_chn, ev_nil, ev_cons, ev_tup, ev_lst, ev_new, ev_call, ev_callF, ev_callK, ev_met, ev_sl, ev_some, ev_none, ev_rev, ev_yes, ev_sq, ev_next, ev_drop, ev_ret, ev_ifs, ev_set, ev_par2, ev_par3, ev_asg, ev_nm, List.getElem?_cons_zero, List.getElem?_cons_succ, List.set_cons_zero, List.set_cons_succ, bind_ok, lift_ok, List.length_cons, List.length_nil, Nat.reduceAdd, Nat.reduceLeDiff, ↓reduceIte, if_true, if_false, Bool.false_eq_true, ev_for, itemsOf, seqOf]
    exact e
  · simp only [ev_var, ev_K, ev_op, ev_neg, ev_tst, ev_and, ev_or, ev_not, ev_andV, ev_orV, ev_notV, ev_if, ev_chn, ev_nil, ev_cons, ev_tup, ev_lst, ev_new, ev_call, ev_callF, ev_callK, ev_met, ev_sl, ev_some, ev_none, ev_rev, ev_yes, ev_sq, ev_next, ev_drop, ev_ret, ev_ifs, ev_set, ev_par2, ev_par3, ev_asg, ev_nm, List.getElem?_cons_zero, List.getElem?_cons_succ, List.set_cons_zero, List.set_cons_succ, bind_ok, lift_ok, List.length_cons, List.length_nil, Nat.reduceAdd, Nat.reduceLeDiff, ↓reduceIte, if_true, if_false, Bool.false_eq_true]
theorem pair_ok {n : Nat} {A : AH} : pairM [.int n] A = .ok (.tup (dI [n / 256, n % 256])) A := by
  have e1 : (n : Int) / 2 ^ (Int.toNat 8) = ((n / 256 : Nat) : Int) := by
    show (n : Int) / 256 = _
    omega
  have e2 : Builtin.bitAnd (n : Int) 255 = ((n % 256 : Nat) : Int) := by
    have h := Bits.bitAnd_mask (x := (n : Int)) 8 (by omega)
    have h2 : ((2 : Int) ^ 8 - 1) = 255 := rfl
    rw [h2] at h
    rw [h]
    show (n : Int) % 256 = _
    omega
  unfold pairM
  refine fun_rt ?_
  simp only [ev_var, ev_K, ev_op, ev_neg, ev_tst, ev_and, ev_or, ev_not, ev_andV, ev_orV, ev_notV, ev_if, ev_chn, ev_nil, ev_cons, ev_tup, ev_lst, ev_new, ev_call, ev_callF, ev_callK, ev_met, ev_sl, ev_some, ev_none, ev_rev, ev_yes, ev_sq, ev_next, ev_drop, ev_ret, ev_ifs, ev_set, ev_par2, ev_par3, ev_asg, ev_nm, List.getElem?_cons_zero, List.getElem?_cons_succ, List.set_cons_zero, List.set_cons_succ, bind_ok, lift_ok, List.length_cons, List.length_nil, Nat.reduceAdd, Nat.reduceLeDiff, ↓reduceIte, if_true, if_false, Bool.false_eq_true, fShr, fAnd, fI, fI0, show (0 : Int) ≤ 8 by decide, List.map_cons, List.map_nil, List.replicate, List.cons_append, List.nil_append, e1, e2]
  rfl
theorem and_word {n : Nat} : Builtin.bitAnd (n : Int) 65535 = ((n % 65536 : Nat) : Int) := by
  have h := Bits.bitAnd_mask (x := (n : Int)) 16 (by omega)
  have h2 : ((2 : Int) ^ 16 - 1) = 65535 := rfl
  rw [h2] at h
  rw [h]
  show (n : Int) % 65536 = _
  omega
def s4 (os : List Nat) : List Nat := [cs os / 65536 / 256, cs os / 65536 % 256, cs os % 65536 / 256, cs os % 65536 % 256]
theorem add_tup {xs ys : List D} {A : AH} (h : xs.length + ys.length ≤ 16777216) : fAdd (.tup xs) (.tup ys) A = .ok (.tup (xs ++ ys)) A := if_pos h
theorem sum_ok {os : List Nat} {A : AH} : sumM checkM pairM [.tup (dI os)] A = .ok (.tup (dI (s4 os))) A := by
  have e1 : (cs os : Int) / 2 ^ (Int.toNat 16) = ((cs os / 65536 : Nat) : Int) := by
    show (cs os : Int) / 65536 = _
    omega
  unfold sumM
  refine fun_rt ?_
  refine (seq_nx (ρ1 := [some (.tup (dI os)), some (.int (cs os : Nat))]) (A1 := A) ?_).trans ?_
  · simp only [ev_var, ev_K, ev_op, ev_neg, ev_tst, ev_and, ev_or, ev_not, ev_andV, ev_orV, ev_notV, ev_if, ev_chn, ev_nil, ev_cons, ev_tup, ev_lst, ev_new, ev_call, ev_callF, ev_callK, ev_met, ev_sl, ev_some, ev_none, ev_rev, ev_yes, ev_sq, ev_next, ev_drop, ev_ret, ev_ifs, ev_set, ev_par2, ev_par3, ev_asg, ev_nm, List.getElem?_cons_zero, List.getElem?_cons_succ, List.set_cons_zero, List.set_cons_succ, bind_ok, lift_ok, List.length_cons, List.length_nil, Nat.reduceAdd, Nat.reduceLeDiff, ↓reduceIte, if_true, if_false, Bool.false_eq_true, List.map_cons, List.map_nil, List.replicate, List.cons_append, List.nil_append, Nat.reduceSub, check_ok]
  simp only [ev_var, ev_K, ev_op, ev_neg, ev_tst, ev_and, ev_or, ev_not, ev_andV, ev_orV, ev_notV, ev_if, ev_chn, ev_nil, ev_cons, ev_tup, ev_lst, ev_new, ev_call, ev_callF, ev_callK, ev_met, ev_sl, ev_some, ev_none, ev_rev, ev_yes, ev_sq, ev_next, ev_drop, ev_ret, ev_ifs, ev_set, ev_par2, ev_par3, ev_asg, ev_nm, List.getElem?_cons_zero, List.getElem?_cons_succ, List.set_cons_zero, List.set_cons_succ, bind_ok, lift_ok, List.length_cons, List.length_nil, Nat.reduceAdd, Nat.reduceLeDiff, ↓reduceIte, if_true, if_false, Bool.false_eq_true, fShr, fAnd, fI, fI0, show (0 : Int) ≤ 16 by decide, e1, and_word, pair_ok]
  rw [add_tup (by simp [dI])]
  rfl
/-! ### a frame -/
def hd4 (b : List Nat) : List Nat := [b.length / 256, b.length % 256, (65535 - b.length) / 256, (65535 - b.length) % 256]
def pf (b : List Nat) : List Nat := hd4 b ++ b ++ s4 (hd4 b ++ b)
theorem pf_length (b : List Nat) : (pf b).length = b.length + 8 := by
  simp [pf, hd4, s4]
theorem len_tup {os : List Nat} {A : AH} : fLen [.tup (dI os)] A = .ok (.int (os.length : Nat)) A := by
  simp only [fLen, seqOf, dI_length]
theorem tup_tup {xs : List D} {A : AH} : fTup [.tup xs] A = .ok (.tup xs) A := rfl
theorem put_ok {b : List Nat} {A : AH} (hb : b.length ≤ 65535) : putM (sumM checkM pairM) pairM [.tup (dI b)] A = .ok (.tup (dI (pf b))) A := by
  have e0 : decide ((b.length : Int) > 65535) = false := decide_eq_false (by omega)
  have e1 : (65535 : Int) - (b.length : Int) = ((65535 - b.length : Nat) : Int) := by omega
  unfold putM
  refine fun_rt ?_
  refine (seq_nx (ρ1 := [some (.tup (dI b)), none]) (A1 := A) ?_).trans ?_
  · simp only [ev_var, ev_K, ev_op, ev_neg, ev_tst, ev_and, ev_or, ev_not, ev_andV, ev_orV, ev_notV, ev_if, ev_chn, ev_nil, ev_cons, ev_tup, ev_lst, ev_new, ev_call, ev_callF, ev_callK, ev_met, ev_sl, ev_some, ev_none, ev_rev, ev_yes, ev_sq, ev_next, ev_drop, ev_ret, ev_ifs, ev_set, ev_par2, ev_par3, ev_asg, ev_nm, List.getElem?_cons_zero, List.getElem?_cons_succ, List.set_cons_zero, List.set_cons_succ, bind_ok, lift_ok, List.length_cons, List.length_nil, Nat.reduceAdd, Nat.reduceLeDiff, ↓reduceIte, if_true, if_false, Bool.false_eq_true, List.map_cons, List.map_nil, List.replicate, List.cons_append, List.nil_append, Nat.reduceSub, len_tup, fGt, fI0, e0]
  refine (seq_nx (ρ1 := [some (.tup (dI b)), some (.tup (dI (hd4 b ++ b)))]) (A1 := A) ?_).trans ?_
  · simp only [ev_var, ev_K, ev_op, ev_neg, ev_tst, ev_and, ev_or, ev_not, ev_andV, ev_orV, ev_notV, ev_if, ev_chn, ev_nil, ev_cons, ev_tup, ev_lst, ev_new, ev_call, ev_callF, ev_callK, ev_met, ev_sl, ev_some, ev_none, ev_rev, ev_yes, ev_sq, ev_next, ev_drop, ev_ret, ev_ifs, ev_set, ev_par2, ev_par3, ev_asg, ev_nm, List.getElem?_cons_zero, List.getElem?_cons_succ, List.set_cons_zero, List.set_cons_succ, bind_ok, lift_ok, List.length_cons, List.length_nil, Nat.reduceAdd, Nat.reduceLeDiff, ↓reduceIte, if_true, if_false, Bool.false_eq_true, len_tup, fSub, fI0, e1, pair_ok, tup_tup]
    rw [add_tup (by simp [dI])]
    simp only [bind_ok, ↓reduceIte]
    rw [add_tup (by simp [dI]; omega)]
    simp only [lift_ok, ← dI_append, List.set_cons_zero, List.set_cons_succ]
    rfl
  · simp only [ev_var, ev_K, ev_op, ev_neg, ev_tst, ev_and, ev_or, ev_not, ev_andV, ev_orV, ev_notV, ev_if, ev_chn, ev_nil, ev_cons, ev_tup, ev_lst, ev_new, ev_call, ev_callF, ev_callK, ev_met, ev_sl, ev_some, ev_none, ev_rev, ev_yes, ev_sq, ev_next, ev_drop, ev_ret, ev_ifs, ev_set, ev_par2, ev_par3, ev_asg, ev_nm, List.getElem?_cons_zero, List.getElem?_cons_succ, List.set_cons_zero, List.set_cons_succ, bind_ok, lift_ok, List.length_cons, List.length_nil, Nat.reduceAdd, Nat.reduceLeDiff, ↓reduceIte, if_true, if_false, Bool.false_eq_true, sum_ok]
    rw [add_tup (by simp [dI, s4, hd4]; omega), ← dI_append]
    rfl
theorem put_exc {b : List Nat} {A : AH} (hb : 65535 < b.length) : putM (sumM checkM pairM) pairM [.tup (dI b)] A = .exc "InvalidSize" [("word", .str "body")] A := by
  have e0 : decide ((b.length : Int) > 65535) = true := decide_eq_true (by omega)
  unfold putM
  refine fun_exc (ρ1 := [some (.tup (dI b)), none]) ?_
  refine seq_exc ?_
  simp only [ev_var, ev_K, ev_op, ev_neg, ev_tst, ev_and, ev_or, ev_not, ev_andV, ev_orV, ev_notV, ev_if, ev_chn, ev_nil, ev_cons, ev_tup, ev_lst, ev_new, ev_call, ev_callF, ev_callK, ev_met, ev_sl, ev_some, ev_none, ev_rev, ev_yes, ev_sq, ev_next, ev_drop, ev_ret, ev_ifs, ev_set, ev_par2, ev_par3, ev_asg, ev_nm, List.getElem?_cons_zero, List.getElem?_cons_succ, List.set_cons_zero, List.set_cons_succ, bind_ok, lift_ok, List.length_cons, List.length_nil, Nat.reduceAdd, Nat.reduceLeDiff, ↓reduceIte, if_true, if_false, Bool.false_eq_true, ev_raise, List.map_cons, List.map_nil, List.replicate, List.cons_append, List.nil_append, Nat.reduceSub, len_tup, fGt, fI0, gt_iff_lt] at e0 ⊢
  simp only [e0, if_true]
end DM
end
section
set_option maxHeartbeats 1000000
namespace DM
open PySem PySem.Spec PyProof.Rows L2
section
variable {S : List D → AH → Res D} {T : D} {A : AH} {p n ia ib ic id : Int}
theorem fault_g1 (hl : fLen [T] A = .ok (.int n) A) (h1 : n < p + 4) : faultM S [T, .int p] A = .ok (.str "cut") A := by
  unfold faultM
  refine fun_rt ?_
  refine (seq_rt (d := .str "cut") (A1 := A) ?_)
  simp only [ev_var, ev_K, ev_op, ev_neg, ev_tst, ev_and, ev_or, ev_not, ev_andV, ev_orV, ev_notV, ev_if, ev_chn, ev_nil, ev_cons, ev_tup, ev_lst, ev_new, ev_call, ev_callF, ev_callK, ev_met, ev_sl, ev_some, ev_none, ev_rev, ev_yes, ev_sq, ev_next, ev_drop, ev_ret, ev_ifs, ev_set, ev_par2, ev_par3, ev_asg, ev_nm, List.getElem?_cons_zero, List.getElem?_cons_succ, List.set_cons_zero, List.set_cons_succ, bind_ok, lift_ok, List.length_cons, List.length_nil, Nat.reduceAdd, Nat.reduceLeDiff, ↓reduceIte, if_true, if_false, Bool.false_eq_true, List.map_cons, List.map_nil, List.replicate, List.cons_append, List.nil_append, Nat.reduceSub, hl, fAdd, fLt, fI0, decide_eq_true h1]
theorem fault_g2 (hl : fLen [T] A = .ok (.int n) A) (h1 : ¬ n < p + 4) (x0 : fIx T (.int p) A = .ok (.int ia) A) (x1 : fIx T (.int (p + 1)) A = .ok (.int ib) A) (x2 : fIx T (.int (p + 2)) A = .ok (.int ic) A) (x3 : fIx T (.int (p + 3)) A = .ok (.int id) A)
    (ca : CMul ia 256) (cc : CMul ic 256) (h2 : ia * 256 + ib + ic * 256 + id ≠ 65535) : faultM S [T, .int p] A = .ok (.str "broken") A := by
  unfold faultM
  refine fun_rt ?_
  refine (seq_nx (ρ1 := [some T, some (.int p), none, none]) (A1 := A) ?_).trans ?_
  · simp only [ev_var, ev_K, ev_op, ev_neg, ev_tst, ev_and, ev_or, ev_not, ev_andV, ev_orV, ev_notV, ev_if, ev_chn, ev_nil, ev_cons, ev_tup, ev_lst, ev_new, ev_call, ev_callF, ev_callK, ev_met, ev_sl, ev_some, ev_none, ev_rev, ev_yes, ev_sq, ev_next, ev_drop, ev_ret, ev_ifs, ev_set, ev_par2, ev_par3, ev_asg, ev_nm, List.getElem?_cons_zero, List.getElem?_cons_succ, List.set_cons_zero, List.set_cons_succ, bind_ok, lift_ok, List.length_cons, List.length_nil, Nat.reduceAdd, Nat.reduceLeDiff, ↓reduceIte, if_true, if_false, Bool.false_eq_true, List.map_cons, List.map_nil, List.replicate, List.cons_append, List.nil_append, Nat.reduceSub, hl, fAdd, fLt, fI0, decide_eq_false h1]
  refine (seq_nx (ρ1 := [some T, some (.int p), some (.int (ia * 256 + ib)), none]) (A1 := A) ?_).trans ?_
  · simp only [ev_var, ev_K, ev_op, ev_neg, ev_tst, ev_and, ev_or, ev_not, ev_andV, ev_orV, ev_notV, ev_if, ev_chn, ev_nil, ev_cons, ev_tup, ev_lst, ev_new, ev_call, ev_callF, ev_callK, ev_met, ev_sl, ev_some, ev_none, ev_rev, ev_yes, ev_sq, ev_next, ev_drop, ev_ret, ev_ifs, ev_set, ev_par2, ev_par3, ev_asg, ev_nm, List.getElem?_cons_zero, List.getElem?_cons_succ, List.set_cons_zero, List.set_cons_succ, bind_ok, lift_ok, List.length_cons, List.length_nil, Nat.reduceAdd, Nat.reduceLeDiff, ↓reduceIte, if_true, if_false, Bool.false_eq_true, x0, x1, fAdd, fMulA, fI, ca]
  refine (seq_rt (d := .str "broken") (A1 := A) ?_)
  simp only [ev_var, ev_K, ev_op, ev_neg, ev_tst, ev_and, ev_or, ev_not, ev_andV, ev_orV, ev_notV, ev_if, ev_chn, ev_nil, ev_cons, ev_tup, ev_lst, ev_new, ev_call, ev_callF, ev_callK, ev_met, ev_sl, ev_some, ev_none, ev_rev, ev_yes, ev_sq, ev_next, ev_drop, ev_ret, ev_ifs, ev_set, ev_par2, ev_par3, ev_asg, ev_nm, List.getElem?_cons_zero, List.getElem?_cons_succ, List.set_cons_zero, List.set_cons_succ, bind_ok, lift_ok, List.length_cons, List.length_nil, Nat.reduceAdd, Nat.reduceLeDiff, ↓reduceIte, if_true, if_false, Bool.false_eq_true, x2, x3, fAdd, fMulA, fI, cc, eq_ints, decide_eq_false h2, Bool.not_false]
theorem fault_g3 (hl : fLen [T] A = .ok (.int n) A) (h1 : ¬ n < p + 4) (x0 : fIx T (.int p) A = .ok (.int ia) A) (x1 : fIx T (.int (p + 1)) A = .ok (.int ib) A) (x2 : fIx T (.int (p + 2)) A = .ok (.int ic) A) (x3 : fIx T (.int (p + 3)) A = .ok (.int id) A)
    (ca : CMul ia 256) (cc : CMul ic 256) (h2 : ia * 256 + ib + ic * 256 + id = 65535) (h3 : n < p + (ia * 256 + ib) + 8) : faultM S [T, .int p] A = .ok (.str "cut") A := by
  unfold faultM
  refine fun_rt ?_
  refine (seq_nx (ρ1 := [some T, some (.int p), none, none]) (A1 := A) ?_).trans ?_
  · simp only [ev_var, ev_K, ev_op, ev_neg, ev_tst, ev_and, ev_or, ev_not, ev_andV, ev_orV, ev_notV, ev_if, ev_chn, ev_nil, ev_cons, ev_tup, ev_lst, ev_new, ev_call, ev_callF, ev_callK, ev_met, ev_sl, ev_some, ev_none, ev_rev, ev_yes, ev_sq, ev_next, ev_drop, ev_ret, ev_ifs, ev_set, ev_par2, ev_par3, ev_asg, ev_nm, List.getElem?_cons_zero, List.getElem?_cons_succ, List.set_cons_zero, List.set_cons_succ, bind_ok, lift_ok, List.length_cons, List.length_nil, Nat.reduceAdd, Nat.reduceLeDiff, ↓reduceIte, if_true, if_false, Bool.false_eq_true, List.map_cons, List.map_nil, List.replicate, List.cons_append, List.nil_append, Nat.reduceSub, hl, fAdd, fLt, fI0, decide_eq_false h1]
  refine (seq_nx (ρ1 := [some T, some (.int p), some (.int (ia * 256 + ib)), none]) (A1 := A) ?_).trans ?_
  · simp only [ev_var, ev_K, ev_op, ev_neg, ev_tst, ev_and, ev_or, ev_not, ev_andV, ev_orV, ev_notV, ev_if, ev_chn, ev_nil, ev_cons, ev_tup, ev_lst, ev_new, ev_call, ev_callF, ev_callK, ev_met, ev_sl, ev_some, ev_none, ev_rev, ev_yes, ev_sq, ev_next, ev_drop, ev_ret, ev_ifs, ev_set, ev_par2, ev_par3, ev_asg, ev_nm, List.getElem?_cons_zero, List.getElem?_cons_succ, List.set_cons_zero, List.set_cons_succ, bind_ok, lift_ok, List.length_cons, List.length_nil, Nat.reduceAdd, Nat.reduceLeDiff, ↓reduceIte, if_true, if_false, Bool.false_eq_true, x0, x1, fAdd, fMulA, fI, ca]
  refine (seq_nx (ρ1 := [some T, some (.int p), some (.int (ia * 256 + ib)), none]) (A1 := A) ?_).trans ?_
  · simp only [ev_var, ev_K, ev_op, ev_neg, ev_tst, ev_and, ev_or, ev_not, ev_andV, ev_orV, ev_notV, ev_if, ev_chn, ev_nil, ev_cons, ev_tup, ev_lst, ev_new, ev_call, ev_callF, ev_callK, ev_met, ev_sl, ev_some, ev_none, ev_rev, ev_yes, ev_sq, ev_next, ev_drop, ev_ret, ev_ifs, ev_set, ev_par2, ev_par3, ev_asg, ev_nm, List.getElem?_cons_zero, List.getElem?_cons_succ, List.set_cons_zero, List.set_cons_succ, bind_ok, lift_ok, List.length_cons, List.length_nil, Nat.reduceAdd, Nat.reduceLeDiff, ↓reduceIte, if_true, if_false, Bool.false_eq_true, x2, x3, fAdd, fMulA, fI, cc, eq_ints, decide_eq_true h2, Bool.not_true]
  refine (seq_nx (ρ1 := [some T, some (.int p), some (.int (ia * 256 + ib)), some (.int (p + (ia * 256 + ib) + 8))]) (A1 := A) ?_).trans ?_
  · simp only [ev_var, ev_K, ev_op, ev_neg, ev_tst, ev_and, ev_or, ev_not, ev_andV, ev_orV, ev_notV, ev_if, ev_chn, ev_nil, ev_cons, ev_tup, ev_lst, ev_new, ev_call, ev_callF, ev_callK, ev_met, ev_sl, ev_some, ev_none, ev_rev, ev_yes, ev_sq, ev_next, ev_drop, ev_ret, ev_ifs, ev_set, ev_par2, ev_par3, ev_asg, ev_nm, List.getElem?_cons_zero, List.getElem?_cons_succ, List.set_cons_zero, List.set_cons_succ, bind_ok, lift_ok, List.length_cons, List.length_nil, Nat.reduceAdd, Nat.reduceLeDiff, ↓reduceIte, if_true, if_false, Bool.false_eq_true, fAdd]
  refine (seq_rt (d := .str "cut") (A1 := A) ?_)
  simp only [ev_var, ev_K, ev_op, ev_neg, ev_tst, ev_and, ev_or, ev_not, ev_andV, ev_orV, ev_notV, ev_if, ev_chn, ev_nil, ev_cons, ev_tup, ev_lst, ev_new, ev_call, ev_callF, ev_callK, ev_met, ev_sl, ev_some, ev_none, ev_rev, ev_yes, ev_sq, ev_next, ev_drop, ev_ret, ev_ifs, ev_set, ev_par2, ev_par3, ev_asg, ev_nm, List.getElem?_cons_zero, List.getElem?_cons_succ, List.set_cons_zero, List.set_cons_succ, bind_ok, lift_ok, List.length_cons, List.length_nil, Nat.reduceAdd, Nat.reduceLeDiff, ↓reduceIte, if_true, if_false, Bool.false_eq_true, hl, fLt, fI0, decide_eq_true h3]
theorem fault_g4 {U U' V W : D} {k : Bool} (hl : fLen [T] A = .ok (.int n) A) (h1 : ¬ n < p + 4) (x0 : fIx T (.int p) A = .ok (.int ia) A) (x1 : fIx T (.int (p + 1)) A = .ok (.int ib) A) (x2 : fIx T (.int (p + 2)) A = .ok (.int ic) A) (x3 : fIx T (.int (p + 3)) A = .ok (.int id) A)
    (ca : CMul ia 256) (cc : CMul ic 256) (h2 : ia * 256 + ib + ic * 256 + id = 65535) (h3 : ¬ n < p + (ia * 256 + ib) + 8)
    (y1 : fSl T (some (p + (ia * 256 + ib) + 8 - 4)) (some (p + (ia * 256 + ib) + 8)) A = .ok U A) (y2 : fTup [U] A = .ok U' A) (y3 : fSl T (some p) (some (p + (ia * 256 + ib) + 8 - 4)) A = .ok V A) (y4 : S [V] A = .ok W A) (y5 : fEq false U' W A = .ok (.bl k) A) :
    faultM S [T, .int p] A = .ok (if k then .non else .str "broken") A := by
  unfold faultM
  refine fun_rt ?_
  refine (seq_nx (ρ1 := [some T, some (.int p), none, none]) (A1 := A) ?_).trans ?_
  · simp only [ev_var, ev_K, ev_op, ev_neg, ev_tst, ev_and, ev_or, ev_not, ev_andV, ev_orV, ev_notV, ev_if, ev_chn, ev_nil, ev_cons, ev_tup, ev_lst, ev_new, ev_call, ev_callF, ev_callK, ev_met, ev_sl, ev_some, ev_none, ev_rev, ev_yes, ev_sq, ev_next, ev_drop, ev_ret, ev_ifs, ev_set, ev_par2, ev_par3, ev_asg, ev_nm, List.getElem?_cons_zero, List.getElem?_cons_succ, List.set_cons_zero, List.set_cons_succ, bind_ok, lift_ok, List.length_cons, List.length_nil, Nat.reduceAdd, Nat.reduceLeDiff, ↓reduceIte, if_true, if_false, Bool.false_eq_true, List.map_cons, List.map_nil, List.replicate, List.cons_append, List.nil_append, Nat.reduceSub, hl, fAdd, fLt, fI0, decide_eq_false h1]
  refine (seq_nx (ρ1 := [some T, some (.int p), some (.int (ia * 256 + ib)), none]) (A1 := A) ?_).trans ?_
  · simp only [ev_var, ev_K, ev_op, ev_neg, ev_tst, ev_and, ev_or, ev_not, ev_andV, ev_orV, ev_notV, ev_if, ev_chn, ev_nil, ev_cons, ev_tup, ev_lst, ev_new, ev_call, ev_callF, ev_callK, ev_met, ev_sl, ev_some, ev_none, ev_rev, ev_yes, ev_sq, ev_next, ev_drop, ev_ret, ev_ifs, ev_set, ev_par2, ev_par3, ev_asg, ev_nm, List.getElem?_cons_zero, List.getElem?_cons_succ, List.set_cons_zero, List.set_cons_succ, bind_ok, lift_ok, List.length_cons, List.length_nil, Nat.reduceAdd, Nat.reduceLeDiff, ↓reduceIte, if_true, if_false, Bool.false_eq_true, x0, x1, fAdd, fMulA, fI, ca]
  refine (seq_nx (ρ1 := [some T, some (.int p), some (.int (ia * 256 + ib)), none]) (A1 := A) ?_).trans ?_
  · simp only [ev_var, ev_K, ev_op, ev_neg, ev_tst, ev_and, ev_or, ev_not, ev_andV, ev_orV, ev_notV, ev_if, ev_chn, ev_nil, ev_cons, ev_tup, ev_lst, ev_new, ev_call, ev_callF, ev_callK, ev_met, ev_sl, ev_some, ev_none, ev_rev, ev_yes, ev_sq, ev_next, ev_drop, ev_ret, ev_ifs, ev_set, ev_par2, ev_par3, ev_asg, ev_nm, List.getElem?_cons_zero, List.getElem?_cons_succ, List.set_cons_zero, List.set_cons_succ, bind_ok, lift_ok, List.length_cons, List.length_nil, Nat.reduceAdd, Nat.reduceLeDiff, ↓reduceIte, if_true, if_false, Bool.false_eq_true, x2, x3, fAdd, fMulA, fI, cc, eq_ints, decide_eq_true h2, Bool.not_true]
  refine (seq_nx (ρ1 := [some T, some (.int p), some (.int (ia * 256 + ib)), some (.int (p + (ia * 256 + ib) + 8))]) (A1 := A) ?_).trans ?_
  · simp only [ev_var, ev_K, ev_op, ev_neg, ev_tst, ev_and, ev_or, ev_not, ev_andV, ev_orV, ev_notV, ev_if, ev_chn, ev_nil, ev_cons, ev_tup, ev_lst, ev_new, ev_call, ev_callF, ev_callK, ev_met, ev_sl, ev_some, ev_none, ev_rev, ev_yes, ev_sq, ev_next, ev_drop, ev_ret, ev_ifs, ev_set, ev_par2, ev_par3, ev_asg, ev_nm, List.getElem?_cons_zero, List.getElem?_cons_succ, List.set_cons_zero, List.set_cons_succ, bind_ok, lift_ok, List.length_cons, List.length_nil, Nat.reduceAdd, Nat.reduceLeDiff, ↓reduceIte, if_true, if_false, Bool.false_eq_true, fAdd]
  refine (seq_nx (ρ1 := [some T, some (.int p), some (.int (ia * 256 + ib)), some (.int (p + (ia * 256 + ib) + 8))]) (A1 := A) ?_).trans ?_
  · simp only [ev_var, ev_K, ev_op, ev_neg, ev_tst, ev_and, ev_or, ev_not, ev_andV, ev_orV, ev_notV, ev_if, ev_chn, ev_nil, ev_cons, ev_tup, ev_lst, ev_new, ev_call, ev_callF, ev_callK, ev_met, ev_sl, ev_some, ev_none, ev_rev, ev_yes, ev_sq, ev_next, ev_drop, ev_ret, ev_ifs, ev_set, ev_par2, ev_par3, ev_asg, ev_nm, List.getElem?_cons_zero, List.getElem?_cons_succ, List.set_cons_zero, List.set_cons_succ, bind_ok, lift_ok, List.length_cons, List.length_nil, Nat.reduceAdd, Nat.reduceLeDiff, ↓reduceIte, if_true, if_false, Bool.false_eq_true, hl, fLt, fI0, decide_eq_false h3]
  simp only [ev_var, ev_K, ev_op, ev_neg, ev_tst, ev_and, ev_or, ev_not, ev_andV, ev_orV, ev_notV, ev_if, ev_chn, ev_nil, ev_cons, ev_tup, ev_lst, ev_new, ev_call, ev_callF, ev_callK, ev_met, ev_sl, ev_some, ev_none, ev_rev, ev_yes, ev_sq, ev_next, ev_drop, ev_ret, ev_ifs, ev_set, ev_par2, ev_par3, ev_asg, ev_nm, List.getElem?_cons_zero, List.getElem?_cons_succ, List.set_cons_zero, List.set_cons_succ, bind_ok, lift_ok, List.length_cons, List.length_nil, Nat.reduceAdd, Nat.reduceLeDiff, ↓reduceIte, if_true, if_false, Bool.false_eq_true, fSub, fI0, y1, y2, y3, y4, y5]
  cases k <;> rfl
end
/-! ### what is told of the octets from a place on -/
def ffR : List Nat → D
  | a :: b :: c :: d :: r => if a * 256 + b + c * 256 + d ≠ 65535 then .str "broken" else if r.length < a * 256 + b + 4 then .str "cut" else
      if (r.drop (a * 256 + b)).take 4 = s4 ((a :: b :: c :: d :: r).take (a * 256 + b + 4)) then .non else .str "broken"
  | _ => .str "cut"
theorem eqvAll_ints : ∀ L M : List Int, PyData.eqvAll (L.map PyData.int) (M.map PyData.int) = decide (L = M)
  | [], [] => rfl
  | [], _ :: _ => rfl
  | _ :: _, [] => rfl
  | x :: L, y :: M => by
    simp only [List.map_cons, PyData.eqvAll, PyData.eqv, eqvAll_ints L M]
    by_cases h : x = y <;> simp [h]
theorem cast_inj {L M : List Nat} : ((L.map fun n : Nat => (n : Int)) = M.map fun n : Nat => (n : Int)) ↔ L = M := by
  constructor
  · intro h
    exact List.map_inj_right (f := fun n : Nat => (n : Int)) (by intro a b h; exact Int.ofNat.inj h) |>.mp h
  · rintro rfl; rfl
theorem eq_tups {L M : List Nat} {A : AH} {neg : Bool} : fEq neg (.tup (dI L)) (.tup (dI M)) A = .ok (.bl (if neg then !decide (L = M) else decide (L = M))) A := by
  have e : cEq A (.tup (dI L)) (.tup (dI M)) = some (decide (L = M)) := by
    unfold cEq
    simp only [dI_ints, toPyA, toPy, toPys_ints, Option.map_some, shaped_tints, and_self, if_true, PyData.eqv, eqvAll_ints, cast_inj]
  unfold fEq
  rw [e]
theorem ix_dI {os : List Nat} {k v : Nat} {j : Int} {A : AH} (h : os[k]? = some v) (hj : j = k) : fIx (.tup (dI os)) (.int j) A = .ok (.int v) A := by
  subst hj
  refine ix_tup (atI_nat ?_)
  simp [dI, h]
theorem cut_nat {xs : List D} {lo hi : Nat} (h1 : lo ≤ hi) (h2 : hi ≤ xs.length) : cutD xs (some (lo : Int)) (some (hi : Int)) = (xs.drop lo).take (hi - lo) := by
  unfold cutD
  rw [HT.sIx_nat, HT.sIx_nat, Nat.min_eq_left h2, Nat.min_eq_left (Nat.le_trans h1 h2)]
theorem sl_dI {os : List Nat} {lo hi : Nat} {i j : Int} {A : AH} (h1 : lo ≤ hi) (h2 : hi ≤ os.length) (e1 : i = lo) (e2 : j = hi) : fSl (.tup (dI os)) (some i) (some j) A = .ok (.tup (dI ((os.drop lo).take (hi - lo)))) A := by
  subst e1; subst e2
  simp only [fSl]
  rw [cut_nat h1 (by rw [dI_length]; exact h2), dI_drop, dI_take]
theorem fault_ok {os : List Nat} {p : Nat} {A : AH} (hb : ∀ b ∈ os, b < 256) (hp : p ≤ os.length) : faultM (sumM checkM pairM) [.tup (dI os), .int p] A = .ok (ffR (os.drop p)) A := by
  by_cases h4 : os.length < p + 4
  · rw [fault_g1 len_tup (by omega)]
    have hl : (os.drop p).length < 4 := by rw [List.length_drop]; omega
    match hr : os.drop p, hl with
    | [], _ => rfl
    | [_], _ => rfl
    | [_, _], _ => rfl
    | [_, _, _], _ => rfl
    | _ :: _ :: _ :: _ :: _, hl => simp at hl; omega
  · have hl : 4 ≤ (os.drop p).length := by rw [List.length_drop]; omega
    match hr : os.drop p, hl with
    | a :: b :: c :: d :: r, _ =>
      have hi : ∀ i : Nat, os[p + i]? = (a :: b :: c :: d :: r)[i]? := fun i => by rw [← hr, List.getElem?_drop]
      have hrl : os.length = p + (r.length + 4) := by
        have := congrArg List.length hr
        simp at this
        omega
      have hm : ∀ (i v : Nat), os[p + i]? = some v → v < 256 := fun i v h => hb v (List.mem_of_getElem? h)
      have ga : os[p]? = some a := hi 0
      have gb : os[p + 1]? = some b := hi 1
      have gc : os[p + 2]? = some c := hi 2
      have gd : os[p + 3]? = some d := hi 3
      have ba := hm 0 a ga
      have bc := hm 2 c gc
      have ca : CMul (a : Int) 256 := .inl ⟨by omega, by omega⟩
      have cc : CMul (c : Int) 256 := .inl ⟨by omega, by omega⟩
      have x0 := ix_dI (j := (p : Int)) (A := A) ga rfl
      have x1 := ix_dI (j := (p : Int) + 1) (A := A) gb (by omega)
      have x2 := ix_dI (j := (p : Int) + 2) (A := A) gc (by omega)
      have x3 := ix_dI (j := (p : Int) + 3) (A := A) gd (by omega)
      have h1 : ¬ (os.length : Int) < (p : Int) + 4 := by omega
      by_cases h2 : a * 256 + b + c * 256 + d = 65535
      · by_cases h3 : r.length < a * 256 + b + 4
        · rw [fault_g3 len_tup h1 x0 x1 x2 x3 ca cc (by omega) (by omega)]
          simp only [ffR, h2, ne_eq, not_true_eq_false, if_false, h3, if_true]
        · have hd1 : (os.drop (p + (a * 256 + b) + 4)).take 4 = (r.drop (a * 256 + b)).take 4 := by
            have : os.drop (p + (a * 256 + b) + 4) = r.drop (a * 256 + b) := by
              rw [show p + (a * 256 + b) + 4 = p + (a * 256 + b + 4) by omega, ← List.drop_drop, hr]
              rfl
            rw [this]
          have y1 := sl_dI (os := os) (A := A) (lo := p + (a * 256 + b) + 4) (hi := p + (a * 256 + b) + 8) (i := (p : Int) + ((a : Int) * 256 + b) + 8 - 4) (j := (p : Int) + ((a : Int) * 256 + b) + 8) (by omega) (by omega) (by omega) (by omega)
          have y3 := sl_dI (os := os) (A := A) (lo := p) (hi := p + (a * 256 + b) + 4) (i := (p : Int)) (j := (p : Int) + ((a : Int) * 256 + b) + 8 - 4) (by omega) (by omega) rfl (by omega)
          rw [show p + (a * 256 + b) + 8 - (p + (a * 256 + b) + 4) = 4 by omega, hd1] at y1
          rw [show p + (a * 256 + b) + 4 - p = a * 256 + b + 4 by omega, hr] at y3
          rw [fault_g4 len_tup h1 x0 x1 x2 x3 ca cc (by omega) (by omega) y1 tup_tup y3 sum_ok eq_tups]
          simp only [ffR, h2, ne_eq, not_true_eq_false, if_false, h3]
          by_cases h5 : (r.drop (a * 256 + b)).take 4 = s4 ((a :: b :: c :: d :: r).take (a * 256 + b + 4))
          · rw [if_pos h5, decide_eq_true h5]; rfl
          · rw [if_neg h5, decide_eq_false h5]; rfl
      · rw [fault_g2 len_tup h1 x0 x1 x2 x3 ca cc (by omega)]
        simp only [ffR, ne_eq, h2, not_false_eq_true, if_true]
end DM
end
section
set_option maxHeartbeats 1000000
namespace DM
open PySem PySem.Spec PyProof.Rows L2
noncomputable def getM (c_frame_fault : List D → AH → Res D) : List D → AH → Res D := mFun 4 (mSeq (mSet 2 (mCallF 2 c_frame_fault (mCons (mVar 0) (mCons (mVar 1) (mNil))))) (mSeq (mIfS (mTst
    (mOp (fIsN true) (mVar 2) (mK .non))) (mRaise "Refused" "word" (mVar 2)) (mNext)) (mSeq (mSet 3 (mOp fAdd (mOp fAdd (mOp fAdd (mVar 1) (mOp fMulA (mOp fIx (mVar 0) (mVar 1)) (mK (.int 256)))) (mOp fIx (mVar 0) (mOp fAdd (mVar
    1) (mK (.int 1))))) (mK (.int 8)))) (mRet (mTup (mCons (mCall fTup (mCons (mSl (mVar 0) (mSome (mOp fAdd (mVar 1) (mK (.int 4)))) (mSome (mOp fSub (mVar 3) (mK (.int 4))))) (mNil))) (mCons (mVar 3)
    (mNil))))))))
def rdBody (c_frame_fault : List D → AH → Res D) (c_get_frame : List D → AH → Res D) : MS := (mSeq (mAsg (.tp [.nm 4, .nm 2]) (mCallF 2
    c_get_frame (mCons (mVar 0) (mCons (mVar 2) (mNil))))) (mSeq (mDrop (mMet fApp (mVar 1) (mCons (mVar 4) (mNil)))) (mSet 3 (mCallF 2 c_frame_fault (mCons (mVar 0) (mCons (mVar 2) (mNil)))))))
def rdTst : MT := mTst (mOp (fIsN false) (mVar 3) (mK .non))
noncomputable def readM (c_frame_fault : List D → AH → Res D) (c_get_frame : List D → AH → Res D) : List D → AH → Res D := mFun 5 (mSeq (mPar3 1 2 3 (mCons (mNew (mNil)) (mCons (mK (.int 0))
    (mCons (mCallF 2 c_frame_fault (mCons (mVar 0) (mCons (mK (.int 0)) (mNil)))) (mNil))))) (mSeq (mWhile rdTst (rdBody c_frame_fault c_get_frame)) (mRet
    (mTup (mCons (mCall fTup (mCons (mVar 1) (mNil))) (mCons (mVar 2) (mCons (mIf (mTst (mOp (fEq false) (mVar 2) (mCall fLen (mCons (mVar 0) (mNil))))) (mK (.str "whole")) (mVar 3)) (mNil))))))))
section
variable {F G : List D → AH → Res D} {T U U' : D} {A : AH} {p n ia ib ic id : Int}
theorem get_g (hf : F [T, .int p] A = .ok .non A) (x0 : fIx T (.int p) A = .ok (.int ia) A) (x1 : fIx T (.int (p + 1)) A = .ok (.int ib) A) (ca : CMul ia 256)
    (y1 : fSl T (some (p + 4)) (some (p + ia * 256 + ib + 8 - 4)) A = .ok U A) (y2 : fTup [U] A = .ok U' A) : getM F [T, .int p] A = .ok (.tup [U', .int (p + ia * 256 + ib + 8)]) A := by
  unfold getM
  refine fun_rt ?_
  refine (seq_nx (ρ1 := [some T, some (.int p), some .non, none]) (A1 := A) ?_).trans ?_
  · simp only [ev_var, ev_K, ev_op, ev_neg, ev_tst, ev_and, ev_or, ev_not, ev_andV, ev_orV, ev_notV, ev_if, ev_chn, ev_nil, ev_cons, ev_tup, ev_lst, ev_new, ev_call, ev_callF, ev_callK, ev_met, ev_sl, ev_some, ev_none, ev_rev, ev_yes, ev_sq, ev_next, ev_drop, ev_ret, ev_ifs, ev_set, ev_par2, ev_par3, ev_asg, ev_nm, List.getElem?_cons_zero, List.getElem?_cons_succ, List.set_cons_zero, List.set_cons_succ, bind_ok, lift_ok, List.length_cons, List.length_nil, Nat.reduceAdd, Nat.reduceLeDiff, ↓reduceIte, if_true, if_false, Bool.false_eq_true, List.map_cons, List.map_nil, List.replicate, List.cons_append, List.nil_append, Nat.reduceSub, hf]
  refine (seq_nx (ρ1 := [some T, some (.int p), some .non, none]) (A1 := A) ?_).trans ?_
  · simp only [ev_var, ev_K, ev_op, ev_neg, ev_tst, ev_and, ev_or, ev_not, ev_andV, ev_orV, ev_notV, ev_if, ev_chn, ev_nil, ev_cons, ev_tup, ev_lst, ev_new, ev_call, ev_callF, ev_callK, ev_met, ev_sl, ev_some, ev_none, ev_rev, ev_yes, ev_sq, ev_next, ev_drop, ev_ret, ev_ifs, ev_set, ev_par2, ev_par3, ev_asg, ev_nm, List.getElem?_cons_zero, List.getElem?_cons_succ, List.set_cons_zero, List.set_cons_succ, bind_ok, lift_ok, List.length_cons, List.length_nil, Nat.reduceAdd, Nat.reduceLeDiff, ↓reduceIte, if_true, if_false, Bool.false_eq_true, fIsN, isNon, Bool.not_true]
  refine (seq_nx (ρ1 := [some T, some (.int p), some .non, some (.int (p + ia * 256 + ib + 8))]) (A1 := A) ?_).trans ?_
  · simp only [ev_var, ev_K, ev_op, ev_neg, ev_tst, ev_and, ev_or, ev_not, ev_andV, ev_orV, ev_notV, ev_if, ev_chn, ev_nil, ev_cons, ev_tup, ev_lst, ev_new, ev_call, ev_callF, ev_callK, ev_met, ev_sl, ev_some, ev_none, ev_rev, ev_yes, ev_sq, ev_next, ev_drop, ev_ret, ev_ifs, ev_set, ev_par2, ev_par3, ev_asg, ev_nm, List.getElem?_cons_zero, List.getElem?_cons_succ, List.set_cons_zero, List.set_cons_succ, bind_ok, lift_ok, List.length_cons, List.length_nil, Nat.reduceAdd, Nat.reduceLeDiff, ↓reduceIte, if_true, if_false, Bool.false_eq_true, x0, x1, fAdd, fMulA, fI, ca]
  simp only [ev_var, ev_K, ev_op, ev_neg, ev_tst, ev_and, ev_or, ev_not, ev_andV, ev_orV, ev_notV, ev_if, ev_chn, ev_nil, ev_cons, ev_tup, ev_lst, ev_new, ev_call, ev_callF, ev_callK, ev_met, ev_sl, ev_some, ev_none, ev_rev, ev_yes, ev_sq, ev_next, ev_drop, ev_ret, ev_ifs, ev_set, ev_par2, ev_par3, ev_asg, ev_nm, List.getElem?_cons_zero, List.getElem?_cons_succ, List.set_cons_zero, List.set_cons_succ, bind_ok, lift_ok, List.length_cons, List.length_nil, Nat.reduceAdd, Nat.reduceLeDiff, ↓reduceIte, if_true, if_false, Bool.false_eq_true, fAdd, fSub, fI0, y1, y2]
theorem bind_pair {x y : D} {i j : Nat} {ρ : DM.Env} : bindT (.tp [.nm i, .nm j]) (.tup [x, y]) ρ = some ((ρ.set i (some x)).set j (some y)) := rfl
theorem read_turn {b w : D} {e : Int} {n : Nat} {xs : List D} (hA : A[n]? = some (.lst xs)) (hx : xs.length < 16777216) (hg : G [T, .int p] A = .ok (.tup [b, .int e]) A) (hf : F [T, .int e] (A.set n (.lst (xs ++ [b]))) = .ok w (A.set n (.lst (xs ++ [b])))) {o : Option D} :
    rdBody F G [some T, some (.ref n), some (.int p), some .non, o] A = .nx [some T, some (.ref n), some (.int e), some w, some b] (A.set n (.lst (xs ++ [b]))) := by
  unfold rdBody
  refine (seq_nx (ρ1 := [some T, some (.ref n), some (.int e), some .non, some b]) (A1 := A) ?_).trans ?_
  · simp only [ev_var, ev_K, ev_op, ev_neg, ev_tst, ev_and, ev_or, ev_not, ev_andV, ev_orV, ev_notV, ev_if, ev_chn, ev_nil, ev_cons, ev_tup, ev_lst, ev_new, ev_call, ev_callF, ev_callK, ev_met, ev_sl, ev_some, ev_none, ev_rev, ev_yes, ev_sq, ev_next, ev_drop, ev_ret, ev_ifs, ev_set, ev_par2, ev_par3, ev_asg, ev_nm, List.getElem?_cons_zero, List.getElem?_cons_succ, List.set_cons_zero, List.set_cons_succ, bind_ok, lift_ok, List.length_cons, List.length_nil, Nat.reduceAdd, Nat.reduceLeDiff, ↓reduceIte, if_true, if_false, Bool.false_eq_true, hg, bind_pair]
  refine (seq_nx (ρ1 := [some T, some (.ref n), some (.int e), some .non, some b]) (A1 := A.set n (.lst (xs ++ [b]))) ?_).trans ?_
  · simp only [ev_var, ev_K, ev_op, ev_neg, ev_tst, ev_and, ev_or, ev_not, ev_andV, ev_orV, ev_notV, ev_if, ev_chn, ev_nil, ev_cons, ev_tup, ev_lst, ev_new, ev_call, ev_callF, ev_callK, ev_met, ev_sl, ev_some, ev_none, ev_rev, ev_yes, ev_sq, ev_next, ev_drop, ev_ret, ev_ifs, ev_set, ev_par2, ev_par3, ev_asg, ev_nm, List.getElem?_cons_zero, List.getElem?_cons_succ, List.set_cons_zero, List.set_cons_succ, bind_ok, lift_ok, List.length_cons, List.length_nil, Nat.reduceAdd, Nat.reduceLeDiff, ↓reduceIte, if_true, if_false, Bool.false_eq_true, fApp, hA, hx]
  simp only [ev_var, ev_K, ev_op, ev_neg, ev_tst, ev_and, ev_or, ev_not, ev_andV, ev_orV, ev_notV, ev_if, ev_chn, ev_nil, ev_cons, ev_tup, ev_lst, ev_new, ev_call, ev_callF, ev_callK, ev_met, ev_sl, ev_some, ev_none, ev_rev, ev_yes, ev_sq, ev_next, ev_drop, ev_ret, ev_ifs, ev_set, ev_par2, ev_par3, ev_asg, ev_nm, List.getElem?_cons_zero, List.getElem?_cons_succ, List.set_cons_zero, List.set_cons_succ, bind_ok, lift_ok, List.length_cons, List.length_nil, Nat.reduceAdd, Nat.reduceLeDiff, ↓reduceIte, if_true, if_false, Bool.false_eq_true, hf]
theorem read_tst {x0 x1 x2 x4 : Option D} {w : D} : rdTst [x0, x1, x2, some w, x4] A = .ok (isNon w) A := by
  unfold rdTst
  simp only [ev_var, ev_K, ev_op, ev_neg, ev_tst, ev_and, ev_or, ev_not, ev_andV, ev_orV, ev_notV, ev_if, ev_chn, ev_nil, ev_cons, ev_tup, ev_lst, ev_new, ev_call, ev_callF, ev_callK, ev_met, ev_sl, ev_some, ev_none, ev_rev, ev_yes, ev_sq, ev_next, ev_drop, ev_ret, ev_ifs, ev_set, ev_par2, ev_par3, ev_asg, ev_nm, List.getElem?_cons_zero, List.getElem?_cons_succ, List.set_cons_zero, List.set_cons_succ, bind_ok, lift_ok, List.length_cons, List.length_nil, Nat.reduceAdd, Nat.reduceLeDiff, ↓reduceIte, if_true, if_false, Bool.false_eq_true, fIsN]
theorem eq_len {i j : Int} : fEq false (.int i) (.int j) A = .ok (.bl (decide (i = j))) A := rfl
end
/-! ### frames told and read -/
theorem hd4_app (b r : List Nat) : hd4 b ++ r = (b.length / 256) :: (b.length % 256) :: ((65535 - b.length) / 256) :: ((65535 - b.length) % 256) :: r := rfl
theorem pf_eq (b : List Nat) : pf b = (b.length / 256) :: (b.length % 256) :: ((65535 - b.length) / 256) :: ((65535 - b.length) % 256) :: (b ++ s4 (hd4 b ++ b)) := by
  unfold pf
  rw [List.append_assoc, hd4_app]
theorem s4_length (os : List Nat) : (s4 os).length = 4 := rfl
theorem ffR_cons {a b c d : Nat} {r : List Nat} : ffR (a :: b :: c :: d :: r) = if a * 256 + b + c * 256 + d ≠ 65535 then .str "broken" else if r.length < a * 256 + b + 4 then .str "cut" else if (r.drop (a * 256 + b)).take 4 = s4 ((a :: b :: c :: d :: r).take (a * 256 + b + 4)) then .non else .str "broken" := rfl
theorem ffR_whole {b rest : List Nat} (hb : b.length ≤ 65535) : ffR (pf b ++ rest) = .non := by
  rw [pf_eq]
  simp only [List.cons_append]
  rw [ffR_cons]
  have e : b.length / 256 * 256 + b.length % 256 = b.length := by omega
  rw [if_neg (by omega), e, if_neg (by simp [s4_length])]
  rw [if_pos]
  rw [← hd4_app, List.append_assoc, List.drop_left, List.take_left' (s4_length _), show b.length + 4 = (hd4 b ++ b).length by simp [hd4]]
  rw [← List.append_assoc, List.take_left]
theorem ffR_cut {b : List Nat} {c : Nat} (hb : b.length ≤ 65535) (hc : c < b.length + 8) : ffR ((pf b).take c) = .str "cut" := by
  rw [pf_eq]
  match c with
  | 0 => rfl
  | 1 => rfl
  | 2 => rfl
  | 3 => rfl
  | c + 4 =>
    simp only [List.take_succ_cons]
    rw [ffR_cons, if_neg (by omega), if_pos]
    rw [List.length_take, List.length_append, s4_length]
    omega
theorem s4_oct (os : List Nat) : ∀ b ∈ s4 os, b < 256 := by
  have h : cs os < 4294967296 := by
    suffices hh : ∀ (os : List Nat) (t : Nat), t < 4294967296 → os.foldl (fun t o => (t * 256 + o) % 4294967291) t < 4294967296 from hh os 1 (by decide)
    intro os
    induction os with
    | nil => intro t h; exact h
    | cons o os ih =>
      intro t _
      rw [List.foldl_cons]
      exact ih _ (Nat.lt_trans (Nat.mod_lt _ (by decide)) (by decide))
  intro b hb
  simp only [s4, List.mem_cons, List.not_mem_nil, or_false] at hb
  omega
theorem pf_oct {b : List Nat} (hb : b.length ≤ 65535) (h : ∀ x ∈ b, x < 256) : ∀ x ∈ pf b, x < 256 := by
  intro x hx
  unfold pf hd4 at hx
  rw [List.mem_append, List.mem_append] at hx
  rcases hx with (hx | hx) | hx
  · simp only [List.mem_cons, List.not_mem_nil, or_false] at hx
    omega
  · exact h x hx
  · exact s4_oct _ x hx
theorem get_ok {os b rest : List Nat} {p : Nat} {A : AH} (ho : ∀ x ∈ os, x < 256) (hb : b.length ≤ 65535) (hr : os.drop p = pf b ++ rest) :
    getM (faultM (sumM checkM pairM)) [.tup (dI os), .int p] A = .ok (.tup [.tup (dI b), .int ((p + b.length + 8 : Nat) : Int)]) A := by
  have hl : os.length - p = b.length + 8 + rest.length := by
    rw [← List.length_drop, hr, List.length_append, pf_length]
  have hp : p ≤ os.length := by omega
  have hi : ∀ i : Nat, os[p + i]? = (pf b ++ rest)[i]? := fun i => by rw [← hr, List.getElem?_drop]
  have ga : os[p]? = some (b.length / 256) := by rw [show p = p + 0 by omega, hi 0, pf_eq]; rfl
  have gb : os[p + 1]? = some (b.length % 256) := by rw [hi 1, pf_eq]; rfl
  have hd : (os.drop (p + 4)).take b.length = b := by
    rw [← List.drop_drop, hr, pf_eq]
    simp only [List.cons_append, List.drop_succ_cons, List.drop_zero, List.append_assoc]
    exact List.take_left
  have x0 := ix_dI (j := (p : Int)) (A := A) ga rfl
  have x1 := ix_dI (j := (p : Int) + 1) (A := A) gb (by omega)
  have hf : faultM (sumM checkM pairM) [.tup (dI os), .int p] A = .ok .non A := by
    rw [fault_ok ho hp, hr, ffR_whole hb]
  have y1 := sl_dI (os := os) (A := A) (lo := p + 4) (hi := p + 4 + b.length) (i := (p : Int) + 4) (j := (p : Int) + ((b.length / 256 : Nat) : Int) * 256 + ((b.length % 256 : Nat) : Int) + 8 - 4) (by omega) (by omega) (by omega) (by omega)
  rw [show p + 4 + b.length - (p + 4) = b.length by omega, hd] at y1
  rw [get_g hf x0 x1 (.inl ⟨by omega, by omega⟩) y1 tup_tup, show (p : Int) + ((b.length / 256 : Nat) : Int) * 256 + ((b.length % 256 : Nat) : Int) + 8 = ((p + b.length + 8 : Nat) : Int) by omega]
def tups (bs : List (List Nat)) : List D := bs.map fun b => D.tup (dI b)
def tot (bs : List (List Nat)) : Nat := (bs.map fun b => b.length + 8).sum
theorem set_get {A : AH} {n : Nat} {o u : AO} (h : A[n]? = some o) : (A.set n u)[n]? = some u := List.getElem?_set_self (List.getElem?_eq_some_iff.mp h).1
theorem read_go {os rest : List Nat} {w : D} {n : Nat} (ho : ∀ x ∈ os, x < 256) (hw : ffR rest = w) (hn : isNon w = false) : ∀ (bs : List (List Nat)) (p : Nat) (xs : List D) (A : AH) (o : Option D), (∀ b ∈ bs, b.length ≤ 65535) → os.drop p = (bs.map pf).flatten ++ rest → p ≤ os.length → A[n]? = some (.lst xs) → xs.length + bs.length < 16777216 →
    ∃ o', iterW rdTst (rdBody (faultM (sumM checkM pairM)) (getM (faultM (sumM checkM pairM)))) (bs.length + 1) [some (.tup (dI os)), some (.ref n), some (.int p), some (ffR (os.drop p)), o] A
      = .nx [some (.tup (dI os)), some (.ref n), some (.int ((p + tot bs : Nat) : Int)), some w, o'] (A.set n (.lst (xs ++ tups bs)))
  | [], p, xs, A, o, _, hr, hp, hA, _ => by
    refine ⟨o, ?_⟩
    rw [hr]
    have e : A.set n (.lst (xs ++ tups [])) = A := by
      have h1 := List.getElem?_eq_some_iff.mp hA
      rw [show xs ++ tups [] = xs by simp [tups], ← h1.2]
      exact List.set_getElem_self h1.1
    rw [e]
    simp only [List.map_nil, List.flatten_nil, List.nil_append, hw]
    unfold iterW
    rw [read_tst, hn]
    simp [tot]
  | b :: bs, p, xs, A, o, hb, hr, hp, hA, hl => by
    have hb1 : b.length ≤ 65535 := hb b List.mem_cons_self
    simp only [List.map_cons, List.flatten_cons, List.append_assoc] at hr
    simp only [List.length_cons] at hl
    have hlen : os.length - p = b.length + 8 + ((bs.map pf).flatten ++ rest).length := by
      rw [← List.length_drop, hr, List.length_append, pf_length]
    have hr2 : os.drop (p + b.length + 8) = (bs.map pf).flatten ++ rest := by
      rw [Nat.add_assoc, ← List.drop_drop, hr, ← pf_length b, List.drop_left]
    obtain ⟨o', ih⟩ := read_go ho hw hn bs (p + b.length + 8) (xs ++ [.tup (dI b)]) (A.set n (.lst (xs ++ [.tup (dI b)]))) (some (.tup (dI b))) (fun x hx => hb x (List.mem_cons_of_mem _ hx)) hr2 (by omega) (set_get hA) (by simp; omega)
    refine ⟨o', ?_⟩
    have t1 : ffR (os.drop p) = .non := by rw [hr, ffR_whole hb1]
    rw [t1]
    have turn := read_turn (F := faultM (sumM checkM pairM)) (G := getM (faultM (sumM checkM pairM))) (o := o) (T := .tup (dI os)) (w := ffR (os.drop (p + b.length + 8))) hA (by omega) (get_ok (A := A) ho hb1 hr) (fault_ok ho (by omega))
    rw [List.length_cons]
    conv => lhs; unfold iterW
    rw [read_tst]
    simp only [isNon, turn]
    rw [ih, List.set_set]
    simp only [tot, tups, List.map_cons, List.sum_cons, List.append_assoc, List.cons_append, List.nil_append]
    rw [show p + b.length + 8 + (bs.map fun b => b.length + 8).sum = p + (b.length + 8 + (bs.map fun b => b.length + 8).sum) by omega]
/-- what read_frames tells -/
def rdD (bs : List (List Nat)) (full : Bool) (w : D) : D := .tup [.tup (tups bs), .int ((tot bs : Nat) : Int), if full then .str "whole" else w]
theorem read_ok {os rest : List Nat} {w : D} {bs : List (List Nat)} {A : AH} (ho : ∀ x ∈ os, x < 256) (hw : ffR rest = w) (hn : isNon w = false) (hb : ∀ b ∈ bs, b.length ≤ 65535) (hr : os = (bs.map pf).flatten ++ rest) (hl : bs.length < 16777216) :
    readM (faultM (sumM checkM pairM)) (getM (faultM (sumM checkM pairM))) [.tup (dI os)] A = .ok (rdD bs (decide (tot bs = os.length)) w) (A ++ [.lst (tups bs)]) := by
  have hA : (A ++ [AO.lst []])[A.length]? = some (.lst []) := by simp
  obtain ⟨o', h⟩ := read_go (n := A.length) ho hw hn bs 0 [] (A ++ [AO.lst []]) none hb (by rw [List.drop_zero]; exact hr) (by omega) hA (by simpa using hl)
  have hset : (A ++ [AO.lst []]).set A.length (.lst (tups bs)) = A ++ [.lst (tups bs)] := by
    rw [List.set_append_right _ _ (Nat.le_refl _)]; simp
  rw [List.nil_append, hset, Nat.zero_add, List.drop_zero] at h
  have f0 := fault_ok (p := 0) (A := A ++ [AO.lst []]) ho (Nat.zero_le _)
  rw [List.drop_zero] at f0
  unfold readM
  refine fun_rt ?_
  refine (seq_nx (ρ1 := [some (.tup (dI os)), some (.ref A.length), some (.int ((0 : Nat) : Int)), some (ffR os), none]) (A1 := A ++ [AO.lst []]) ?_).trans ?_
  · simp only [ev_var, ev_K, ev_op, ev_neg, ev_tst, ev_and, ev_or, ev_not, ev_andV, ev_orV, ev_notV, ev_if, ev_chn, ev_nil, ev_cons, ev_tup, ev_lst, ev_new, ev_call, ev_callF, ev_callK, ev_met, ev_sl, ev_some, ev_none, ev_rev, ev_yes, ev_sq, ev_next, ev_drop, ev_ret, ev_ifs, ev_set, ev_par2, ev_par3, ev_asg, ev_nm, List.getElem?_cons_zero, List.getElem?_cons_succ, List.set_cons_zero, List.set_cons_succ, bind_ok, lift_ok, List.length_cons, List.length_nil, Nat.reduceAdd, Nat.reduceLeDiff, ↓reduceIte, if_true, if_false, Bool.false_eq_true, List.map_cons, List.map_nil, List.replicate, List.cons_append, List.nil_append, Nat.reduceSub]
    rw [show (D.int 0) = .int ((0 : Nat) : Int) from rfl, f0]
    simp only [bind_ok, lift_ok, List.set_cons_zero, List.set_cons_succ]
  refine (seq_nx (A1 := A ++ [.lst (tups bs)]) (mWhile_eq h (by intro z; cases z))).trans ?_
  have hx : (A ++ [AO.lst (tups bs)])[A.length]? = some (.lst (tups bs)) := by simp
  have tu : fTup [.ref A.length] (A ++ [AO.lst (tups bs)]) = .ok (.tup (tups bs)) (A ++ [AO.lst (tups bs)]) := by
    simp only [fTup, seqOf, hx]
  have ed : decide (((tot bs : Nat) : Int) = ((os.length : Nat) : Int)) = decide (tot bs = os.length) := by
    by_cases h : tot bs = os.length
    · rw [decide_eq_true h, decide_eq_true (by omega)]
    · rw [decide_eq_false h, decide_eq_false (by omega)]
  simp only [ev_ret, ev_tup, ev_cons, ev_call, ev_var, ev_if, ev_tst, ev_op, ev_nil, ev_K, List.getElem?_cons_zero, List.getElem?_cons_succ, bind_ok, tu, len_tup, eq_len, ed]
  unfold rdD
  cases decide (tot bs = os.length) <;> rfl
theorem get_exc {os : List Nat} {p : Nat} {w : Str} {A : AH} (ho : ∀ x ∈ os, x < 256) (hp : p ≤ os.length) (hr : ffR (os.drop p) = .str w) :
    getM (faultM (sumM checkM pairM)) [.tup (dI os), .int p] A = .exc "Refused" [("word", .str w)] A := by
  have hf : faultM (sumM checkM pairM) [.tup (dI os), .int p] A = .ok (.str w) A := by
    rw [fault_ok ho hp, hr]
  unfold getM
  refine fun_exc (ρ1 := [some (.tup (dI os)), some (.int p), some (.str w), none]) ?_
  refine (seq_nx (ρ1 := [some (.tup (dI os)), some (.int p), some (.str w), none]) (A1 := A) ?_).trans ?_
  · simp only [ev_var, ev_K, ev_op, ev_neg, ev_tst, ev_and, ev_or, ev_not, ev_andV, ev_orV, ev_notV, ev_if, ev_chn, ev_nil, ev_cons, ev_tup, ev_lst, ev_new, ev_call, ev_callF, ev_callK, ev_met, ev_sl, ev_some, ev_none, ev_rev, ev_yes, ev_sq, ev_next, ev_drop, ev_ret, ev_ifs, ev_set, ev_par2, ev_par3, ev_asg, ev_nm, List.getElem?_cons_zero, List.getElem?_cons_succ, List.set_cons_zero, List.set_cons_succ, bind_ok, lift_ok, List.length_cons, List.length_nil, Nat.reduceAdd, Nat.reduceLeDiff, ↓reduceIte, if_true, if_false, Bool.false_eq_true, List.map_cons, List.map_nil, List.replicate, List.cons_append, List.nil_append, Nat.reduceSub, hf]
  refine seq_exc ?_
  simp only [ev_var, ev_K, ev_op, ev_neg, ev_tst, ev_and, ev_or, ev_not, ev_andV, ev_orV, ev_notV, ev_if, ev_chn, ev_nil, ev_cons, ev_tup, ev_lst, ev_new, ev_call, ev_callF, ev_callK, ev_met, ev_sl, ev_some, ev_none, ev_rev, ev_yes, ev_sq, ev_next, ev_drop, ev_ret, ev_ifs, ev_set, ev_par2, ev_par3, ev_asg, ev_nm, List.getElem?_cons_zero, List.getElem?_cons_succ, List.set_cons_zero, List.set_cons_succ, bind_ok, lift_ok, List.length_cons, List.length_nil, Nat.reduceAdd, Nat.reduceLeDiff, ↓reduceIte, if_true, if_false, Bool.false_eq_true, ev_raise, fIsN, isNon, Bool.not_false]
end DM
end
section
set_option maxHeartbeats 1000000
namespace DM
open PySem PySem.Spec PyProof.Rows L2
/-- data of few and small parts -/
structure Few (k w : Nat) (d : PyData) : Prop where
  lay : d.canLay0 = true
  short : d.leavesShort 13 = true
  sh : d.showable = true
  dep : d.depth ≤ k
  wt : d.weight ≤ w
theorem Few.mono {k w k' w' : Nat} {d : PyData} (h : Few k w d) (hk : k ≤ k') (hw : w ≤ w') : Few k' w' d := ⟨h.lay, h.short, h.sh, Nat.le_trans h.dep hk, Nat.le_trans h.wt hw⟩
theorem few_int {i : Int} (h : i.natAbs < 10 ^ 12) : Few 0 40 (.int i) := by
  have hl : i.natAbs.log2 < 40 := by
    by_cases h0 : i.natAbs = 0
    · rw [h0]; decide
    · exact (Nat.log2_lt h0).mpr (Nat.lt_trans h (by decide))
  refine ⟨rfl, ?_, ?_, Nat.le_refl _, ?_⟩
  · simp only [PyData.leavesShort]
    exact decide_eq_true (PyData.shown_int_le h)
  · simp only [PyData.showable]
    exact decide_eq_true (by omega)
  · simp only [PyData.weight]
    split <;> omega
theorem few_all {k w : Nat} : ∀ xs : List PyData, (∀ x ∈ xs, Few k w x) → PyData.canLayAll0 xs = true ∧ PyData.leavesShortAll 13 xs = true ∧ PyData.showableAll xs = true ∧ PyData.depthAll xs ≤ k ∧ PyData.weightAll xs ≤ xs.length * (w + 1)
  | [], _ => ⟨rfl, rfl, rfl, Nat.zero_le _, by simp [PyData.weightAll]⟩
  | x :: xs, h => by
    obtain ⟨a, b, c, d, e⟩ := few_all xs fun y hy => h y (List.mem_cons_of_mem _ hy)
    have f := h x List.mem_cons_self
    refine ⟨?_, ?_, ?_, ?_, ?_⟩
    · simp only [PyData.canLayAll0, f.lay, a, Bool.and_self]
    · simp only [PyData.leavesShortAll, f.short, b, Bool.and_self]
    · simp only [PyData.showableAll, f.sh, c, Bool.and_self]
    · simp only [PyData.depthAll]
      exact Nat.max_le.mpr ⟨f.dep, d⟩
    · simp only [PyData.weightAll, List.length_cons, Nat.add_mul, Nat.one_mul]
      have := f.wt
      omega
theorem few_tuple {k w : Nat} {xs : List PyData} (h : ∀ x ∈ xs, Few k w x) : Few (k + 1) (xs.length * (w + 1)) (.tuple xs) := by
  obtain ⟨a, b, c, d, e⟩ := few_all xs h
  exact ⟨by simpa only [PyData.canLay0] using a, by simpa only [PyData.leavesShort] using b, by simpa only [PyData.showable] using c, by simp only [PyData.depth]; omega, by simpa only [PyData.weight] using e⟩
theorem few_list {k w : Nat} {xs : List PyData} (h : ∀ x ∈ xs, Few k w x) : Few (k + 1) (xs.length * (w + 1)) (.list xs) := by
  obtain ⟨a, b, c, d, e⟩ := few_all xs h
  exact ⟨by simpa only [PyData.canLay0] using a, by simpa only [PyData.leavesShort] using b, by simpa only [PyData.showable] using c, by simp only [PyData.depth]; omega, by simpa only [PyData.weight] using e⟩
mutual
theorem eqv_self : ∀ d : PyData, d.canLay0 = true → PyData.eqv d d = true
  | .none, _ => rfl
  | .bool b, _ => by cases b <;> rfl
  | .int i, _ => by simp [PyData.eqv]
  | .str x, _ => by simp [PyData.eqv]
  | .list xs, h => by
    simp only [PyData.eqv]
    exact eqvAll_self xs (by simpa only [PyData.canLay0] using h)
  | .tuple xs, h => by
    simp only [PyData.eqv]
    exact eqvAll_self xs (by simpa only [PyData.canLay0] using h)
  | .dict kvs, h => by simp [PyData.canLay0] at h
theorem eqvAll_self : ∀ xs : List PyData, PyData.canLayAll0 xs = true → PyData.eqvAll xs xs = true
  | [], _ => rfl
  | x :: xs, h => by
    simp only [PyData.canLayAll0, Bool.and_eq_true] at h
    simp only [PyData.eqvAll, eqv_self x h.1, eqvAll_self xs h.2, Bool.and_self]
end
theorem Few.shaped {k w : Nat} {d : PyData} (h : Few k w d) (hk : k ≤ 64) : SeqAt.shaped d = true := by
  unfold SeqAt.shaped
  rw [h.lay, decide_eq_true (Nat.le_trans h.dep hk)]
  rfl
theorem repr_few {xs : List D} {q : PyData} {k w : Nat} {A : AH} (h : toPy (.tup xs) = some q) (f : Few k w q) (hk : k ≤ 32) (hw : w ≤ 1048576) : fRepr [.tup xs] A = .ok (.str q.shown) A := by
  have e : toPyA A (.tup xs) = some q := by unfold toPyA; rw [h]
  have hs : q.shown.length ≤ sizeLine := PyData.shown_fits (B := 13) (by decide) (by decide) f.short (Nat.le_trans f.wt (by simpa using hw))
  rw [sizeLine_eq] at hs
  unfold fRepr
  simp only [e]
  exact if_pos ⟨f.sh, hs, Nat.le_trans f.dep hk⟩
theorem toPyA_of {d : D} {q : PyData} {A : AH} (h : toPy d = some q) : toPyA A d = some q := by unfold toPyA; rw [h]
theorem repr_fewA {d : D} {q : PyData} {k w : Nat} {A : AH} (h : toPyA A d = some q) (f : Few k w q) (hk : k ≤ 32) (hw : w ≤ 1048576) : fRepr [d] A = .ok (.str q.shown) A := by
  have hs : q.shown.length ≤ sizeLine := PyData.shown_fits (B := 13) (by decide) (by decide) f.short (Nat.le_trans f.wt (by simpa using hw))
  rw [sizeLine_eq] at hs
  unfold fRepr
  simp only [h]
  exact if_pos ⟨f.sh, hs, Nat.le_trans f.dep hk⟩
/-- == of tuples and lists -/
def notSc : D → Bool
  | .tup _ => true
  | .lst _ => true
  | .ref _ => true
  | .non => true
  | _ => false
theorem eq_py {d e : D} {p q : PyData} {k w k' w' : Nat} {A : AH} (hd : toPyA A d = some p) (he : toPyA A e = some q) (fp : Few k w p) (fq : Few k' w' q) (hk : k ≤ 64) (hk' : k' ≤ 64) (h1 : notSc d = true) {neg : Bool}
    (hs1 : SeqAt.shaped p = true) (hs2 : SeqAt.shaped q = true) : fEq neg d e A = .ok (.bl (if neg then !PyData.eqv p q else PyData.eqv p q)) A := by
  have c : cEq A d e = some (PyData.eqv p q) := by
    unfold cEq
    split
    · cases h1
    · cases h1
    · cases h1
    · simp only [hd, he, hs1, hs2, and_self, if_true]
  unfold fEq
  rw [c]
theorem eq_few {xs : List D} {q : PyData} {k w : Nat} {A : AH} (h : toPy (.tup xs) = some q) (f : Few k w q) (hk : k ≤ 64) {neg : Bool} : fEq neg (.tup xs) (.tup xs) A = .ok (.bl (!neg)) A := by
  have e : toPyA A (.tup xs) = some q := by unfold toPyA; rw [h]
  have c : cEq A (.tup xs) (.tup xs) = some true := by
    unfold cEq
    simp only [e, f.shaped hk, and_self, if_true, eqv_self q f.lay]
  unfold fEq
  rw [c]
  cases neg <;> rfl
theorem eq_strs {x : Str} {A : AH} {neg : Bool} : fEq neg (.str x) (.str x) A = .ok (.bl (!neg)) A := by
  have c : cEq A (.str x) (.str x) = some true := by
    unfold cEq
    simp only [decide_true]
  unfold fEq
  rw [c]
  cases neg <;> rfl
/-! ### octets and bodies -/
def pyT (b : List Nat) : PyData := .tuple ((b.map fun n : Nat => (n : Int)).map PyData.int)
theorem toPy_dI (b : List Nat) : toPy (.tup (dI b)) = some (pyT b) := by
  rw [dI_ints]
  simp only [toPy, toPys_ints, Option.map_some, pyT]
theorem toPys_tups : ∀ bs : List (List Nat), toPys (tups bs) = some (bs.map pyT)
  | [] => rfl
  | b :: bs => by
    have ih := toPys_tups bs
    unfold tups at ih ⊢
    rw [List.map_cons, List.map_cons, toPys, toPy_dI, ih]
theorem few_pyT {b : List Nat} (h : ∀ x ∈ b, x < 256) : Few 1 (b.length * 41) (pyT b) := by
  have := few_tuple (k := 0) (w := 40) (xs := (b.map fun n : Nat => (n : Int)).map PyData.int) (by
    intro x hx
    obtain ⟨i, hi, rfl⟩ := List.mem_map.mp hx
    obtain ⟨n, hn, rfl⟩ := List.mem_map.mp hi
    exact few_int (by have := h n hn; simp; omega))
  simp only [List.length_map] at this
  exact this
theorem few_word {x : Str} (h1 : PyData.canLay0 (.str x) = true) (h2 : PyData.leavesShort 13 (.str x) = true) (h3 : x.cps.size ≤ 40) : Few 0 40 (.str x) := ⟨h1, h2, rfl, Nat.zero_le _, h3⟩
end DM
end
section
set_option maxHeartbeats 1000000
namespace DM
open PySem PySem.Spec PyProof.Rows L2
/-- data of small parts; B: how long a leaf is shown -/
structure FewB (B k w : Nat) (d : PyData) : Prop where
  lay : d.canLay0 = true
  short : d.leavesShort B = true
  sh : d.showable = true
  dep : d.depth ≤ k
  wt : d.weight ≤ w
theorem FewB.mono {B k w k' w' : Nat} {d : PyData} (h : FewB B k w d) (hk : k ≤ k') (hw : w ≤ w') : FewB B k' w' d := ⟨h.lay, h.short, h.sh, Nat.le_trans h.dep hk, Nat.le_trans h.wt hw⟩
theorem fewB_int {B : Nat} {i : Int} (hB : 20 ≤ B) (h : i.natAbs < 10 ^ 19) : FewB B 0 64 (.int i) := by
  have hl : i.natAbs.log2 < 64 := by
    by_cases h0 : i.natAbs = 0
    · rw [h0]; decide
    · exact (Nat.log2_lt h0).mpr (Nat.lt_trans h (by decide))
  refine ⟨rfl, ?_, ?_, Nat.le_refl _, ?_⟩
  · simp only [PyData.leavesShort]
    have e := int_text_length_le10 (k := 19) (by decide) h
    refine decide_eq_true ?_
    show (Str.ofString (toString i)).length ≤ B
    rw [PySem.ofString_length]
    omega
  · simp only [PyData.showable]
    exact decide_eq_true (by omega)
  · simp only [PyData.weight]
    split <;> omega
theorem fewB_none {B : Nat} : FewB B 0 64 .none := ⟨rfl, rfl, rfl, Nat.le_refl _, by simp [PyData.weight]⟩
theorem fewB_bool {B : Nat} {b : Bool} : FewB B 0 64 (.bool b) := ⟨rfl, rfl, rfl, Nat.le_refl _, by simp [PyData.weight]⟩
theorem fewB_str {B : Nat} {x : Str} (h1 : PyData.canLay0 (.str x) = true) (h2 : (x.cps.toList.all fun c => decide (c < 16 ^ 8)) = true) (h3 : x.cps.size ≤ 64) : FewB B 0 64 (.str x) := ⟨h1, h2, rfl, Nat.zero_le _, h3⟩
theorem fewB_all {B k w : Nat} : ∀ xs : List PyData, (∀ x ∈ xs, FewB B k w x) → PyData.canLayAll0 xs = true ∧ PyData.leavesShortAll B xs = true ∧ PyData.showableAll xs = true ∧ PyData.depthAll xs ≤ k ∧ PyData.weightAll xs ≤ xs.length * (w + 1)
  | [], _ => ⟨rfl, rfl, rfl, Nat.zero_le _, by simp [PyData.weightAll]⟩
  | x :: xs, h => by
    obtain ⟨a, b, c, d, e⟩ := fewB_all xs fun y hy => h y (List.mem_cons_of_mem _ hy)
    have f := h x List.mem_cons_self
    refine ⟨?_, ?_, ?_, ?_, ?_⟩
    · simp only [PyData.canLayAll0, f.lay, a, Bool.and_self]
    · simp only [PyData.leavesShortAll, f.short, b, Bool.and_self]
    · simp only [PyData.showableAll, f.sh, c, Bool.and_self]
    · simp only [PyData.depthAll]
      exact Nat.max_le.mpr ⟨f.dep, d⟩
    · simp only [PyData.weightAll, List.length_cons, Nat.add_mul, Nat.one_mul]
      have := f.wt
      omega
theorem fewB_tuple {B k w : Nat} {xs : List PyData} (h : ∀ x ∈ xs, FewB B k w x) : FewB B (k + 1) (xs.length * (w + 1)) (.tuple xs) := by
  obtain ⟨a, b, c, d, e⟩ := fewB_all xs h
  exact ⟨by simpa only [PyData.canLay0] using a, by simpa only [PyData.leavesShort] using b, by simpa only [PyData.showable] using c, by simp only [PyData.depth]; omega, by simpa only [PyData.weight] using e⟩
theorem fewB_list {B k w : Nat} {xs : List PyData} (h : ∀ x ∈ xs, FewB B k w x) : FewB B (k + 1) (xs.length * (w + 1)) (.list xs) := by
  obtain ⟨a, b, c, d, e⟩ := fewB_all xs h
  exact ⟨by simpa only [PyData.canLay0] using a, by simpa only [PyData.leavesShort] using b, by simpa only [PyData.showable] using c, by simp only [PyData.depth]; omega, by simpa only [PyData.weight] using e⟩
theorem FewB.shaped {B k w : Nat} {d : PyData} (h : FewB B k w d) (hk : k ≤ 64) : SeqAt.shaped d = true := by
  unfold SeqAt.shaped
  rw [h.lay, decide_eq_true (Nat.le_trans h.dep hk)]
  rfl
theorem repr_fewB {B : Nat} {d : D} {q : PyData} {k w : Nat} {A : AH} (h : toPyA A d = some q) (f : FewB B k w q) (hk : k ≤ 32) (hB : 8 ≤ B) (hw : (B + 2) * w + B ≤ 16777216) : fRepr [d] A = .ok (.str q.shown) A := by
  have hs := PyData.shown_le B hB q f.short
  have h2 : (B + 2) * q.weight ≤ (B + 2) * w := Nat.mul_le_mul_left _ f.wt
  unfold fRepr
  simp only [h]
  exact if_pos ⟨f.sh, by omega, Nat.le_trans f.dep hk⟩
theorem eq_pyS {d e : D} {p q : PyData} {A : AH} (hd : toPyA A d = some p) (he : toPyA A e = some q) (h1 : notSc d = true) {neg : Bool} (hs1 : SeqAt.shaped p = true) (hs2 : SeqAt.shaped q = true) : fEq neg d e A = .ok (.bl (if neg then !PyData.eqv p q else PyData.eqv p q)) A := by
  have c : cEq A d e = some (PyData.eqv p q) := by
    unfold cEq
    split
    · cases h1
    · cases h1
    · cases h1
    · simp only [hd, he, hs1, hs2, and_self, if_true]
  unfold fEq
  rw [c]
theorem cut_from (xs : List D) (e : Nat) : DM.cutD xs (some (e : Int)) none = xs.drop e := by
  unfold DM.cutD
  rw [HT.sIx_nat, HT.sIx_none]
  rcases Nat.le_total e xs.length with h | h
  · rw [Nat.min_eq_left h, List.take_of_length_le (by rw [List.length_drop]; exact Nat.le_refl _)]
  · rw [Nat.min_eq_right h, List.drop_of_length_le (Nat.le_refl _), List.drop_of_length_le h]
    simp
theorem cut_last (xs : List D) : DM.cutD xs (some (-1)) none = xs.drop (xs.length - 1) := by
  unfold DM.cutD
  have e : HT.sIx xs.length 0 (some (-1)) = xs.length - 1 := by
    show (if (-1 : Int) < 0 then ((-1 : Int) + (xs.length : Int)).toNat else min (-1 : Int).toNat xs.length) = _
    rw [if_pos (by decide)]
    omega
  rw [e, HT.sIx_none]
  exact List.take_of_length_le (by rw [List.length_drop]; exact Nat.le_refl _)
theorem for_rt {iv : ItV} {all xs : List D} {x d : D} {t : Tg} {sb : MS} {ρ ρ1 : DM.Env} {A A2 : AH} (h : itemsOf A iv = some all) (hb : bindT t x ρ = some ρ1) (hs : sb ρ1 A = .rt d A2) : forGo iv all t sb (x :: xs) ρ A = .rt d A2 := by
  conv => lhs; unfold forGo
  rw [if_pos h, hb]
  simp only [hs]
theorem ev_zip {ms : MA} {ρ : DM.Env} {A : AH} : mZip ms ρ A = (ms ρ A).bind fun ds A1 => (match ds with
  | [d, e] => match immOf d, immOf e with
    | some xs, some ys => .ok (.sq (.tup (zipD xs ys))) A1
    | _, _ => .no
  | _ => .no) := id rfl
theorem ev_aug {i : Nat} {f : D → D → AH → Res D} {me : ME} {ρ : DM.Env} {A : AH} : mAug i f me ρ A = (match ρ[i]? with
  | some (some x) => lift ((me ρ A).bind fun y A1 => f x y A1) ρ fun z A2 => .nx (ρ.set i (some z)) A2
  | _ => .no) := id rfl
theorem ev_listR {ma : ME} {ρ : DM.Env} {A : AH} : mListR ma ρ A = (ma ρ A).bind fun d A1 => (match d with
  | .int j => if 0 ≤ j ∧ j ≤ 1000000 then .ok (.lst (((List.range j.toNat).map fun i : Nat => (i : Int)).map D.int)) A1 else .no
  | _ => .no) := id rfl
end DM
end
section
set_option maxHeartbeats 1000000
namespace DM
open PySem PySem.Spec PyProof.Rows L2
/-! ### the other way to draw -/
noncomputable def dealM : List D → AH → Res D := mFun 5 (mSeq (mSet 2 (mLc false (mSq (mSl (mVar 0) (mSome (mVar 1)) (mSome (mOp fAdd (mVar 1) (mK (.int 50)))))) (.nm 4) (mYes) (mCall fAbs (mCons
    (mVar 4) (mNil))) [4])) (mSeq (mSet 3 (mOp fAdd (mK (.int 27644437)) (mOp fMulA (mK (.int 53)) (mVar 1)))) (mSeq (mFor (mSq (mVar 2)) (.nm 4) (mSet 3 (mOp fMod (mCall fInt (mCons (mOp fAdd (mOp
    fAdd (mOp fMulA (mVar 3) (mK (.int 48271))) (mOp fMod (mCall fInt (mCons (mVar 4) (mNil))) (mK (.int 2147483549)))) (mK (.int 41))) (mNil))) (mK (.int 2147483647))))) (mRet (mNew (mCons (mRev true
    (mLc false (mSq (mVar 2)) (.nm 4) (mTst (mOp fGe (mVar 4) (mOp fPow (mK (.int 10)) (mK (.int 18))))) (mVar 4) [4])) (mCons (mVar 3) (mNil))))))))
noncomputable def dcardM : List D → AH → Res D := mFun 3 (mSeq (mWhile (mAnd (mTst (mOp (fEq true) (mOp fIx (mVar 0) (mK (.int 0))) (mLst (mNil)))) (mTst (mOp (fEq false) (mOp fIx (mOp fIx (mVar
    0) (mK (.int 0))) (mNeg (mK (.int 1)))) (mK (.int 0))))) (mDrop (mPop (mOp fIx (mVar 0) (mK (.int 0)))))) (mSeq (mIfS (mTst (mOp (fEq true) (mOp fIx (mVar 0) (mK (.int 0))) (mLst (mNil)))) (mSeq
    (mSet 2 (mPop (mOp fIx (mVar 0) (mK (.int 0))))) (mSeq (mDrop (mMet fApp (mOp fIx (mVar 0) (mK (.int 0))) (mCons (mOp fDiv (mVar 2) (mVar 1)) (mNil)))) (mRet (mOp fMod (mCall fInt (mCons (mVar 2)
    (mNil))) (mVar 1))))) (mNext)) (mSeq (mSto (mOp fMod (mCall fInt (mCons (mOp fAdd (mOp fMulA (mOp fIx (mVar 0) (mK (.int 1))) (mK (.int 48271))) (mK (.int 59))) (mNil))) (mK (.int 2147483647)))
    (mVar 0) (mK (.int 1))) (mRet (mOp fMod (mCall fInt (mCons (mOp fDiv (mOp fIx (mVar 0) (mK (.int 1))) (mK (.int 64))) (mNil))) (mVar 1))))))
theorem dcard_ok {h q : Nat} {A : AH} {k : Int} (hs : HS h q A) (h0 : 0 < k) (h1 : k < 1073741824) : ∃ v A', dcardM [.ref h, .int k] A = .ok (.int v) A' ∧ 0 ≤ v ∧ v < k ∧ Drawn h q A A' := by
  obtain ⟨hq, L, s, e1, e2, hl, s0, s1⟩ := hs
  obtain ⟨L', A1, l1, P, w⟩ := zeros_go (k := k) hq L.length L A rfl e1 e2
  have w' : mWhile tstM popM [some (.ref h), some (.int k), none] A = .nx [some (.ref h), some (.int k), none] A1 := mWhile_eq w (by intro z; cases z)
  have f1 : A1[h]? = some (.lst [.ref q, .int s]) := (P.2.2 h hq).trans e1
  have f2 := P.2.1
  have hm : dcardM [.ref h, .int k] A = mFun 3 (mSeq (mWhile tstM popM) (mSeq (mIfS (mTst (mOp (fEq true) (mOp fIx (mVar 0) (mK (.int 0))) (mLst (mNil)))) (mSeq (mSet 2 (mPop (mOp fIx (mVar 0) (mK (.int 0))))) (mSeq (mDrop (mMet fApp (mOp fIx (mVar 0) (mK (.int 0))) (mCons (mOp fDiv (mVar 2) (mVar 1)) (mNil)))) (mRet (mOp fMod (mCall fInt (mCons (mVar 2) (mNil))) (mVar 1))))) (mNext)) (mSeq (mSto (mOp fMod (mCall fInt (mCons (mOp fAdd (mOp fMulA (mOp fIx (mVar 0) (mK (.int 1))) (mK (.int 48271))) (mK (.int 59))) (mNil))) (mK (.int 2147483647))) (mVar 0) (mK (.int 1))) (mRet (mOp fMod (mCall fInt (mCons (mOp fDiv (mOp fIx (mVar 0) (mK (.int 1))) (mK (.int 64))) (mNil))) (mVar 1)))))) [.ref h, .int k] A := rfl
  rw [hm]
  cases hL : L' with
  | nil =>
    subst hL
    have cm : CMul s 48271 := .inl ⟨by omega, by omega⟩
    have A2 := Put.set (o := .lst [.ref q, .int ((s * 48271 + 59) % 2147483647)]) f1
    refine ⟨((s * 48271 + 59) % 2147483647) / 64 % k, A1.set h (.lst [.ref q, .int ((s * 48271 + 59) % 2147483647)]), ?_, Int.emod_nonneg _ (by omega), Int.emod_lt_of_pos _ h0, ?_, ⟨hq, [], (s * 48271 + 59) % 2147483647, A2.2.1, (A2.2.2 q (Ne.symm hq)).trans f2, by simp, Int.emod_nonneg _ (by omega), Int.emod_lt_of_pos _ (by omega)⟩, fun n a b => (A2.2.2 n a).trans (P.2.2 n b)⟩
    · have g1 := A2.2.1
      have ixn : ixN 2 1 = some 1 := rfl
      simp [mFun, mSeq, w', mIfS, mTst, mOp, mVar, mK, mLst, mNil, mCons, mCall, mRet, mSto, mNext, ix_ref f1 at_ref0, ix_ref f1 at_ref1, eq_refnil f2, fAdd, fMulA, fMod, fDiv, fI, fInt, cm, f1, ixn, ix_ref g1 at_ref1, CDiv, h0, h1]
    · exact A2.1.trans P.1
  | cons x0 R =>
    obtain ⟨M, x, e⟩ : ∃ M x, L' = M ++ [x] := ⟨L'.dropLast, L'.getLast (by rw [hL]; simp), (List.dropLast_concat_getLast (by rw [hL]; simp)).symm⟩
    have hne : L'.isEmpty = false := by rw [hL]; rfl
    have hg : (L'.map D.int)[L'.length - 1]? = some (D.int x) := by
      rw [e]; simp
    have hd : (L'.map D.int).dropLast = M.map D.int := by
      rw [e]; simp
    have B := Put.set (o := .lst (M.map D.int)) f2
    have b1 : (A1.set q (.lst (M.map D.int)))[h]? = some (.lst [.ref q, .int s]) := (B.2.2 h hq).trans f1
    have b2 := B.2.1
    have C := Put.set (o := .lst (M.map D.int ++ [D.int (x / k)])) b2
    have ml : M.length ≤ 62 := by
      have : L'.length = M.length + 1 := by rw [e]; simp
      omega
    refine ⟨x % k, _, ?_, Int.emod_nonneg _ (by omega), Int.emod_lt_of_pos _ h0, ?_, ⟨hq, M ++ [x / k], s, (C.2.2 h hq).trans b1, ?_, by simp; omega, s0, s1⟩, fun n a b => (C.2.2 n b).trans ((B.2.2 n b).trans (P.2.2 n b))⟩
    · have hlen : (M.map D.int).length < 16777216 := by rw [List.length_map]; omega
      rw [List.length_map] at hlen
      simp only [hg, hd, mFun, mSeq, w', mIfS, mTst, mOp, mVar, mK, mLst, mNil, mCons, mCall, mRet, mSet, mDrop, mPop, mMet, ix_ref f1 at_ref0, eq_refnil f2, hne, f2, b2, ix_ref b1 at_ref0, fApp, fMod, fDiv, fI, fInt, CDiv, h0, h1, hlen,
        List.map_cons, List.map_nil, List.cons_append, List.nil_append, List.length_cons, List.length_nil, List.getElem?_cons_zero, List.getElem?_cons_succ, List.set_cons_succ, List.set_cons_zero, bind_ok, lift_ok, List.replicate, Nat.reduceAdd, Nat.reduceSub, Nat.reduceLeDiff, if_true, and_self, Bool.not_false, List.length_map]
    · exact C.1.trans (B.1.trans P.1)
    · rw [C.2.1]; simp
theorem dpick_ok {h q : Nat} {A : AH} {xs : List D} (hs : HS h q A) (h0 : 0 < xs.length) (h1 : xs.length < 1073741824) : ∃ (i : Nat) (hi : i < xs.length) (A' : AH), pickM dcardM [.ref h, .lst xs] A = .ok xs[i] A' ∧ Drawn h q A A' := by
  obtain ⟨v, A', e, v0, v1, dr⟩ := dcard_ok (k := (xs.length : Int)) hs (by omega) (by omega)
  obtain ⟨i, rfl⟩ : ∃ i : Nat, v = i := ⟨v.toNat, by omega⟩
  have hi : i < xs.length := by omega
  refine ⟨i, hi, A', ?_, dr⟩
  have ha : atI xs (i : Int) = some xs[i] := atI_nat (List.getElem?_eq_getElem hi)
  simp [pickM, mFun, mRet, mOp, mVar, mCallF, mCons, mNil, mCall, fLen, seqOf, e, ix_lst ha]
/-- a comprehension whose parts change nothing -/
theorem dstir_go {d0 d1 d2 d4 : Option D} {all : List D} {A : AH} : ∀ (L : List Int) (s : Int), 0 ≤ s → s < 2147483647 → ∃ s' d, 0 ≤ s' ∧ s' < 2147483647 ∧
    forGo (.sq (.lst all)) all (.nm 4) (mSet 3 (mOp fMod (mCall fInt (mCons (mOp fAdd (mOp fAdd (mOp fMulA (mVar 3) (mK (.int 48271))) (mOp fMod (mCall fInt (mCons (mVar 4) (mNil))) (mK (.int 2147483549)))) (mK (.int 41))) (mNil))) (mK (.int 2147483647)))) (L.map D.int) [d0, d1, d2, some (.int s), d4] A
      = .nx [d0, d1, d2, some (.int s'), d] A
  | [], s, h0, h1 => ⟨s, d4, h0, h1, by simp [forGo, itemsOf, seqOf]⟩
  | x :: L, s, h0, h1 => by
    obtain ⟨s', d, a, b, e⟩ := dstir_go (d0 := d0) (d1 := d1) (d2 := d2) (d4 := some (.int x)) (all := all) (A := A) L ((s * 48271 + x % 2147483549 + 41) % 2147483647) (Int.emod_nonneg _ (by omega)) (Int.emod_lt_of_pos _ (by omega))
    refine ⟨s', d, a, b, ?_⟩
    have cm : CMul s 48271 := .inl ⟨by omega, by omega⟩
    rw [List.map_cons]
    unfold forGo
    simp only [itemsOf, seqOf, if_true, bindT, List.set_cons_succ, List.set_cons_zero, mSet, mOp, mCall, mCons, mNil, mVar, mK, List.getElem?_cons_zero, List.getElem?_cons_succ, bind_ok, fMulA, fI, cm, fMod, fAdd, fInt, lift_ok, show (0 : Int) < 2147483549 by decide, show (0 : Int) < 2147483647 by decide]
    exact e
theorem deal_ok {A : AH} {ns : List Int} {b : Int} (b0 : 0 ≤ b) (b1 : b < 1000) (nl : ns.length ≤ 63) : ∃ h q A', dealM [.lst (ns.map D.int), .int b] A = .ok (.ref h) A' ∧ HS h q A' ∧ A'.length = A.length + 2 ∧ h = A.length + 1 ∧ q = A.length ∧ ∀ n, n < A.length → A'[n]? = A[n]? := by
  have cz : ∀ L : List Int, (L.map D.int).map (fun d => match d with | .int i => D.int (if i < 0 then -i else i) | d => d) = (L.map fun i => if i < 0 then -i else i).map D.int := fun L => by
    rw [List.map_map, List.map_map]; rfl
  obtain ⟨M, hMl, e63⟩ : ∃ M : List Int, M.length ≤ 63 ∧ DM.cutD (ns.map D.int) (some b) (some (b + 50)) = M.map D.int := by
    unfold DM.cutD
    generalize HT.sIx (ns.map D.int).length (ns.map D.int).length (some (b + 50)) - HT.sIx (ns.map D.int).length 0 (some b) = z
    generalize HT.sIx (ns.map D.int).length 0 (some b) = y
    refine ⟨(ns.drop y).take z, by rw [List.length_take, List.length_drop]; omega, by rw [List.map_take, List.map_drop]⟩
  have cm : CMul 53 b := .inl ⟨by decide, by decide⟩
  generalize hC : (M.map fun i => if i < 0 then -i else i) = C at *
  have hCl : C.length ≤ 63 := by rw [← hC, List.length_map]; exact hMl
  have c1 : ∀ d1 d3, compGo (.sq (.lst (M.map D.int))) (M.map D.int) (.nm 4) mYes (mCall fAbs (mCons (mVar 4) mNil)) [some (.lst (ns.map D.int)), d1, none, d3, none] (M.map D.int) [] A = .ok (C.map D.int) A := fun d1 d3 => by
    rw [comp_pure (p := fun _ => true) (f := fun d => match d with | .int i => D.int (if i < 0 then -i else i) | d => d) rfl _ _ fun x hx => ?_]
    · rw [filter_true, cz, hC]; rfl
    · obtain ⟨i, _, rfl⟩ := List.mem_map.mp hx
      exact ⟨_, rfl, rfl, fun _ => rfl⟩
  obtain ⟨s', d, s0, s1, st⟩ := dstir_go (d0 := some (.lst (ns.map D.int))) (d1 := some (.int b)) (d2 := some (.lst (C.map D.int))) (d4 := none) (all := C.map D.int) (A := A) C (27644437 + 53 * b) (by omega) (by omega)
  have pw : CPow 10 18 := ⟨by decide, by decide, by decide⟩
  have c2 : ∀ d3, compGo (.sq (.lst (C.map D.int))) (C.map D.int) (.nm 4) (mTst (mOp fGe (mVar 4) (mOp fPow (mK (.int 10)) (mK (.int 18))))) (mVar 4) [some (.lst (ns.map D.int)), some (.int b), some (.lst (C.map D.int)), d3, none] (C.map D.int) [] A = .ok ((C.filter fun i => decide ((10 : Int) ^ 18 ≤ i)).map D.int) A := fun d3 => by
    rw [comp_pure (p := fun d => match d with | .int i => decide ((10 : Int) ^ 18 ≤ i) | _ => true) (f := fun d => d) rfl _ _ fun x hx => ?_]
    · rw [List.map_id', List.filter_map]; rfl
    · obtain ⟨i, _, rfl⟩ := List.mem_map.mp hx
      refine ⟨_, rfl, ?_, fun _ => rfl⟩
      simp only [mTst, mOp, mVar, mK, bindT, List.set_cons_succ, List.set_cons_zero, List.getElem?_cons_zero, List.getElem?_cons_succ, bind_ok, fPow, fI, pw, if_true, fGe, fI0]
      rfl
  generalize hF : (C.filter fun i => decide ((10 : Int) ^ 18 ≤ i)) = F at *
  have hFl : F.length ≤ 63 := by rw [← hF]; exact Nat.le_trans (List.length_filter_le _ _) hCl
  have z1 : (M.map D.int).length ≤ 16777216 := by rw [List.length_map]; omega
  have z2 : (C.map D.int).length ≤ 16777216 := by rw [List.length_map]; omega
  refine ⟨A.length + 1, A.length, A ++ [.lst (F.map D.int).reverse] ++ [.lst [.ref A.length, .int s']], ?_, ⟨by omega, F.reverse, s', ?_, ?_, by rw [List.length_reverse]; exact hFl, s0, s1⟩, by simp, rfl, rfl, fun n hn => ?_⟩
  · unfold dealM
    refine fun_rt ?_
    refine (seq_nx (ρ1 := [some (.lst (ns.map D.int)), some (.int b), some (.lst (C.map D.int)), none, none]) (A1 := A) ?_).trans ?_
    · simp only [ev_var, ev_K, ev_op, ev_neg, ev_tst, ev_and, ev_or, ev_not, ev_andV, ev_orV, ev_notV, ev_if, ev_chn, ev_nil, ev_cons, ev_tup, ev_lst, ev_new, ev_call, ev_callF, ev_callK, ev_met, ev_sl, ev_some, ev_none, ev_rev, ev_yes, ev_sq, ev_r1, ev_next, ev_drop, ev_ret, ev_ifs, ev_set, ev_par2, ev_par3, ev_asg, ev_nm, List.getElem?_cons_zero, List.getElem?_cons_succ, List.set_cons_zero, List.set_cons_succ, bind_ok, lift_ok, List.length_cons, List.length_nil, Nat.reduceAdd, Nat.reduceLeDiff, ↓reduceIte, if_true, if_false, Bool.false_eq_true, ev_lc, fSl, fAdd, seqOf, e63, itemsOf, z1, wipeD, List.map_cons, List.map_nil, List.replicate, List.cons_append, List.nil_append, List.foldl_cons, List.foldl_nil, Nat.reduceSub, c1]
    refine (seq_nx (ρ1 := [some (.lst (ns.map D.int)), some (.int b), some (.lst (C.map D.int)), some (.int (27644437 + 53 * b)), none]) (A1 := A) ?_).trans ?_
    · simp only [ev_var, ev_K, ev_op, ev_neg, ev_tst, ev_and, ev_or, ev_not, ev_andV, ev_orV, ev_notV, ev_if, ev_chn, ev_nil, ev_cons, ev_tup, ev_lst, ev_new, ev_call, ev_callF, ev_callK, ev_met, ev_sl, ev_some, ev_none, ev_rev, ev_yes, ev_sq, ev_r1, ev_next, ev_drop, ev_ret, ev_ifs, ev_set, ev_par2, ev_par3, ev_asg, ev_nm, List.getElem?_cons_zero, List.getElem?_cons_succ, List.set_cons_zero, List.set_cons_succ, bind_ok, lift_ok, List.length_cons, List.length_nil, Nat.reduceAdd, Nat.reduceLeDiff, ↓reduceIte, if_true, if_false, Bool.false_eq_true, fMulA, fI, cm, fAdd]
    refine (seq_nx (ρ1 := [some (.lst (ns.map D.int)), some (.int b), some (.lst (C.map D.int)), some (.int s'), d]) (A1 := A) ?_).trans ?_
    · simp only [ev_var, ev_K, ev_op, ev_neg, ev_tst, ev_and, ev_or, ev_not, ev_andV, ev_orV, ev_notV, ev_if, ev_chn, ev_nil, ev_cons, ev_tup, ev_lst, ev_new, ev_call, ev_callF, ev_callK, ev_met, ev_sl, ev_some, ev_none, ev_rev, ev_yes, ev_sq, ev_r1, ev_next, ev_drop, ev_ret, ev_ifs, ev_set, ev_par2, ev_par3, ev_asg, ev_nm, List.getElem?_cons_zero, List.getElem?_cons_succ, List.set_cons_zero, List.set_cons_succ, bind_ok, lift_ok, List.length_cons, List.length_nil, Nat.reduceAdd, Nat.reduceLeDiff, ↓reduceIte, if_true, if_false, Bool.false_eq_true, ev_for, itemsOf, seqOf]
      exact st
    simp only [ev_var, ev_K, ev_op, ev_neg, ev_tst, ev_and, ev_or, ev_not, ev_andV, ev_orV, ev_notV, ev_if, ev_chn, ev_nil, ev_cons, ev_tup, ev_lst, ev_new, ev_call, ev_callF, ev_callK, ev_met, ev_sl, ev_some, ev_none, ev_rev, ev_yes, ev_sq, ev_r1, ev_next, ev_drop, ev_ret, ev_ifs, ev_set, ev_par2, ev_par3, ev_asg, ev_nm, List.getElem?_cons_zero, List.getElem?_cons_succ, List.set_cons_zero, List.set_cons_succ, bind_ok, lift_ok, List.length_cons, List.length_nil, Nat.reduceAdd, Nat.reduceLeDiff, ↓reduceIte, if_true, if_false, Bool.false_eq_true, ev_lc, seqOf, itemsOf, z2, wipeD, List.foldl_cons, List.foldl_nil, c2, isTup]
    simp
  · rw [List.getElem?_append_right (by simp)]; simp
  · rw [List.getElem?_append_left (by simp), List.getElem?_append_right (by simp)]; simp
  · rw [List.getElem?_append_left (by simp; omega), List.getElem?_append_left hn]
end DM
end
section
set_option maxHeartbeats 1000000
namespace DM
open PySem PySem.Spec PyProof.Rows L2
/-! ### running rules: fields, methods, instances, dicts, lists that change, try -/
section
variable {ρ ρ1 : DM.Env} {A A1 A2 A3 : AH} {i j l n m k : Nat} {C f mname : Str} {d e x y : D} {xs ds es : List D} {fs : List (Str × D)} {kvs : List (Key × D)} {mf : List D → AH → Res D} {ma mb mc me mo mi mv : ME} {ms mk : MA} {sa sb : MS} {pm : List Nat} {key : Key}
theorem fld_run (ho : me ρ A = .ok (.ref k) A1) (hk : A1[k]? = some (.ins C fs)) (hf : fs.lookup f = some x) : mFld C f me ρ A = .ok x A1 := by
  unfold mFld
  rw [ho, bind_ok]
  simp only [hk, if_true, hf]
theorem setF_run (hv : mv ρ A = .ok y A1) (ho : mo ρ A1 = .ok (.ref k) A2) (hk : A2[k]? = some (.ins C fs)) (hl : fs.length < 1000) : mSetF C f mv mo ρ A = .nx ρ (A2.set k (.ins C (putFD f y fs))) := by
  unfold mSetF
  rw [hv]
  simp only [lift_ok, ho, hk, hl, and_self, if_true]
theorem addF_run {u v : Int} (ho : mo ρ A = .ok (.ref k) A1) (hk : A1[k]? = some (.ins C fs)) (hf : fs.lookup f = some (.int u)) (hv : mv ρ A1 = .ok (.int v) A2) (hk2 : A2[k]? = some (.ins C fs)) (hl : fs.length < 1000) :
    mAddF C f mo mv ρ A = .nx ρ (A2.set k (.ins C (putFD f (.int (u + v)) fs))) := by
  unfold mAddF
  rw [ho]
  simp only [lift_ok, hk, if_true, hf, hv, hk2, hl, and_self]
theorem meth_run (ho : mo ρ A = .ok (.ref k) A1) (hk : A1[k]? = some (.ins C fs)) (hf : fs.lookup mname = none) (ha : ms ρ A1 = .ok ds A2) (hn : ds.length + 1 = n) : mMeth C mname n mf mo ms ρ A = mf (.ref k :: ds) A2 := by
  unfold mMeth
  rw [ho, bind_ok]
  simp only [hk, hf, and_self, if_true, ha, bind_ok, List.length_cons, hn]
theorem methK_run (ho : mo ρ A = .ok (.ref k) A1) (hk : A1[k]? = some (.ins C fs)) (hf : fs.lookup mname = none) (ha : mk ρ A1 = .ok ds A2) (hl : ds.length = l) (hn : (DM.pick pm (D.ref k :: ds)).length = n) : mMethK C mname l n pm mf mo mk ρ A = mf (DM.pick pm (.ref k :: ds)) A2 := by
  unfold mMethK
  rw [ho, bind_ok]
  simp only [hk, hf, and_self, if_true, ha, bind_ok, hl, hn]
theorem make_run (ha : ms ρ A = .ok ds A1) (hn : ds.length + 1 = n) (hf : mf (.ref A1.length :: ds) (A1 ++ [.ins C []]) = .ok .non A2) : mMake C n mf ms ρ A = .ok (.ref A1.length) A2 := by
  unfold mMake
  rw [ha, bind_ok]
  simp only [List.length_cons, hn, if_true, hf]
theorem ev_dict0 : mDict0 ρ A = .ok (.ref A.length) (A ++ [.dk []]) := id rfl
theorem dput_run (hv : mv ρ A = .ok y A1) (ho : mo ρ A1 = .ok (.ref k) A2) (hi : mi ρ A2 = .ok e A3) (hk : A3[k]? = some (.dk kvs)) (he : keyOf e = some key) (hl : kvs.length < 16777216) : mDPut mv mo mi ρ A = .nx ρ (A3.set k (.dk (putKD kvs key y))) := by
  unfold mDPut
  rw [hv]
  simp only [lift_ok, ho, hi, hk, he, hl, if_true]
theorem dpop_run (ho : mo ρ A = .ok (.ref k) A1) (h0 : A1[k]? = some (.dk kvs)) (he : me ρ A1 = .ok e A1) (hk : keyOf e = some key) (hv : valD kvs key = some x) : mDPop mo me ρ A = .ok x (A1.set k (.dk (dropKD kvs key))) := by
  unfold mDPop
  rw [ho, bind_ok]
  simp only [h0, he, bind_ok, hk, hv]
theorem dget_run (h0 : A[k]? = some (.dk kvs)) (hk : keyOf e = some key) (hv : valD kvs key = some x) : fDGet (.ref k) e A = .ok x A := by
  simp only [fDGet, h0, hk, hv]
theorem din_is (h0 : A[k]? = some (.dk kvs)) (hk : keyOf e = some key) {neg : Bool} : fDIn neg e (.ref k) A = .ok (.bl ((valD kvs key).isSome != neg)) A := by
  simp only [fDIn, h0, hk]
theorem insL_run (h0 : A[k]? = some (.lst xs)) {z : Int} (h : xs.length < 16777216 ∧ 0 ≤ z ∧ z < 9223372036854775808) : fInsL k [.int z, x] A = .ok .non (A.set k (.lst (xs.take z.toNat ++ [x] ++ xs.drop z.toNat))) := by
  simp only [fInsL, h0, h, and_self, if_true]
theorem intsOf_map : ∀ ns : List Int, intsOf (ns.map D.int) = some ns
  | [] => rfl
  | k :: r => by
    rw [List.map_cons]
    unfold intsOf
    rw [intsOf_map r]
    rfl
theorem remL_run {ns : List Int} {z : Int} (ho : mo ρ A = .ok (.ref k) A1) (h0 : A1[k]? = some (.lst (ns.map D.int))) (he : me ρ A1 = .ok (.int z) A1) (hz : z ∈ ns) : mRemL mo me ρ A = .ok .non (A1.set k (.lst ((ns.erase z).map D.int))) := by
  unfold mRemL
  rw [ho, bind_ok]
  simp only [h0, he, bind_ok, fRemL, intsOf_map, hz, if_true]
theorem sortSet_lst {ns : List Int} (h : ns.length < 64) : fSortSet [.lst (ns.map D.int)] A = .ok (.lst ((sset ns).map D.int)) A := by
  simp only [fSortSet, isTup, seqOf, intsOf_map, h, if_true, Bool.false_eq_true, if_false]
/-- the first clause takes it, nothing hangs on where it lies -/
theorem try_exc1 {hs : List HdM} {hd : HdM} {C : Str} {r : SRes} (h : sa ρ A = .exc C fs ρ1 A1) (hy : C ∈ hd.yes) (hr : ∀ a d, goneM hd.slot (hd.suite C a (if fs = [] then none else some d) (enterM hd.slot a (if fs = [] then none else some d) fs ρ1) A1) = r) : mTry sa (hd :: hs) ρ A = r := by
  unfold mTry
  rw [h]
  simp only [excGo, hy, if_true]
  exact indep_eq hr
theorem comp_nil {iv : ItV} {all acc : List D} {t : Tg} {tt : MT} (hit : itemsOf A iv = some all) : compGo iv all t tt me ρ [] acc A = .ok acc A := by
  unfold compGo; rw [if_pos hit]
theorem comp_step {iv : ItV} {all acc xs : List D} {t : Tg} {tt : MT} (hit : itemsOf A iv = some all) (hb : bindT t x ρ = some ρ1) (ht : tt ρ1 A = .ok true A1) (hm : me ρ1 A1 = .ok y A2) :
    compGo iv all t tt me ρ (x :: xs) acc A = compGo iv all t tt me ρ xs (acc ++ [y]) A2 := by
  conv => lhs; unfold compGo
  rw [if_pos hit, hb]
  simp only [ht, hm]
end
theorem isi_ty {x : D} {A : AH} {n t : String} (ht : tyName A x = some t) (hn : n ∈ tyNames) : fIsi [x, .ty n] A = .ok (.bl (isB t n)) A := by
  simp only [fIsi, ht, hn, if_true]
theorem add_ii {a b : Int} {A : AH} : fAdd (.int a) (.int b) A = .ok (.int (a + b)) A := rfl
theorem sub_ii {a b : Int} {A : AH} : fSub (.int a) (.int b) A = .ok (.int (a - b)) A := rfl
theorem lt_ii {a b : Int} {A : AH} : fLt (.int a) (.int b) A = .ok (.bl (decide (a < b))) A := rfl
theorem le_ii {a b : Int} {A : AH} : fLe (.int a) (.int b) A = .ok (.bl (decide (a ≤ b))) A := rfl
theorem gt_ii {a b : Int} {A : AH} : fGt (.int a) (.int b) A = .ok (.bl (decide (b < a))) A := rfl
theorem ge_ii {a b : Int} {A : AH} : fGe (.int a) (.int b) A = .ok (.bl (decide (b ≤ a))) A := rfl
theorem div_ii {a b : Int} {A : AH} (h : CDiv a b) : fDiv (.int a) (.int b) A = .ok (.int (a / b)) A := by simp only [fDiv, fI, h, if_true]
theorem mod_ii {a b : Int} {A : AH} (h : 0 < b) : fMod (.int a) (.int b) A = .ok (.int (a % b)) A := by simp only [fMod, fI, h, if_true]
theorem eq_ii {a b : Int} {A : AH} : fEq false (.int a) (.int b) A = .ok (.bl (decide (a = b))) A := rfl
theorem ne_ii {a b : Int} {A : AH} : fEq true (.int a) (.int b) A = .ok (.bl (!decide (a = b))) A := rfl
/-! ### a dict by its keys -/
theorem valD_nil (k : Key) : valD [] k = none := rfl
theorem valD_cons {a : Key} {x : D} {kvs : List (Key × D)} {k : Key} : valD ((a, x) :: kvs) k = if a = k then some x else valD kvs k := by
  unfold valD
  rw [List.find?_cons]
  by_cases h : a = k
  · simp [h]
  · simp [h]
theorem valD_append {xs ys : List (Key × D)} {k : Key} : valD (xs ++ ys) k = (valD xs k).or (valD ys k) := by
  induction xs with
  | nil => simp [valD_nil]
  | cons p xs ih =>
    obtain ⟨a, x⟩ := p
    rw [List.cons_append, valD_cons, valD_cons, ih]
    split <;> simp
theorem any_valD {kvs : List (Key × D)} {k : Key} : (kvs.any fun kv => decide (kv.1 = k)) = (valD kvs k).isSome := (valD_any k kvs).symm
theorem valD_put {kvs : List (Key × D)} {a k : Key} {x : D} : valD (putKD kvs a x) k = if a = k then some x else valD kvs k := by
  unfold putKD
  split
  · rename_i h
    rw [any_valD] at h
    induction kvs with
    | nil => simp [valD_nil] at h
    | cons p kvs ih =>
      obtain ⟨b, y⟩ := p
      rw [valD_cons] at h
      rw [List.map_cons]
      by_cases e : b = a
      · rw [if_pos e, valD_cons, valD_cons]
        subst e
        split
        · rfl
        · rename_i n
          by_cases hz : (valD kvs b).isSome = true
          · rw [ih hz, if_neg n]
          · have : ∀ kv ∈ kvs, kv.1 ≠ b := fun kv hkv z => hz (by
              rw [← any_valD]
              exact List.any_eq_true.mpr ⟨kv, hkv, by simp [z]⟩)
            rw [show (kvs.map fun kv => if kv.1 = b then (kv.1, x) else kv) = kvs from (List.map_congr_left (g := fun kv => kv) fun kv hkv => if_neg (this kv hkv)).trans (List.map_id' kvs)]
      · rw [if_neg e] at h ⊢
        rw [valD_cons, valD_cons, ih h]
        by_cases hbk : b = k
        · have : ¬ a = k := fun z => e (hbk.trans z.symm)
          simp [hbk, this]
        · simp [hbk]
  · rename_i h
    rw [any_valD] at h
    have hn : valD kvs a = none := by simpa using h
    rw [valD_append, valD_cons, valD_nil]
    by_cases e : a = k
    · subst e
      simp [hn]
    · simp [e]
theorem valD_drop {kvs : List (Key × D)} {a k : Key} : valD (dropKD kvs a) k = if a = k then none else valD kvs k := by
  unfold dropKD
  induction kvs with
  | nil => simp [valD_nil]
  | cons p kvs ih =>
    obtain ⟨b, y⟩ := p
    by_cases e : b = a
    · rw [List.filter_cons_of_neg (by simp [e]), ih, valD_cons]
      subst e
      split <;> simp_all
    · rw [List.filter_cons_of_pos (by simp [e]), valD_cons, valD_cons, ih]
      by_cases hbk : b = k
      · have : ¬ a = k := fun z => e (hbk.trans z.symm)
        simp [hbk, this]
      · simp [hbk]
theorem putKD_len {kvs : List (Key × D)} {a : Key} {x : D} : (putKD kvs a x).length ≤ kvs.length + 1 := by
  unfold putKD
  split <;> simp
theorem putKD_same {kvs : List (Key × D)} {a : Key} {x : D} (h : (valD kvs a).isSome = true) : (putKD kvs a x).length = kvs.length := by
  unfold putKD
  rw [any_valD, h, if_pos rfl, List.length_map]
theorem dropKD_len {kvs : List (Key × D)} {a : Key} : (dropKD kvs a).length ≤ kvs.length := List.length_filter_le _ _
end DM
end
section
set_option maxHeartbeats 4000000
namespace K18
open PySem PySem.Spec PyProof.Rows L2 DM
/-! ### the text -/
def stAt (i : Nat) : Stmt := PySem.Challenge.pw_spelledways_k18_who_looks_at_which_stamp.main.body.getD i (.Pass ⟨0, 0, 0, 0⟩)
abbrev x_Snapshots : Stmt := stAt 8
abbrev x_is_integer : Stmt := stAt 5
abbrev nm_is_integer : List Str := ["value"]
theorem sc_is_integer : FnScope nm_is_integer ["value"] (defScope x_is_integer) := ⟨rfl, rfl, rfl, by decide +kernel, rfl, by decide +kernel, by decide +kernel⟩
abbrev x_is_number : Stmt := stAt 6
abbrev nm_is_number : List Str := ["value"]
theorem sc_is_number : FnScope nm_is_number ["value"] (defScope x_is_number) := ⟨rfl, rfl, rfl, by decide +kernel, rfl, by decide +kernel, by decide +kernel⟩
abbrev x_Snapshots__init : Stmt := methAt x_Snapshots 0
abbrev nm_Snapshots__init : List Str := ["self"]
theorem sc_Snapshots__init : FnScope nm_Snapshots__init ["self"] (defScope x_Snapshots__init) := ⟨rfl, rfl, rfl, by decide +kernel, rfl, by decide +kernel, by decide +kernel⟩
abbrev x_Snapshots__begin : Stmt := methAt x_Snapshots 1
abbrev nm_Snapshots__begin : List Str := ["self", "stamp"]
theorem sc_Snapshots__begin : FnScope nm_Snapshots__begin ["self", "stamp"] (defScope x_Snapshots__begin) := ⟨rfl, rfl, rfl, by decide +kernel, rfl, by decide +kernel, by decide +kernel⟩
abbrev x_Snapshots__lives_below : Stmt := methAt x_Snapshots 2
abbrev nm_Snapshots__lives_below : List Str := ["self", "stamp", "low", "high", "middle"]
theorem sc_Snapshots__lives_below : FnScope nm_Snapshots__lives_below ["self", "stamp"] (defScope x_Snapshots__lives_below) := ⟨rfl, rfl, rfl, by decide +kernel, rfl, by decide +kernel, by decide +kernel⟩
abbrev x_Snapshots__stamp_of : Stmt := methAt x_Snapshots 3
abbrev nm_Snapshots__stamp_of : List Str := ["self", "number"]
theorem sc_Snapshots__stamp_of : FnScope nm_Snapshots__stamp_of ["self", "number"] (defScope x_Snapshots__stamp_of) := ⟨rfl, rfl, rfl, by decide +kernel, rfl, by decide +kernel, by decide +kernel⟩
abbrev x_Snapshots__close : Stmt := methAt x_Snapshots 4
abbrev nm_Snapshots__close : List Str := ["self", "number", "stamp", "left", "one"]
theorem sc_Snapshots__close : FnScope nm_Snapshots__close ["self", "number"] (defScope x_Snapshots__close) := ⟨rfl, rfl, rfl, by decide +kernel, rfl, by decide +kernel, by decide +kernel⟩
abbrev x_Snapshots__live : Stmt := methAt x_Snapshots 5
abbrev nm_Snapshots__live : List Str := ["self"]
theorem sc_Snapshots__live : FnScope nm_Snapshots__live ["self"] (defScope x_Snapshots__live) := ⟨rfl, rfl, rfl, by decide +kernel, rfl, by decide +kernel, by decide +kernel⟩
abbrev x_Snapshots__holders : Stmt := methAt x_Snapshots 6
abbrev nm_Snapshots__holders : List Str := ["self", "stamp"]
theorem sc_Snapshots__holders : FnScope nm_Snapshots__holders ["self", "stamp"] (defScope x_Snapshots__holders) := ⟨rfl, rfl, rfl, by decide +kernel, rfl, by decide +kernel, by decide +kernel⟩
abbrev x_Snapshots__last_within : Stmt := methAt x_Snapshots 7
abbrev nm_Snapshots__last_within : List Str := ["self", "first", "last", "place"]
theorem sc_Snapshots__last_within : FnScope nm_Snapshots__last_within ["self", "first", "last"] (defScope x_Snapshots__last_within) := ⟨rfl, rfl, rfl, by decide +kernel, rfl, by decide +kernel, by decide +kernel⟩
abbrev x__law_deal : Stmt := stAt 10
abbrev nm__law_deal : List Str := ["_law_script", "_law_base", "_law_cells", "_law_blend", "_law_cell"]
theorem sc__law_deal : FnScope nm__law_deal ["_law_script", "_law_base"] (defScope x__law_deal) := ⟨rfl, rfl, rfl, by decide +kernel, rfl, by decide +kernel, by decide +kernel⟩
abbrev x__law_draw : Stmt := stAt 11
abbrev nm__law_draw : List Str := ["_law_deal_here", "_law_bound", "_law_rest"]
theorem sc__law_draw : FnScope nm__law_draw ["_law_deal_here", "_law_bound"] (defScope x__law_draw) := ⟨rfl, rfl, rfl, by decide +kernel, rfl, by decide +kernel, by decide +kernel⟩
abbrev x__law_pick : Stmt := stAt 12
abbrev nm__law_pick : List Str := ["_law_deal_here", "_law_some"]
theorem sc__law_pick : FnScope nm__law_pick ["_law_deal_here", "_law_some"] (defScope x__law_pick) := ⟨rfl, rfl, rfl, by decide +kernel, rfl, by decide +kernel, by decide +kernel⟩
abbrev x__law_whole : Stmt := stAt 13
abbrev nm__law_whole : List Str := ["_law_value"]
theorem sc__law_whole : FnScope nm__law_whole ["_law_value"] (defScope x__law_whole) := ⟨rfl, rfl, rfl, by decide +kernel, rfl, by decide +kernel, by decide +kernel⟩
abbrev x__law_closed : Stmt := stAt 14
abbrev nm__law_closed : List Str := ["_law_snapshots", "_law_number", "_law_word", "error"]
theorem sc__law_closed : FnScope nm__law_closed ["_law_snapshots", "_law_number", "_law_word"] (defScope x__law_closed) := ⟨rfl, rfl, rfl, by decide +kernel, rfl, by decide +kernel, by decide +kernel⟩
abbrev x__law_looked : Stmt := stAt 15
abbrev nm__law_looked : List Str := ["_law_deal_here", "_law_snapshots", "_law_here", "_law_live", "_law_stamp", "_law_first", "_law_last", "_law_within", "_law_due", "_law_number", "_law_at"]
theorem sc__law_looked : FnScope nm__law_looked ["_law_deal_here", "_law_snapshots", "_law_here"] (defScope x__law_looked) := ⟨rfl, rfl, rfl, by decide +kernel, rfl, by decide +kernel, by decide +kernel⟩
abbrev x_law : Stmt := stAt 16
abbrev nm_law : List Str := ["_law_script", "_law_deal_here", "_law_snapshots", "_law_here", "_law_many", "_law_turn", "_law_stamp", "_law_number", "_law_stamps", "_law_due", "error", "_law_one", "_law_at"]
theorem sc_law : FnScope nm_law ["_law_script"] (defScope x_law) := ⟨rfl, rfl, rfl, by decide +kernel, rfl, by decide +kernel, by decide +kernel⟩
abbrev x_StoreError : Stmt := stAt 1
abbrev x_InvalidSize : Stmt := stAt 2
abbrev x_NoName : Stmt := stAt 3
/-! ### what the top has written -/
structure Tx (P : Program) (K : PySem.W.Frag) (mg : Str → Option Value) (ad : Nat → Addr) (fd : Nat → FuncData) (tb : Nat → Addr × Addr) : Prop where
  g_is_integer : mg "is_integer" = some (.ref (ad 0))
  F_is_integer : Fun K "is_integer" "is_integer" x_is_integer (ad 0) (fd 0)
  b_is_integer : Binds K (fd 0) ["value"] []
  g_is_number : mg "is_number" = some (.ref (ad 1))
  F_is_number : Fun K "is_number" "is_number" x_is_number (ad 1) (fd 1)
  b_is_number : Binds K (fd 1) ["value"] []
  F_Snapshots__init : Fun K "__init__" "Snapshots.__init__" x_Snapshots__init (ad 2) (fd 2)
  b_Snapshots__init : Binds K (fd 2) ["self"] []
  m_Snapshots__begin : Meth K (ad 23) "begin" (ad 3)
  F_Snapshots__begin : Fun K "begin" "Snapshots.begin" x_Snapshots__begin (ad 3) (fd 3)
  b_Snapshots__begin : Binds K (fd 3) ["self", "stamp"] []
  m_Snapshots__lives_below : Meth K (ad 23) "lives_below" (ad 4)
  F_Snapshots__lives_below : Fun K "lives_below" "Snapshots.lives_below" x_Snapshots__lives_below (ad 4) (fd 4)
  b_Snapshots__lives_below : Binds K (fd 4) ["self", "stamp"] []
  m_Snapshots__stamp_of : Meth K (ad 23) "stamp_of" (ad 5)
  F_Snapshots__stamp_of : Fun K "stamp_of" "Snapshots.stamp_of" x_Snapshots__stamp_of (ad 5) (fd 5)
  b_Snapshots__stamp_of : Binds K (fd 5) ["self", "number"] []
  m_Snapshots__close : Meth K (ad 23) "close" (ad 6)
  F_Snapshots__close : Fun K "close" "Snapshots.close" x_Snapshots__close (ad 6) (fd 6)
  b_Snapshots__close : Binds K (fd 6) ["self", "number"] []
  m_Snapshots__live : Meth K (ad 23) "live" (ad 7)
  F_Snapshots__live : Fun K "live" "Snapshots.live" x_Snapshots__live (ad 7) (fd 7)
  b_Snapshots__live : Binds K (fd 7) ["self"] []
  m_Snapshots__holders : Meth K (ad 23) "holders" (ad 8)
  F_Snapshots__holders : Fun K "holders" "Snapshots.holders" x_Snapshots__holders (ad 8) (fd 8)
  b_Snapshots__holders : Binds K (fd 8) ["self", "stamp"] []
  m_Snapshots__last_within : Meth K (ad 23) "last_within" (ad 9)
  F_Snapshots__last_within : Fun K "last_within" "Snapshots.last_within" x_Snapshots__last_within (ad 9) (fd 9)
  b_Snapshots__last_within : Binds K (fd 9) ["self", "first", "last"] []
  g__law_deal : mg "_law_deal" = some (.ref (ad 10))
  F__law_deal : Fun K "_law_deal" "_law_deal" x__law_deal (ad 10) (fd 10)
  b__law_deal : Binds K (fd 10) ["_law_script", "_law_base"] []
  g__law_draw : mg "_law_draw" = some (.ref (ad 11))
  F__law_draw : Fun K "_law_draw" "_law_draw" x__law_draw (ad 11) (fd 11)
  b__law_draw : Binds K (fd 11) ["_law_deal_here", "_law_bound"] []
  g__law_pick : mg "_law_pick" = some (.ref (ad 12))
  F__law_pick : Fun K "_law_pick" "_law_pick" x__law_pick (ad 12) (fd 12)
  b__law_pick : Binds K (fd 12) ["_law_deal_here", "_law_some"] []
  g__law_whole : mg "_law_whole" = some (.ref (ad 13))
  F__law_whole : Fun K "_law_whole" "_law_whole" x__law_whole (ad 13) (fd 13)
  b__law_whole : Binds K (fd 13) ["_law_value"] []
  g__law_closed : mg "_law_closed" = some (.ref (ad 14))
  F__law_closed : Fun K "_law_closed" "_law_closed" x__law_closed (ad 14) (fd 14)
  b__law_closed : Binds K (fd 14) ["_law_snapshots", "_law_number", "_law_word"] []
  g__law_looked : mg "_law_looked" = some (.ref (ad 15))
  F__law_looked : Fun K "_law_looked" "_law_looked" x__law_looked (ad 15) (fd 15)
  b__law_looked : Binds K (fd 15) ["_law_deal_here", "_law_snapshots", "_law_here"] []
  g_law : mg "law" = some (.ref (ad 16))
  F_law : Fun K "law" "law" x_law (ad 16) (fd 16)
  b_law : Binds K (fd 16) ["_law_script"] []
  g_Snapshots : mg "Snapshots" = some (.ref (ad 23))
  K_Snapshots : ClsI K "Snapshots" (ad 23)
  M_Snapshots : Mk K (ad 23) (ad 2)
  n_Snapshots_last : NoAttr K (ad 23) "last"
  n_Snapshots_numbers : NoAttr K (ad 23) "numbers"
  n_Snapshots_places : NoAttr K (ad 23) "places"
  n_Snapshots_told : NoAttr K (ad 23) "told"
  g_StoreError : mg "StoreError" = some (.ref (ad 17))
  K_StoreError : ExcK K "StoreError" (ad 17)
  g_InvalidSize : mg "InvalidSize" = some (.ref (ad 18))
  K_InvalidSize : ExcK K "InvalidSize" (ad 18)
  E_InvalidSize : ErE.ErrC P K "Exception" "Exception.__new__" "Exception.__init__" [.type "Exception", .type "BaseException", .type "object"] (ad 18) (ad 21) "word"
  g_NoName : mg "NoName" = some (.ref (ad 19))
  K_NoName : ExcK K "NoName" (ad 19)
  E_NoName : ErE.ErrC P K "KeyError" "LookupError.__new__" "KeyError.__init__" [.type "KeyError", .type "LookupError", .type "Exception", .type "BaseException", .type "object"] (ad 19) (ad 22) "name"
  n_InvalidSize_word : PySem.W.findIn K (.ref (ad 18)) "word" = some none
  n_NoName_name : PySem.W.findIn K (.ref (ad 19)) "name" = some none
  u_InvalidSize_InvalidSize : PySem.W.subIn K (.ref (ad 18)) (.ref (ad 18)) = some true
  u_InvalidSize_NoName : PySem.W.subIn K (.ref (ad 18)) (.ref (ad 19)) = some false
  u_NoName_InvalidSize : PySem.W.subIn K (.ref (ad 19)) (.ref (ad 18)) = some false
  u_NoName_NoName : PySem.W.subIn K (.ref (ad 19)) (.ref (ad 19)) = some true
  u_NoName_KeyError : PySem.W.subIn K (.ref (ad 19)) (.type "KeyError") = some true
  k_Snapshots__begin_stamp : KB K (fd 3) ["self", "stamp"] 1 ["stamp"] [0, 1]
  k_Snapshots__close_number : KB K (fd 6) ["self", "number"] 1 ["number"] [0, 1]
  k_Snapshots__holders_stamp : KB K (fd 8) ["self", "stamp"] 1 ["stamp"] [0, 1]
  k_Snapshots__last_within_last_first : KB K (fd 9) ["self", "first", "last"] 1 ["last", "first"] [0, 2, 1]
  k_Snapshots__stamp_of_number : KB K (fd 5) ["self", "number"] 1 ["number"] [0, 1]
  z_KeyError : mg "KeyError" = none
  z_abs : mg "abs" = none
  z_bool : mg "bool" = none
  z_int : mg "int" = none
  z_isinstance : mg "isinstance" = none
  z_len : mg "len" = none
  z_range : mg "range" = none
  z_repr : mg "repr" = none
  z_set : mg "set" = none
  z_sorted : mg "sorted" = none
  z_super : mg "super" = none
  z_tuple : mg "tuple" = none
/-! ### the defs -/
noncomputable def m_is_integer : List D → AH → Res D := mFun 1 (mRet (mAndV (mCall fIsi (mCons (mVar 0) (mCons (mK (.ty "int")) (mNil)))) (mNotV (mCall fIsi (mCons (mVar 0) (mCons (mK (.ty "bool"))
    (mNil)))))))
theorem w_is_integer {P : Program} {w : World} {K : PySem.W.Frag} {mg : Str → Option Value} {base : Heap} {ad : Nat → Addr} {fd : Nat → FuncData} {tb : Nat → Addr × Addr} (T : Tx P K mg ad fd tb) :
    FnD P w K mg base 1 (ad 0) (fd 0) ["value"] (m_is_integer) :=
  have nd := sc_is_integer.nd
FnD.of T.F_is_integer sc_is_integer fun cdv hcd A outer s H E hr gd tk hp => s_one (s_ret (d_andV (d_isi T.z_isinstance (a_cons (d_var 0) (a_cons (d_ty T.z_int PyProof.Rows.Boot.«int») (a_nil))))
    (d_one (d_notV (d_isi T.z_isinstance (a_cons (d_var 0) (a_cons (d_ty T.z_bool PyProof.Rows.Boot.«bool») (a_nil))))))))
noncomputable def m_is_number (c_is_integer : List D → AH → Res D) : List D → AH → Res D := mFun 1 (mRet (mAndV (mCallF 1 c_is_integer (mCons (mVar 0) (mNil))) (mOp fGe (mVar 0) (mK (.int 0)))))
theorem w_is_number {P : Program} {w : World} {K : PySem.W.Frag} {mg : Str → Option Value} {base : Heap} {ad : Nat → Addr} {fd : Nat → FuncData} {tb : Nat → Addr × Addr} (T : Tx P K mg ad fd tb)
    {c_is_integer : List D → AH → Res D} (G_is_integer : FnD P w K mg base 1 (ad 0) (fd 0) ["value"] c_is_integer) :
    FnD P w K mg base 2 (ad 1) (fd 1) ["value"] (m_is_number c_is_integer) :=
  have nd := sc_is_number.nd
FnD.of T.F_is_number sc_is_number fun cdv hcd A outer s H E hr gd tk hp => s_one (s_ret (d_andV (d_call G_is_integer (hr.mono (by decide)) gd tk T.g_is_integer T.F_is_integer.kp T.b_is_integer (a_cons
    (d_var 0) (a_nil))) (d_one (d_ge (d_var 0) (d_int)))))
noncomputable def m_Snapshots__init : List D → AH → Res D := mFun 1 (mSeq (mSetF "Snapshots" "last" (mK (.int 0)) (mVar 0)) (mSeq (mSetF "Snapshots" "told" (mDict0) (mVar 0)) (mSeq (mSetF "Snapshots"
    "places" (mNew (mNil)) (mVar 0)) (mSetF "Snapshots" "numbers" (mDict0) (mVar 0)))))
theorem w_Snapshots__init {P : Program} {w : World} {K : PySem.W.Frag} {mg : Str → Option Value} {base : Heap} {ad : Nat → Addr} {fd : Nat → FuncData} {tb : Nat → Addr × Addr} (T : Tx P K mg ad fd tb)
    :
    FnD P w K mg base 1 (ad 2) (fd 2) ["self"] (m_Snapshots__init) :=
  have nd := sc_Snapshots__init.nd
FnD.of T.F_Snapshots__init sc_Snapshots__init fun cdv hcd A outer s H E hr gd tk hp => s_cons (s_fld T.K_Snapshots T.n_Snapshots_last (d_var 0) (d_int)) (s_cons (s_fld T.K_Snapshots T.n_Snapshots_told
    (d_var 0) (d_dict0)) (s_cons (s_fld T.K_Snapshots T.n_Snapshots_places (d_var 0) (d_new (a_nil))) (s_one (s_fld T.K_Snapshots T.n_Snapshots_numbers (d_var 0) (d_dict0)))))
noncomputable def m_Snapshots__begin (c_is_number : List D → AH → Res D) (c_Snapshots__lives_below : List D → AH → Res D) : List D → AH → Res D := mFun 2 (mSeq (mIfS (mNot (mTst (mCallF 1 c_is_number
    (mCons (mVar 1) (mNil))))) (mRaise "InvalidSize" "word" (mK (.str "stamp"))) (mNext)) (mSeq (mAddF "Snapshots" "last" (mVar 0) (mK (.int 1))) (mSeq (mDPut (mVar 1) (mFld "Snapshots" "told" (mVar
    0)) (mFld "Snapshots" "last" (mVar 0))) (mSeq (mIfS (mTst (mOp (fDIn true) (mVar 1) (mFld "Snapshots" "numbers" (mVar 0)))) (mSeq (mDrop (mMet fInsL (mFld "Snapshots" "places" (mVar 0)) (mCons
    (mMeth "Snapshots" "lives_below" 2 c_Snapshots__lives_below (mVar 0) (mCons (mVar 1) (mNil))) (mCons (mVar 1) (mNil))))) (mDPut (mTup (mNil)) (mFld "Snapshots" "numbers" (mVar 0)) (mVar 1)))
    (mNext)) (mSeq (mDPut (mOp fAdd (mOp fDGet (mFld "Snapshots" "numbers" (mVar 0)) (mVar 1)) (mTup (mCons (mFld "Snapshots" "last" (mVar 0)) (mNil)))) (mFld "Snapshots" "numbers" (mVar 0)) (mVar 1))
    (mRet (mFld "Snapshots" "last" (mVar 0))))))))
theorem w_Snapshots__begin {P : Program} {w : World} {K : PySem.W.Frag} {mg : Str → Option Value} {base : Heap} {ad : Nat → Addr} {fd : Nat → FuncData} {tb : Nat → Addr × Addr} (T : Tx P K mg ad fd tb)
    {c_is_number : List D → AH → Res D} (G_is_number : FnD P w K mg base 2 (ad 1) (fd 1) ["value"] c_is_number) {c_Snapshots__lives_below : List D → AH → Res D} (G_Snapshots__lives_below : FnD P w K mg
    base 1 (ad 4) (fd 4) ["self", "stamp"] c_Snapshots__lives_below) :
    FnD P w K mg base 3 (ad 3) (fd 3) ["self", "stamp"] (m_Snapshots__begin c_is_number c_Snapshots__lives_below) :=
  have nd := sc_Snapshots__begin.nd
FnD.of T.F_Snapshots__begin sc_Snapshots__begin fun cdv hcd A outer s H E hr gd tk hp => s_cons (s_if (t_not (t_val (d_call G_is_number (hr.mono (by decide)) gd tk T.g_is_number T.F_is_number.kp
    T.b_is_number (a_cons (d_var 1) (a_nil))))) (s_one (s_raise rfl tk T.E_InvalidSize (hr.mono (by decide)) T.g_InvalidSize T.K_InvalidSize.nm T.K_InvalidSize.kp T.K_InvalidSize.ec.hs
    T.K_InvalidSize.ty T.z_super (d_str))) (s_nil)) (s_cons (s_addF T.K_Snapshots T.n_Snapshots_last (d_var 0) (d_int)) (s_cons (s_dput (units64 hr) (d_fld T.K_Snapshots T.n_Snapshots_told (d_var 0))
    (d_fld T.K_Snapshots T.n_Snapshots_last (d_var 0)) (d_var 1)) (s_cons (s_if (t_dnin (units64 hr) (d_var 1) (d_fld T.K_Snapshots T.n_Snapshots_numbers (d_var 0))) (s_cons (s_expr (d_insL (d_fld
    T.K_Snapshots T.n_Snapshots_places (d_var 0)) (a_cons (d_meth T.K_Snapshots T.m_Snapshots__lives_below G_Snapshots__lives_below (hr.mono (by decide)) gd tk T.b_Snapshots__lives_below (d_var 0)
    (a_cons (d_var 1) (a_nil))) (a_cons (d_var 1) (a_nil))))) (s_one (s_dput (units64 hr) (d_fld T.K_Snapshots T.n_Snapshots_numbers (d_var 0)) (d_var 1) (d_tup (a_nil))))) (s_nil)) (s_cons (s_dput
    (units64 hr) (d_fld T.K_Snapshots T.n_Snapshots_numbers (d_var 0)) (d_var 1) (d_add (d_dget hr.units (d_fld T.K_Snapshots T.n_Snapshots_numbers (d_var 0)) (d_var 1)) (d_tup (a_cons (d_fld
    T.K_Snapshots T.n_Snapshots_last (d_var 0)) (a_nil))))) (s_one (s_ret (d_fld T.K_Snapshots T.n_Snapshots_last (d_var 0))))))))
noncomputable def m_Snapshots__lives_below : List D → AH → Res D := mFun 5 (mSeq (mPar2 2 3 (mCons (mK (.int 0)) (mCons (mCall fLen (mCons (mFld "Snapshots" "places" (mVar 0)) (mNil))) (mNil)))) (mSeq
    (mWhile (mTst (mOp fLt (mVar 2) (mVar 3))) (mSeq (mSet 4 (mOp fDiv (mOp fAdd (mVar 2) (mVar 3)) (mK (.int 2)))) (mIfS (mTst (mOp fLt (mOp fIx (mFld "Snapshots" "places" (mVar 0)) (mVar 4)) (mVar
    1))) (mSet 2 (mOp fAdd (mVar 4) (mK (.int 1)))) (mSet 3 (mVar 4))))) (mRet (mVar 2))))
theorem w_Snapshots__lives_below {P : Program} {w : World} {K : PySem.W.Frag} {mg : Str → Option Value} {base : Heap} {ad : Nat → Addr} {fd : Nat → FuncData} {tb : Nat → Addr × Addr} (T : Tx P K mg ad
    fd tb) :
    FnD P w K mg base 1 (ad 4) (fd 4) ["self", "stamp"] (m_Snapshots__lives_below) :=
  have nd := sc_Snapshots__lives_below.nd
FnD.of T.F_Snapshots__lives_below sc_Snapshots__lives_below fun cdv hcd A outer s H E hr gd tk hp => s_cons (s_par2 (i := 2) (j := 3) rfl nd rfl rfl (by decide) rfl rfl (a_cons (d_int) (a_cons (d_len
    T.z_len (a_cons (d_fld T.K_Snapshots T.n_Snapshots_places (d_var 0)) (a_nil))) (a_nil))) (by rfl)) (s_cons (s_while hp (t_lt (d_var 2) (d_var 3)) (s_cons (s_set (i := 4) nd (d_div (d_add (d_var 2)
    (d_var 3)) (d_int))) (s_one (s_if (t_lt (d_ix (d_fld T.K_Snapshots T.n_Snapshots_places (d_var 0)) (d_var 4)) (d_var 1)) (s_one (s_set (i := 2) nd (d_add (d_var 4) (d_int)))) (s_one (s_set (i := 3)
    nd (d_var 4))))))) (s_one (s_ret (d_var 2))))
noncomputable def m_Snapshots__stamp_of (c_is_integer : List D → AH → Res D) : List D → AH → Res D := mFun 2 (mSeq (mIfS (mOr (mNot (mTst (mCallF 1 c_is_integer (mCons (mVar 1) (mNil))))) (mTst (mOp
    (fDIn true) (mVar 1) (mFld "Snapshots" "told" (mVar 0))))) (mRaise "NoName" "name" (mVar 1)) (mNext)) (mRet (mOp fDGet (mFld "Snapshots" "told" (mVar 0)) (mVar 1))))
theorem w_Snapshots__stamp_of {P : Program} {w : World} {K : PySem.W.Frag} {mg : Str → Option Value} {base : Heap} {ad : Nat → Addr} {fd : Nat → FuncData} {tb : Nat → Addr × Addr} (T : Tx P K mg ad fd
    tb) {c_is_integer : List D → AH → Res D} (G_is_integer : FnD P w K mg base 1 (ad 0) (fd 0) ["value"] c_is_integer) :
    FnD P w K mg base 2 (ad 5) (fd 5) ["self", "number"] (m_Snapshots__stamp_of c_is_integer) :=
  have nd := sc_Snapshots__stamp_of.nd
FnD.of T.F_Snapshots__stamp_of sc_Snapshots__stamp_of fun cdv hcd A outer s H E hr gd tk hp => s_cons (s_if (PW.pt (w_or (t_not (t_val (d_call G_is_integer (hr.mono (by decide)) gd tk T.g_is_integer
    T.F_is_integer.kp T.b_is_integer (a_cons (d_var 1) (a_nil))))) (w_or1 (t_dnin (units64 hr) (d_var 1) (d_fld T.K_Snapshots T.n_Snapshots_told (d_var 0)))))) (s_one (s_raise rfl tk T.E_NoName
    (hr.mono (by decide)) T.g_NoName T.K_NoName.nm T.K_NoName.kp T.K_NoName.ec.hs T.K_NoName.ty T.z_super (d_var 1))) (s_nil)) (s_one (s_ret (d_dget hr.units (d_fld T.K_Snapshots T.n_Snapshots_told
    (d_var 0)) (d_var 1))))
noncomputable def m_Snapshots__close (c_Snapshots__stamp_of : List D → AH → Res D) : List D → AH → Res D := mFun 5 (mSeq (mSet 2 (mMeth "Snapshots" "stamp_of" 2 c_Snapshots__stamp_of (mVar 0) (mCons
    (mVar 1) (mNil)))) (mSeq (mDrop (mDPop (mFld "Snapshots" "told" (mVar 0)) (mVar 1))) (mSeq (mSet 3 (mCall fTup (mCons (mLc false (mSq (mOp fDGet (mFld "Snapshots" "numbers" (mVar 0)) (mVar 2)))
    (.nm 4) (mTst (mOp (fEq true) (mVar 4) (mVar 1))) (mVar 4) [4]) (mNil)))) (mSeq (mDPut (mVar 3) (mFld "Snapshots" "numbers" (mVar 0)) (mVar 2)) (mSeq (mIfS (mTst (mOp (fEq false) (mVar 3) (mTup
    (mNil)))) (mSeq (mDrop (mDPop (mFld "Snapshots" "numbers" (mVar 0)) (mVar 2))) (mDrop (mRemL (mFld "Snapshots" "places" (mVar 0)) (mVar 2)))) (mNext)) (mRet (mVar 2)))))))
theorem w_Snapshots__close {P : Program} {w : World} {K : PySem.W.Frag} {mg : Str → Option Value} {base : Heap} {ad : Nat → Addr} {fd : Nat → FuncData} {tb : Nat → Addr × Addr} (T : Tx P K mg ad fd tb)
    {c_Snapshots__stamp_of : List D → AH → Res D} (G_Snapshots__stamp_of : FnD P w K mg base 2 (ad 5) (fd 5) ["self", "number"] c_Snapshots__stamp_of) :
    FnD P w K mg base 3 (ad 6) (fd 6) ["self", "number"] (m_Snapshots__close c_Snapshots__stamp_of) :=
  have nd := sc_Snapshots__close.nd
FnD.of T.F_Snapshots__close sc_Snapshots__close fun cdv hcd A outer s H E hr gd tk hp => s_cons (s_set (i := 2) nd (d_meth T.K_Snapshots T.m_Snapshots__stamp_of G_Snapshots__stamp_of (hr.mono
    (by decide)) gd tk T.b_Snapshots__stamp_of (d_var 0) (a_cons (d_var 1) (a_nil)))) (s_cons (s_expr (d_dpop (d_fld T.K_Snapshots T.n_Snapshots_told (d_var 0)) (d_var 1))) (s_cons (s_set (i := 3) nd
    (d_tuple T.z_tuple (a_cons (d_lc (t := .nm 4) false [("one", 4)] rfl nd (i_sq (d_dget hr.units (d_fld T.K_Snapshots T.n_Snapshots_numbers (d_var 0)) (d_var 2))) (blkOk_by (N := nm_Snapshots__close)
    (sc := defScope x_Snapshots__close) (by decide +kernel)) (fun _ _ _ _ _ => tg_nm (i := 4) nd) (fun _ _ _ _ _ => l_one (t_ne hr.units (d_var 4) (d_var 1))) (fun _ _ _ _ _ => d_var 4) (sl := [4])
    (by decide)) (a_nil)))) (s_cons (s_dput (units64 hr) (d_fld T.K_Snapshots T.n_Snapshots_numbers (d_var 0)) (d_var 2) (d_var 3)) (s_cons (s_if (t_eq hr.units (d_var 3) (d_tup (a_nil))) (s_cons
    (s_expr (d_dpop (d_fld T.K_Snapshots T.n_Snapshots_numbers (d_var 0)) (d_var 2))) (s_one (s_expr (d_remL rfl tk (d_fld T.K_Snapshots T.n_Snapshots_places (d_var 0)) (d_var 2))))) (s_nil)) (s_one
    (s_ret (d_var 2)))))))
noncomputable def m_Snapshots__live : List D → AH → Res D := mFun 1 (mRet (mCall fTup (mCons (mFld "Snapshots" "places" (mVar 0)) (mNil))))
theorem w_Snapshots__live {P : Program} {w : World} {K : PySem.W.Frag} {mg : Str → Option Value} {base : Heap} {ad : Nat → Addr} {fd : Nat → FuncData} {tb : Nat → Addr × Addr} (T : Tx P K mg ad fd tb)
    :
    FnD P w K mg base 1 (ad 7) (fd 7) ["self"] (m_Snapshots__live) :=
  have nd := sc_Snapshots__live.nd
FnD.of T.F_Snapshots__live sc_Snapshots__live fun cdv hcd A outer s H E hr gd tk hp => s_one (s_ret (d_tuple T.z_tuple (a_cons (d_fld T.K_Snapshots T.n_Snapshots_places (d_var 0)) (a_nil))))
noncomputable def m_Snapshots__holders : List D → AH → Res D := mFun 2 (mRet (mIf (mTst (mOp (fDIn false) (mVar 1) (mFld "Snapshots" "numbers" (mVar 0)))) (mOp fDGet (mFld "Snapshots" "numbers" (mVar
    0)) (mVar 1)) (mTup (mNil))))
theorem w_Snapshots__holders {P : Program} {w : World} {K : PySem.W.Frag} {mg : Str → Option Value} {base : Heap} {ad : Nat → Addr} {fd : Nat → FuncData} {tb : Nat → Addr × Addr} (T : Tx P K mg ad fd
    tb) :
    FnD P w K mg base 1 (ad 8) (fd 8) ["self", "stamp"] (m_Snapshots__holders) :=
  have nd := sc_Snapshots__holders.nd
FnD.of T.F_Snapshots__holders sc_Snapshots__holders fun cdv hcd A outer s H E hr gd tk hp => s_one (s_ret (d_if (t_din (units64 hr) (d_var 1) (d_fld T.K_Snapshots T.n_Snapshots_numbers (d_var 0)))
    (d_dget hr.units (d_fld T.K_Snapshots T.n_Snapshots_numbers (d_var 0)) (d_var 1)) (d_tup (a_nil))))
noncomputable def m_Snapshots__last_within (c_Snapshots__lives_below : List D → AH → Res D) : List D → AH → Res D := mFun 4 (mSeq (mSet 3 (mMeth "Snapshots" "lives_below" 2 c_Snapshots__lives_below
    (mVar 0) (mCons (mOp fAdd (mVar 2) (mK (.int 1))) (mNil)))) (mSeq (mIfS (mOr (mTst (mOp (fEq false) (mVar 3) (mK (.int 0)))) (mTst (mOp fLt (mOp fIx (mFld "Snapshots" "places" (mVar 0)) (mOp fSub
    (mVar 3) (mK (.int 1)))) (mVar 1)))) (mRet (mK .non)) (mNext)) (mRet (mOp fIx (mFld "Snapshots" "places" (mVar 0)) (mOp fSub (mVar 3) (mK (.int 1)))))))
theorem w_Snapshots__last_within {P : Program} {w : World} {K : PySem.W.Frag} {mg : Str → Option Value} {base : Heap} {ad : Nat → Addr} {fd : Nat → FuncData} {tb : Nat → Addr × Addr} (T : Tx P K mg ad
    fd tb) {c_Snapshots__lives_below : List D → AH → Res D} (G_Snapshots__lives_below : FnD P w K mg base 1 (ad 4) (fd 4) ["self", "stamp"] c_Snapshots__lives_below) :
    FnD P w K mg base 2 (ad 9) (fd 9) ["self", "first", "last"] (m_Snapshots__last_within c_Snapshots__lives_below) :=
  have nd := sc_Snapshots__last_within.nd
FnD.of T.F_Snapshots__last_within sc_Snapshots__last_within fun cdv hcd A outer s H E hr gd tk hp => s_cons (s_set (i := 3) nd (d_meth T.K_Snapshots T.m_Snapshots__lives_below G_Snapshots__lives_below
    (hr.mono (by decide)) gd tk T.b_Snapshots__lives_below (d_var 0) (a_cons (d_add (d_var 2) (d_int)) (a_nil)))) (s_cons (s_if (PW.pt (w_or (t_eq hr.units (d_var 3) (d_int)) (w_or1 (t_lt (d_ix (d_fld
    T.K_Snapshots T.n_Snapshots_places (d_var 0)) (d_sub (d_var 3) (d_int))) (d_var 1))))) (s_one (s_ret (d_non))) (s_nil)) (s_one (s_ret (d_ix (d_fld T.K_Snapshots T.n_Snapshots_places (d_var 0))
    (d_sub (d_var 3) (d_int))))))
noncomputable def m__law_deal : List D → AH → Res D := mFun 5 (mSeq (mSet 2 (mLc false (mSq (mSl (mVar 0) (mSome (mVar 1)) (mSome (mOp fAdd (mVar 1) (mK (.int 50)))))) (.nm 4) (mYes) (mCall fAbs (mCons
    (mVar 4) (mNil))) [4])) (mSeq (mSet 3 (mOp fAdd (mK (.int 27644437)) (mOp fMulA (mK (.int 53)) (mVar 1)))) (mSeq (mFor (mSq (mVar 2)) (.nm 4) (mSet 3 (mOp fMod (mCall fInt (mCons (mOp fAdd (mOp
    fAdd (mOp fMulA (mVar 3) (mK (.int 48271))) (mOp fMod (mCall fInt (mCons (mVar 4) (mNil))) (mK (.int 2147483549)))) (mK (.int 41))) (mNil))) (mK (.int 2147483647))))) (mRet (mNew (mCons (mRev true
    (mLc false (mSq (mVar 2)) (.nm 4) (mTst (mOp fGe (mVar 4) (mOp fPow (mK (.int 10)) (mK (.int 18))))) (mVar 4) [4])) (mCons (mVar 3) (mNil))))))))
theorem w__law_deal {P : Program} {w : World} {K : PySem.W.Frag} {mg : Str → Option Value} {base : Heap} {ad : Nat → Addr} {fd : Nat → FuncData} {tb : Nat → Addr × Addr} (T : Tx P K mg ad fd tb) :
    FnD P w K mg base 1 (ad 10) (fd 10) ["_law_script", "_law_base"] (m__law_deal) :=
  have nd := sc__law_deal.nd
FnD.of T.F__law_deal sc__law_deal fun cdv hcd A outer s H E hr gd tk hp => s_cons (s_setLc (i := 2) (t := .nm 4) false [("_law_cell", 4)] rfl nd rfl rfl (sw_true rfl rfl rfl (by decide +kernel)) (i_sq
    (d_sl (d_var 0) (o_some (d_var 1)) (o_some (d_add (d_var 1) (d_int))))) (blkOk_by (N := nm__law_deal) (sc := defScope x__law_deal) (by decide +kernel)) (fun _ _ _ _ _ => tg_nm (i := 4) nd) (fun _ _
    _ _ _ => l_nil) (fun _ _ _ _ _ => d_abs T.z_abs (a_cons (d_var 4) (a_nil))) (sl := [4]) (by decide)) (s_cons (s_set (i := 3) nd (d_add (d_int) (d_mulA (d_int) (d_var 1)))) (s_cons (s_for hp rfl
    (i_sq (d_var 2)) (tg_nm (i := 4) nd) (s_one (s_set (i := 3) nd (d_mod (d_intf T.z_int (a_cons (d_add (d_add (d_mulA (d_var 3) (d_int)) (d_mod (d_intf T.z_int (a_cons (d_var 4) (a_nil))) (d_int)))
    (d_int)) (a_nil))) (d_int))))) (s_one (s_ret (d_new (a_cons (d_rev true (d_lc (t := .nm 4) false [("_law_cell", 4)] rfl nd (i_sq (d_var 2)) (blkOk_by (N := nm__law_deal) (sc := defScope
    x__law_deal) (by decide +kernel)) (fun _ _ _ _ _ => tg_nm (i := 4) nd) (fun _ _ _ _ _ => l_one (t_ge (d_var 4) (d_pow (d_int) (d_int)))) (fun _ _ _ _ _ => d_var 4) (sl := [4]) (by decide))) (a_cons
    (d_var 3) (a_nil))))))))
noncomputable def m__law_draw : List D → AH → Res D := mFun 3 (mSeq (mWhile (mAnd (mTst (mOp (fEq true) (mOp fIx (mVar 0) (mK (.int 0))) (mLst (mNil)))) (mTst (mOp (fEq false) (mOp fIx (mOp fIx (mVar
    0) (mK (.int 0))) (mNeg (mK (.int 1)))) (mK (.int 0))))) (mDrop (mPop (mOp fIx (mVar 0) (mK (.int 0)))))) (mSeq (mIfS (mTst (mOp (fEq true) (mOp fIx (mVar 0) (mK (.int 0))) (mLst (mNil)))) (mSeq
    (mSet 2 (mPop (mOp fIx (mVar 0) (mK (.int 0))))) (mSeq (mDrop (mMet fApp (mOp fIx (mVar 0) (mK (.int 0))) (mCons (mOp fDiv (mVar 2) (mVar 1)) (mNil)))) (mRet (mOp fMod (mCall fInt (mCons (mVar 2)
    (mNil))) (mVar 1))))) (mNext)) (mSeq (mSto (mOp fMod (mCall fInt (mCons (mOp fAdd (mOp fMulA (mOp fIx (mVar 0) (mK (.int 1))) (mK (.int 48271))) (mK (.int 59))) (mNil))) (mK (.int 2147483647)))
    (mVar 0) (mK (.int 1))) (mRet (mOp fMod (mCall fInt (mCons (mOp fDiv (mOp fIx (mVar 0) (mK (.int 1))) (mK (.int 64))) (mNil))) (mVar 1))))))
theorem w__law_draw {P : Program} {w : World} {K : PySem.W.Frag} {mg : Str → Option Value} {base : Heap} {ad : Nat → Addr} {fd : Nat → FuncData} {tb : Nat → Addr × Addr} (T : Tx P K mg ad fd tb) :
    FnD P w K mg base 1 (ad 11) (fd 11) ["_law_deal_here", "_law_bound"] (m__law_draw) :=
  have nd := sc__law_draw.nd
FnD.of T.F__law_draw sc__law_draw fun cdv hcd A outer s H E hr gd tk hp => s_cons (s_while hp (PW.pt (w_and (t_ne hr.units (d_ix (d_var 0) (d_int)) (d_lst (a_nil))) (w_and1 (t_eq hr.units (d_ix (d_ix
    (d_var 0) (d_int)) (d_neg (d_int))) (d_int))))) (s_one (s_expr (d_pop (d_ix (d_var 0) (d_int)))))) (s_cons (s_if (t_ne hr.units (d_ix (d_var 0) (d_int)) (d_lst (a_nil))) (s_cons (s_set (i := 2) nd
    (d_pop (d_ix (d_var 0) (d_int)))) (s_cons (s_expr (d_app (d_ix (d_var 0) (d_int)) (a_cons (d_div (d_var 2) (d_var 1)) (a_nil)))) (s_one (s_ret (d_mod (d_intf T.z_int (a_cons (d_var 2) (a_nil)))
    (d_var 1)))))) (s_nil)) (s_cons (s_setI (d_mod (d_intf T.z_int (a_cons (d_add (d_mulA (d_ix (d_var 0) (d_int)) (d_int)) (d_int)) (a_nil))) (d_int)) (pg_sub (d_var 0) (d_int) set_list)) (s_one
    (s_ret (d_mod (d_intf T.z_int (a_cons (d_div (d_ix (d_var 0) (d_int)) (d_int)) (a_nil))) (d_var 1))))))
noncomputable def m__law_pick (c__law_draw : List D → AH → Res D) : List D → AH → Res D := mFun 2 (mRet (mOp fIx (mVar 1) (mCallF 2 c__law_draw (mCons (mVar 0) (mCons (mCall fLen (mCons (mVar 1)
    (mNil))) (mNil))))))
theorem w__law_pick {P : Program} {w : World} {K : PySem.W.Frag} {mg : Str → Option Value} {base : Heap} {ad : Nat → Addr} {fd : Nat → FuncData} {tb : Nat → Addr × Addr} (T : Tx P K mg ad fd tb)
    {c__law_draw : List D → AH → Res D} (G__law_draw : FnD P w K mg base 1 (ad 11) (fd 11) ["_law_deal_here", "_law_bound"] c__law_draw) :
    FnD P w K mg base 2 (ad 12) (fd 12) ["_law_deal_here", "_law_some"] (m__law_pick c__law_draw) :=
  have nd := sc__law_pick.nd
FnD.of T.F__law_pick sc__law_pick fun cdv hcd A outer s H E hr gd tk hp => s_one (s_ret (d_ix (d_var 1) (d_call G__law_draw (hr.mono (by decide)) gd tk T.g__law_draw T.F__law_draw.kp T.b__law_draw
    (a_cons (d_var 0) (a_cons (d_len T.z_len (a_cons (d_var 1) (a_nil))) (a_nil))))))
noncomputable def m__law_whole : List D → AH → Res D := mFun 1 (mRet (mAndV (mCall fIsi (mCons (mVar 0) (mCons (mK (.ty "int")) (mNil)))) (mNotV (mCall fIsi (mCons (mVar 0) (mCons (mK (.ty "bool"))
    (mNil)))))))
theorem w__law_whole {P : Program} {w : World} {K : PySem.W.Frag} {mg : Str → Option Value} {base : Heap} {ad : Nat → Addr} {fd : Nat → FuncData} {tb : Nat → Addr × Addr} (T : Tx P K mg ad fd tb) :
    FnD P w K mg base 1 (ad 13) (fd 13) ["_law_value"] (m__law_whole) :=
  have nd := sc__law_whole.nd
FnD.of T.F__law_whole sc__law_whole fun cdv hcd A outer s H E hr gd tk hp => s_one (s_ret (d_andV (d_isi T.z_isinstance (a_cons (d_var 0) (a_cons (d_ty T.z_int PyProof.Rows.Boot.«int») (a_nil))))
    (d_one (d_notV (d_isi T.z_isinstance (a_cons (d_var 0) (a_cons (d_ty T.z_bool PyProof.Rows.Boot.«bool») (a_nil))))))))
theorem h__law_whole {P : Program} {w : World} {K : PySem.W.Frag} {mg : Str → Option Value} {base : Heap} {ad : Nat → Addr} {fd : Nat → FuncData} {tb : Nat → Addr × Addr} (T : Tx P K mg ad fd tb) :
    FnH P w K mg base 1 (ad 13) (fd 13) ["_law_value"] (m__law_whole) :=
  have nd := sc__law_whole.nd
FnH.of T.F__law_whole sc__law_whole fun cdv hcd A outer s H p hot hr gd => s_one (s_ret (d_andV (d_isi T.z_isinstance (a_cons (d_var 0) (a_cons (d_ty T.z_int PyProof.Rows.Boot.«int») (a_nil)))) (d_one
    (d_notV (d_isi T.z_isinstance (a_cons (d_var 0) (a_cons (d_ty T.z_bool PyProof.Rows.Boot.«bool») (a_nil))))))))
noncomputable def ms__law_closed (c_Snapshots__close : List D → AH → Res D) (c_Snapshots__stamp_of : List D → AH → Res D) : MS := mTry (mRet (mTup (mCons (mIf (mTst (mOp (fEq false) (mVar 2) (mK (.str
    "close")))) (mMethK "Snapshots" "close" 1 2 [0, 1] c_Snapshots__close (mVar 0) (mCons (mVar 1) (mNil))) (mMethK "Snapshots" "stamp_of" 1 2 [0, 1] c_Snapshots__stamp_of (mVar 0) (mCons (mVar 1)
    (mNil)))) (mCons (mK (.str "told")) (mNil))))) [⟨"NoName", ["NoName"], ["InvalidSize"], some 3, fun C a d => mRet (mIf (mTst (mCall (fIsx C ["NoName"] [] (.ty "KeyError") a d) (mCons (mVar 3)
    (mCons (mK (.ty "KeyError")) (mNil))))) (mTup (mCons (mXf C ["NoName"] a d "name" (mVar 3)) (mCons (mK (.str "refused")) (mNil)))) (mTup (mCons (mK (.str "another")) (mCons (mK (.str "error"))
    (mNil)))))⟩]
noncomputable def m__law_closed (c_Snapshots__close : List D → AH → Res D) (c_Snapshots__stamp_of : List D → AH → Res D) : List D → AH → Res D := mFun 4 (ms__law_closed c_Snapshots__close
    c_Snapshots__stamp_of)
theorem w__law_closed {P : Program} {w : World} {K : PySem.W.Frag} {mg : Str → Option Value} {base : Heap} {ad : Nat → Addr} {fd : Nat → FuncData} {tb : Nat → Addr × Addr} (T : Tx P K mg ad fd tb)
    {c_Snapshots__close : List D → AH → Res D} (G_Snapshots__close : FnD P w K mg base 3 (ad 6) (fd 6) ["self", "number"] c_Snapshots__close) {c_Snapshots__stamp_of : List D → AH → Res D}
    (G_Snapshots__stamp_of : FnD P w K mg base 2 (ad 5) (fd 5) ["self", "number"] c_Snapshots__stamp_of) :
    FnD P w K mg base 4 (ad 14) (fd 14) ["_law_snapshots", "_law_number", "_law_word"] (m__law_closed c_Snapshots__close c_Snapshots__stamp_of) :=
  have nd := sc__law_closed.nd
FnD.of (ms := ms__law_closed c_Snapshots__close c_Snapshots__stamp_of) T.F__law_closed sc__law_closed fun cdv hcd A outer s H E hr gd tk hp => s_one (s_try rfl rfl nd tk (fun W pn xe tk hp => s_one
    (s_ret (d_tup (a_cons (d_if (t_eq hr.units (d_var 2) (d_str)) (d_methK (ks := ["number"]) (pm := [0, 1]) T.K_Snapshots T.m_Snapshots__close G_Snapshots__close (hr.mono (by decide)) gd tk
    T.k_Snapshots__close_number (d_var 0) (k_cons (d_var 1) (k_nil))) (d_methK (ks := ["number"]) (pm := [0, 1]) T.K_Snapshots T.m_Snapshots__stamp_of G_Snapshots__stamp_of (hr.mono (by decide)) gd tk
    T.k_Snapshots__stamp_of_number (d_var 0) (k_cons (d_var 1) (k_nil)))) (a_cons (d_str) (a_nil)))))) (.cons (hdF_own T.K_NoName (subF_cons T.K_NoName T.u_NoName_NoName (subF_nil)) (subF_cons
    T.K_InvalidSize T.u_InvalidSize_NoName (subF_nil))) (HsM.nil)) (.named (i := 3) rfl rfl ⟨by rfl, by decide, .inl T.g_NoName⟩ (suite_ok fun a oe cls d pn C hz hf hC => s_one (s_ret (d_if (t_val
    (d_isx (.inr ⟨_, rfl, rfl⟩) (subF_cons T.K_NoName T.u_NoName_KeyError (subF_nil)) (subF_nil) (fun _ _ h => kitC_ty (by decide +kernel) h) hC hz hf T.z_isinstance (a_cons (d_var 3) (a_cons (d_ty
    T.z_KeyError PyProof.Rows.Boot.«KeyError») (a_nil))))) (d_tup (a_cons (d_xf (xfF_cons T.K_NoName T.n_NoName_name (xfF_nil)) hC hz hf (d_var 3)) (a_cons (d_str) (a_nil)))) (d_tup (a_cons (d_str)
    (a_cons (d_str) (a_nil))))))) (HsOk.nil)))
noncomputable def m__law_looked (c__law_draw : List D → AH → Res D) (c_Snapshots__live : List D → AH → Res D) (c_Snapshots__holders : List D → AH → Res D) (c_Snapshots__last_within : List D → AH → Res
    D) : List D → AH → Res D := mFun 11 (mSeq (mSet 3 (mCall fSortSet (mCons (mLc false (mSq (mVar 2)) (.tp [.nm 9, .nm 4]) (mYes) (mVar 4) [9, 4]) mNil))) (mSeq (mIfS (mTst (mOp (fEq true) (mCall
    fRepr (mCons (mMeth "Snapshots" "live" 1 c_Snapshots__live (mVar 1) mNil) (mNil))) (mCall fRepr (mCons (mCall fTup (mCons (mVar 3) (mNil))) (mNil))))) (mRet (mK (.bl false))) (mNext)) (mSeq (mFor
    (mSq (mCall fSortSet (mCons (mOp fAdd (mVar 3) (mLst (mCons (mCallF 2 c__law_draw (mCons (mVar 0) (mCons (mK (.int 12)) (mNil)))) (mNil)))) mNil))) (.nm 4) (mIfS (mTst (mOp (fEq true) (mCall fRepr
    (mCons (mMethK "Snapshots" "holders" 1 2 [0, 1] c_Snapshots__holders (mVar 1) (mCons (mVar 4) (mNil))) (mNil))) (mCall fRepr (mCons (mCall fTup (mCons (mLc false (mSq (mVar 2)) (.tp [.nm 9, .nm
    10]) (mTst (mOp (fEq false) (mVar 10) (mVar 4))) (mVar 9) [9, 10]) (mNil))) (mNil))))) (mRet (mK (.bl false))) (mNext))) (mSeq (mSet 5 (mCallF 2 c__law_draw (mCons (mVar 0) (mCons (mK (.int 12))
    (mNil))))) (mSeq (mSet 6 (mOp fSub (mOp fAdd (mVar 5) (mCallF 2 c__law_draw (mCons (mVar 0) (mCons (mK (.int 6)) (mNil))))) (mK (.int 1)))) (mSeq (mSet 7 (mLc false (mSq (mVar 3)) (.nm 4) (mTst
    (mChn fLe fLe (mVar 5) (mVar 4) (mVar 6))) (mVar 4) [4])) (mSeq (mSet 8 (mIf (mTst (mOp (fEq true) (mVar 7) (mLst (mNil)))) (mOp fIx (mVar 7) (mNeg (mK (.int 1)))) (mK .non))) (mRet (mOp (fEq
    false) (mCall fRepr (mCons (mLst (mCons (mMeth "Snapshots" "last_within" 3 c_Snapshots__last_within (mVar 1) (mCons (mVar 5) (mCons (mVar 6) (mNil)))) (mCons (mMethK "Snapshots" "last_within" 2 3
    [0, 2, 1] c_Snapshots__last_within (mVar 1) (mCons (mVar 6) (mCons (mVar 5) (mNil)))) (mNil)))) (mNil))) (mCall fRepr (mCons (mLst (mCons (mVar 8) (mCons (mVar 8) (mNil)))) (mNil))))))))))))
theorem w__law_looked {P : Program} {w : World} {K : PySem.W.Frag} {mg : Str → Option Value} {base : Heap} {ad : Nat → Addr} {fd : Nat → FuncData} {tb : Nat → Addr × Addr} (T : Tx P K mg ad fd tb)
    {c__law_draw : List D → AH → Res D} (G__law_draw : FnD P w K mg base 1 (ad 11) (fd 11) ["_law_deal_here", "_law_bound"] c__law_draw) {c_Snapshots__live : List D → AH → Res D} (G_Snapshots__live :
    FnD P w K mg base 1 (ad 7) (fd 7) ["self"] c_Snapshots__live) {c_Snapshots__holders : List D → AH → Res D} (G_Snapshots__holders : FnD P w K mg base 1 (ad 8) (fd 8) ["self", "stamp"]
    c_Snapshots__holders) {c_Snapshots__last_within : List D → AH → Res D} (G_Snapshots__last_within : FnD P w K mg base 2 (ad 9) (fd 9) ["self", "first", "last"] c_Snapshots__last_within) :
    FnD P w K mg base 3 (ad 15) (fd 15) ["_law_deal_here", "_law_snapshots", "_law_here"] (m__law_looked c__law_draw c_Snapshots__live c_Snapshots__holders c_Snapshots__last_within) :=
  have nd := sc__law_looked.nd
FnD.of T.F__law_looked sc__law_looked fun cdv hcd A outer s H E hr gd tk hp => s_cons (s_set (i := 3) nd (d_sortSet rfl T.z_sorted T.z_set (d_lc (t := .tp [.nm 9, .nm 4]) false [("_law_number", 9),
    ("_law_stamp", 4)] rfl nd (i_sq (d_var 2)) (blkOk_by (N := nm__law_looked) (sc := defScope x__law_looked) (by decide +kernel)) (fun _ _ _ _ _ => tg_tp (ts := [.nm 9, .nm 4]) rfl (tgs_cons (tg_nm (i
    := 9) nd) (tgs_cons (tg_nm (i := 4) nd) (tgs_nil)))) (fun _ _ _ _ _ => l_nil) (fun _ _ _ _ _ => d_var 4) (sl := [9, 4]) (by decide)))) (s_cons (s_if (t_ne hr.units (d_repr gd hr.units T.z_repr
    (a_cons (d_meth0 T.K_Snapshots T.m_Snapshots__live G_Snapshots__live (hr.mono (by decide)) gd tk T.b_Snapshots__live (d_var 1)) (a_nil))) (d_repr gd hr.units T.z_repr (a_cons (d_tuple T.z_tuple
    (a_cons (d_var 3) (a_nil))) (a_nil)))) (s_one (s_ret (d_bl))) (s_nil)) (s_cons (s_for hp rfl (i_sq (d_sortSet rfl T.z_sorted T.z_set (d_add (d_var 3) (d_lst (a_cons (d_call G__law_draw (hr.mono
    (by decide)) gd tk T.g__law_draw T.F__law_draw.kp T.b__law_draw (a_cons (d_var 0) (a_cons (d_int) (a_nil)))) (a_nil)))))) (tg_nm (i := 4) nd) (s_one (s_if (t_ne hr.units (d_repr gd hr.units
    T.z_repr (a_cons (d_methK (ks := ["stamp"]) (pm := [0, 1]) T.K_Snapshots T.m_Snapshots__holders G_Snapshots__holders (hr.mono (by decide)) gd tk T.k_Snapshots__holders_stamp (d_var 1) (k_cons
    (d_var 4) (k_nil))) (a_nil))) (d_repr gd hr.units T.z_repr (a_cons (d_tuple T.z_tuple (a_cons (d_lc (t := .tp [.nm 9, .nm 10]) false [("_law_number", 9), ("_law_at", 10)] rfl nd (i_sq (d_var 2))
    (blkOk_by (N := nm__law_looked) (sc := defScope x__law_looked) (by decide +kernel)) (fun _ _ _ _ _ => tg_tp (ts := [.nm 9, .nm 10]) rfl (tgs_cons (tg_nm (i := 9) nd) (tgs_cons (tg_nm (i := 10) nd)
    (tgs_nil)))) (fun _ _ _ _ _ => l_one (t_eq hr.units (d_var 10) (d_var 4))) (fun _ _ _ _ _ => d_var 9) (sl := [9, 10]) (by decide)) (a_nil))) (a_nil)))) (s_one (s_ret (d_bl))) (s_nil)))) (s_cons
    (s_set (i := 5) nd (d_call G__law_draw (hr.mono (by decide)) gd tk T.g__law_draw T.F__law_draw.kp T.b__law_draw (a_cons (d_var 0) (a_cons (d_int) (a_nil))))) (s_cons (s_set (i := 6) nd (d_sub
    (d_add (d_var 5) (d_call G__law_draw (hr.mono (by decide)) gd tk T.g__law_draw T.F__law_draw.kp T.b__law_draw (a_cons (d_var 0) (a_cons (d_int) (a_nil))))) (d_int))) (s_cons (s_setLc (i := 7) (t :=
    .nm 4) false [("_law_stamp", 4)] rfl nd rfl rfl (sw_true rfl rfl rfl (by decide +kernel)) (i_sq (d_var 3)) (blkOk_by (N := nm__law_looked) (sc := defScope x__law_looked) (by decide +kernel)) (fun _
    _ _ _ _ => tg_nm (i := 4) nd) (fun _ _ _ _ _ => l_one (t_chn op_le op_le fCmp_ok fCmp_ok (d_var 5) (d_var 4) (d_var 6))) (fun _ _ _ _ _ => d_var 4) (sl := [4]) (by decide)) (s_cons (s_set (i := 8)
    nd (d_if (t_ne hr.units (d_var 7) (d_lst (a_nil))) (d_ix (d_var 7) (d_neg (d_int))) (d_non))) (s_one (s_ret (d_eq hr.units (d_repr gd hr.units T.z_repr (a_cons (d_lst (a_cons (d_meth T.K_Snapshots
    T.m_Snapshots__last_within G_Snapshots__last_within (hr.mono (by decide)) gd tk T.b_Snapshots__last_within (d_var 1) (a_cons (d_var 5) (a_cons (d_var 6) (a_nil)))) (a_cons (d_methK (ks := ["last",
    "first"]) (pm := [0, 2, 1]) T.K_Snapshots T.m_Snapshots__last_within G_Snapshots__last_within (hr.mono (by decide)) gd tk T.k_Snapshots__last_within_last_first (d_var 1) (k_cons (d_var 6) (k_cons
    (d_var 5) (k_nil)))) (a_nil)))) (a_nil))) (d_repr gd hr.units T.z_repr (a_cons (d_lst (a_cons (d_var 8) (a_cons (d_var 8) (a_nil)))) (a_nil))))))))))))
noncomputable def ms_law (c__law_deal : List D → AH → Res D) (c_Snapshots__init : List D → AH → Res D) (c__law_draw : List D → AH → Res D) (c__law_pick : List D → AH → Res D) (c__law_looked : List D →
    AH → Res D) (c_Snapshots__begin : List D → AH → Res D) (c__law_whole : List D → AH → Res D) (c__law_closed : List D → AH → Res D) : MS := mSeq (mSet 1 (mCallF 2 c__law_deal (mCons (mVar 0) (mCons
    (mK (.int 0)) (mNil))))) (mSeq (mPar3 2 3 4 (mCons (mMake "Snapshots" 1 c_Snapshots__init mNil) (mCons (mNew (mNil)) (mCons (mK (.int 0)) (mNil))))) (mSeq (mFor (mR1 (mCons (mOp fAdd (mK (.int 10))
    (mCallF 2 c__law_draw (mCons (mVar 1) (mCons (mK (.int 21)) (mNil))))) (mNil))) (.nm 5) (mSeq (mIfS (mTst (mOp fLt (mCallF 2 c__law_draw (mCons (mVar 1) (mCons (mK (.int 5)) (mNil)))) (mK (.int
    3)))) (mSeq (mSet 6 (mIf (mTst (mOp fGt (mCallF 2 c__law_draw (mCons (mVar 1) (mCons (mK (.int 5)) (mNil)))) (mK (.int 0)))) (mCallF 2 c__law_draw (mCons (mVar 1) (mCons (mK (.int 10)) (mNil))))
    (mCallF 2 c__law_pick (mCons (mVar 1) (mCons (mLst (mCons (mNeg (mK (.int 1))) (mCons (mK .non) (mCons (mK (.bl true)) (mCons (mK (.str "1")) (mCons (mTup (mNil)) (mCons (mOp fPow (mK (.int 10))
    (mK (.int 30))) (mNil)))))))) (mNil)))))) (mTry (mSeq (mSet 7 (mMethK "Snapshots" "begin" 1 2 [0, 1] c_Snapshots__begin (mVar 2) (mCons (mVar 6) (mNil)))) (mSeq (mSet 4 (mOp fAdd (mVar 4) (mK (.int
    1)))) (mSeq (mDrop (mMet fApp (mVar 3) (mCons (mTup (mCons (mVar 4) (mCons (mVar 6) (mNil)))) (mNil)))) (mIfS (mOr (mTst (mOp (fEq true) (mCall fRepr (mCons (mVar 7) (mNil))) (mCall fRepr (mCons
    (mVar 4) (mNil))))) (mOr (mNot (mTst (mCallF 1 c__law_whole (mCons (mVar 6) (mNil))))) (mTst (mOp fLt (mVar 6) (mK (.int 0)))))) (mRet (mK (.bl false))) (mNext))))) [⟨"InvalidSize",
    ["InvalidSize"], ["NoName"], some 10, fun C a d => mIfS (mOr (mTst (mOp (fEq true) (mXf C ["InvalidSize"] a d "word" (mVar 10)) (mK (.str "stamp")))) (mAnd (mTst (mCallF 1 c__law_whole (mCons (mVar
    6) (mNil)))) (mTst (mOp fGe (mVar 6) (mK (.int 0)))))) (mRet (mK (.bl false))) (mNext)⟩])) (mSeq (mSet 7 (mCallF 2 c__law_pick (mCons (mVar 1) (mCons (mOp fAdd (mLc false (mSq (mVar 3)) (.tp [.nm
    11, .nm 12]) (mYes) (mVar 11) [11, 12]) (mLst (mCons (mK (.int 0)) (mCons (mOp fAdd (mVar 4) (mK (.int 1))) (mCons (mK .non) (mCons (mK (.bl true)) (mCons (mK (.str "1")) (mCons (mNeg (mK (.int
    1))) (mCons (mCallF 2 c__law_draw (mCons (mVar 1) (mCons (mOp fAdd (mVar 4) (mK (.int 1))) (mNil)))) (mNil)))))))))) (mNil))))) (mSeq (mSet 8 (mLc false (mSq (mVar 3)) (.tp [.nm 11, .nm 12]) (mAnd
    (mTst (mCallF 1 c__law_whole (mCons (mVar 7) (mNil)))) (mTst (mOp (fEq false) (mVar 11) (mVar 7)))) (mVar 12) [11, 12])) (mSeq (mSet 9 (mIf (mTst (mOp (fEq true) (mVar 8) (mLst (mNil)))) (mTup
    (mCons (mOp fIx (mVar 8) (mK (.int 0))) (mCons (mK (.str "told")) (mNil)))) (mTup (mCons (mVar 7) (mCons (mK (.str "refused")) (mNil)))))) (mSeq (mIfS (mOr (mTst (mOp (fEq true) (mCall fRepr (mCons
    (mCallF 3 c__law_closed (mCons (mVar 2) (mCons (mVar 7) (mCons (mK (.str "ask")) (mNil))))) (mNil))) (mCall fRepr (mCons (mVar 9) (mNil))))) (mTst (mOp (fEq true) (mCall fRepr (mCons (mCallF 3
    c__law_closed (mCons (mVar 2) (mCons (mVar 7) (mCons (mK (.str "close")) (mNil))))) (mNil))) (mCall fRepr (mCons (mVar 9) (mNil)))))) (mRet (mK (.bl false))) (mNext)) (mSet 3 (mLc true (mSq (mVar
    3)) (.tp [.nm 11, .nm 12]) (mOr (mTst (mOp (fEq false) (mVar 8) (mLst (mNil)))) (mTst (mOp (fEq true) (mVar 11) (mVar 7)))) (mTup (mCons (mVar 11) (mCons (mVar 12) (mNil)))) [11, 12]))))))) (mIfS
    (mNot (mTst (mCallF 3 c__law_looked (mCons (mVar 1) (mCons (mVar 2) (mCons (mVar 3) (mNil))))))) (mRet (mK (.bl false))) (mNext)))) (mRet (mK (.bl true)))))
noncomputable def m_law (c__law_deal : List D → AH → Res D) (c_Snapshots__init : List D → AH → Res D) (c__law_draw : List D → AH → Res D) (c__law_pick : List D → AH → Res D) (c__law_looked : List D →
    AH → Res D) (c_Snapshots__begin : List D → AH → Res D) (c__law_whole : List D → AH → Res D) (c__law_closed : List D → AH → Res D) : List D → AH → Res D := mFun 13 (ms_law c__law_deal
    c_Snapshots__init c__law_draw c__law_pick c__law_looked c_Snapshots__begin c__law_whole c__law_closed)
theorem w_law {P : Program} {w : World} {K : PySem.W.Frag} {mg : Str → Option Value} {base : Heap} {ad : Nat → Addr} {fd : Nat → FuncData} {tb : Nat → Addr × Addr} (T : Tx P K mg ad fd tb) {c__law_deal
    : List D → AH → Res D} (G__law_deal : FnD P w K mg base 1 (ad 10) (fd 10) ["_law_script", "_law_base"] c__law_deal) {c_Snapshots__init : List D → AH → Res D} (G_Snapshots__init : FnD P w K mg base
    1 (ad 2) (fd 2) ["self"] c_Snapshots__init) {c__law_draw : List D → AH → Res D} (G__law_draw : FnD P w K mg base 1 (ad 11) (fd 11) ["_law_deal_here", "_law_bound"] c__law_draw) {c__law_pick : List
    D → AH → Res D} (G__law_pick : FnD P w K mg base 2 (ad 12) (fd 12) ["_law_deal_here", "_law_some"] c__law_pick) {c__law_looked : List D → AH → Res D} (G__law_looked : FnD P w K mg base 3 (ad 15)
    (fd 15) ["_law_deal_here", "_law_snapshots", "_law_here"] c__law_looked) {c_Snapshots__begin : List D → AH → Res D} (G_Snapshots__begin : FnD P w K mg base 3 (ad 3) (fd 3) ["self", "stamp"]
    c_Snapshots__begin) {c__law_whole : List D → AH → Res D} (G__law_whole : FnD P w K mg base 1 (ad 13) (fd 13) ["_law_value"] c__law_whole) {c__law_closed : List D → AH → Res D} (G__law_closed : FnD
    P w K mg base 4 (ad 14) (fd 14) ["_law_snapshots", "_law_number", "_law_word"] c__law_closed) (H__law_whole : FnH P w K mg base 1 (ad 13) (fd 13) ["_law_value"] c__law_whole) :
    FnD P w K mg base 5 (ad 16) (fd 16) ["_law_script"] (m_law c__law_deal c_Snapshots__init c__law_draw c__law_pick c__law_looked c_Snapshots__begin c__law_whole c__law_closed) :=
  have nd := sc_law.nd
FnD.of (ms := ms_law c__law_deal c_Snapshots__init c__law_draw c__law_pick c__law_looked c_Snapshots__begin c__law_whole c__law_closed) T.F_law sc_law fun cdv hcd A outer s H E hr gd tk hp => s_cons
    (s_set (i := 1) nd (d_call G__law_deal (hr.mono (by decide)) gd tk T.g__law_deal T.F__law_deal.kp T.b__law_deal (a_cons (d_var 0) (a_cons (d_int) (a_nil))))) (s_cons (s_par3 (i := 2) (j := 3) (l :=
    4) rfl nd rfl rfl rfl (by decide) (by decide) (by decide) rfl rfl rfl (a_cons (d_make0 T.K_Snapshots T.M_Snapshots G_Snapshots__init (hr.mono (by decide)) gd tk T.g_Snapshots T.b_Snapshots__init)
    (a_cons (d_new (a_nil)) (a_cons (d_int) (a_nil)))) (by rfl)) (s_cons (s_for hp rfl (i_r1 T.z_range (a_cons (d_add (d_int) (d_call G__law_draw (hr.mono (by decide)) gd tk T.g__law_draw
    T.F__law_draw.kp T.b__law_draw (a_cons (d_var 1) (a_cons (d_int) (a_nil))))) (a_nil))) (tg_nm (i := 5) nd) (s_cons (s_if (t_lt (d_call G__law_draw (hr.mono (by decide)) gd tk T.g__law_draw
    T.F__law_draw.kp T.b__law_draw (a_cons (d_var 1) (a_cons (d_int) (a_nil)))) (d_int)) (s_cons (s_set (i := 6) nd (d_if (t_gt (d_call G__law_draw (hr.mono (by decide)) gd tk T.g__law_draw
    T.F__law_draw.kp T.b__law_draw (a_cons (d_var 1) (a_cons (d_int) (a_nil)))) (d_int)) (d_call G__law_draw (hr.mono (by decide)) gd tk T.g__law_draw T.F__law_draw.kp T.b__law_draw (a_cons (d_var 1)
    (a_cons (d_int) (a_nil)))) (d_call G__law_pick (hr.mono (by decide)) gd tk T.g__law_pick T.F__law_pick.kp T.b__law_pick (a_cons (d_var 1) (a_cons (d_lst (a_cons (d_neg (d_int)) (a_cons (d_non)
    (a_cons (d_bl) (a_cons (d_str) (a_cons (d_tup (a_nil)) (a_cons (d_pow (d_int) (d_int)) (a_nil)))))))) (a_nil)))))) (s_one (s_try rfl rfl nd tk (fun W pn xe tk hp => s_cons (s_set (i := 7) nd
    (d_methK (ks := ["stamp"]) (pm := [0, 1]) T.K_Snapshots T.m_Snapshots__begin G_Snapshots__begin (hr.mono (by decide)) gd tk T.k_Snapshots__begin_stamp (d_var 2) (k_cons (d_var 6) (k_nil)))) (s_cons
    (s_set (i := 4) nd (d_add (d_var 4) (d_int))) (s_cons (s_expr (d_app (d_var 3) (a_cons (d_tup (a_cons (d_var 4) (a_cons (d_var 6) (a_nil)))) (a_nil)))) (s_one (s_if (PW.pt (w_or (t_ne hr.units
    (d_repr gd hr.units T.z_repr (a_cons (d_var 7) (a_nil))) (d_repr gd hr.units T.z_repr (a_cons (d_var 4) (a_nil)))) (w_or (t_not (t_val (d_call G__law_whole (hr.mono (by decide)) gd tk
    T.g__law_whole T.F__law_whole.kp T.b__law_whole (a_cons (d_var 6) (a_nil))))) (w_or1 (t_lt (d_var 6) (d_int)))))) (s_one (s_ret (d_bl))) (s_nil)))))) (.cons (hdF_own T.K_InvalidSize (subF_cons
    T.K_InvalidSize T.u_InvalidSize_InvalidSize (subF_nil)) (subF_cons T.K_NoName T.u_NoName_InvalidSize (subF_nil))) (HsM.nil)) (.named (i := 10) rfl rfl ⟨by rfl, by decide, .inl T.g_InvalidSize⟩
    (suite_ok fun a oe cls d pn C hz hf hC => s_one (s_if (PW.pt (w_or (t_ne hr.units (d_xf (xfF_cons T.K_InvalidSize T.n_InvalidSize_word (xfF_nil)) hC hz hf (d_var 10)) (d_str)) (w_or1 (PW.pt (w_and
    (t_val (d_callS H__law_whole hr gd T.g__law_whole T.F__law_whole.kp T.b__law_whole (a_cons (d_var 6) (a_nil)))) (w_and1 (t_ge (d_var 6) (d_int)))))))) (s_one (s_ret (d_bl))) (s_nil)))
    (HsOk.nil))))) (s_cons (s_set (i := 7) nd (d_call G__law_pick (hr.mono (by decide)) gd tk T.g__law_pick T.F__law_pick.kp T.b__law_pick (a_cons (d_var 1) (a_cons (d_add (d_lc (t := .tp [.nm 11, .nm
    12]) false [("_law_one", 11), ("_law_at", 12)] rfl nd (i_sq (d_var 3)) (blkOk_by (N := nm_law) (sc := defScope x_law) (by decide +kernel)) (fun _ _ _ _ _ => tg_tp (ts := [.nm 11, .nm 12]) rfl
    (tgs_cons (tg_nm (i := 11) nd) (tgs_cons (tg_nm (i := 12) nd) (tgs_nil)))) (fun _ _ _ _ _ => l_nil) (fun _ _ _ _ _ => d_var 11) (sl := [11, 12]) (by decide)) (d_lst (a_cons (d_int) (a_cons (d_add
    (d_var 4) (d_int)) (a_cons (d_non) (a_cons (d_bl) (a_cons (d_str) (a_cons (d_neg (d_int)) (a_cons (d_call G__law_draw (hr.mono (by decide)) gd tk T.g__law_draw T.F__law_draw.kp T.b__law_draw
    (a_cons (d_var 1) (a_cons (d_add (d_var 4) (d_int)) (a_nil)))) (a_nil)))))))))) (a_nil))))) (s_cons (s_set (i := 8) nd (d_lc (t := .tp [.nm 11, .nm 12]) false [("_law_one", 11), ("_law_at", 12)]
    rfl nd (i_sq (d_var 3)) (blkOk_by (N := nm_law) (sc := defScope x_law) (by decide +kernel)) (fun _ _ _ _ _ => tg_tp (ts := [.nm 11, .nm 12]) rfl (tgs_cons (tg_nm (i := 11) nd) (tgs_cons (tg_nm (i
    := 12) nd) (tgs_nil)))) (fun _ _ _ _ _ => l_one (PW.pt (w_and (t_val (d_call G__law_whole (hr.mono (by decide)) gd takes0 T.g__law_whole T.F__law_whole.kp T.b__law_whole (a_cons (d_var 7)
    (a_nil)))) (w_and1 (t_eq hr.units (d_var 11) (d_var 7)))))) (fun _ _ _ _ _ => d_var 12) (sl := [11, 12]) (by decide))) (s_cons (s_set (i := 9) nd (d_if (t_ne hr.units (d_var 8) (d_lst (a_nil)))
    (d_tup (a_cons (d_ix (d_var 8) (d_int)) (a_cons (d_str) (a_nil)))) (d_tup (a_cons (d_var 7) (a_cons (d_str) (a_nil)))))) (s_cons (s_if (PW.pt (w_or (t_ne hr.units (d_repr gd hr.units T.z_repr
    (a_cons (d_call G__law_closed (hr.mono (by decide)) gd tk T.g__law_closed T.F__law_closed.kp T.b__law_closed (a_cons (d_var 2) (a_cons (d_var 7) (a_cons (d_str) (a_nil))))) (a_nil))) (d_repr gd
    hr.units T.z_repr (a_cons (d_var 9) (a_nil)))) (w_or1 (t_ne hr.units (d_repr gd hr.units T.z_repr (a_cons (d_call G__law_closed (hr.mono (by decide)) gd tk T.g__law_closed T.F__law_closed.kp
    T.b__law_closed (a_cons (d_var 2) (a_cons (d_var 7) (a_cons (d_str) (a_nil))))) (a_nil))) (d_repr gd hr.units T.z_repr (a_cons (d_var 9) (a_nil))))))) (s_one (s_ret (d_bl))) (s_nil)) (s_one
    (s_setLc (i := 3) (t := .tp [.nm 11, .nm 12]) true [("_law_one", 11), ("_law_at", 12)] rfl nd rfl rfl (sw_true rfl rfl rfl (by decide +kernel)) (i_sq (d_var 3)) (blkOk_by (N := nm_law) (sc :=
    defScope x_law) (by decide +kernel)) (fun _ _ _ _ _ => tg_tp (ts := [.nm 11, .nm 12]) rfl (tgs_cons (tg_nm (i := 11) nd) (tgs_cons (tg_nm (i := 12) nd) (tgs_nil)))) (fun _ _ _ _ _ => l_one (PW.pt
    (w_or (t_eq hr.units (d_var 8) (d_lst (a_nil))) (w_or1 (t_ne hr.units (d_var 11) (d_var 7)))))) (fun _ _ _ _ _ => d_tup (a_cons (d_var 11) (a_cons (d_var 12) (a_nil)))) (sl := [11, 12])
    (by decide)))))))) (s_one (s_if (t_not (t_val (d_call G__law_looked (hr.mono (by decide)) gd tk T.g__law_looked T.F__law_looked.kp T.b__law_looked (a_cons (d_var 1) (a_cons (d_var 2) (a_cons (d_var
    3) (a_nil))))))) (s_one (s_ret (d_bl))) (s_nil))))) (s_one (s_ret (d_bl)))))
/-! ### the facts, gathered -/
theorem tx_mk {P : Program} {K : PySem.W.Frag} {h : Heap} {mg : Str → Option Value} (X : K.In h) (G : h.Ns mainGlobals mg) {f0 f1 f2 f3 f4 f5 f6 f7 f8 f9 f10 f11 f12 f13 f14 f15 f16 f17 f18 f19 f21 f22 f23 : Addr}
    {oc0 kV0 dc0 pm0 cd0 ct0 : Value} {od0 an0 : Option Addr} {sl0 : Array (Option Value)}
    (a0 : PySem.W.nsIn K mainGlobals "is_integer" = some (some (.ref f0)))
    (l0 : K.lookup f0 = some ⟨oc0, od0, .func (PySem.W.fnOf "is_integer" "is_integer" (defArgs x_is_integer) (defBody x_is_integer) (defScope x_is_integer) .none kV0 dc0 pm0 an0 cd0 ct0), sl0⟩)
    (c0 : PySem.W.codeIn K cd0 "is_integer" = true)
    (k0 : PySem.W.keepIn K (.ref f0) = true)
    {oc1 kV1 dc1 pm1 cd1 ct1 : Value} {od1 an1 : Option Addr} {sl1 : Array (Option Value)}
    (a1 : PySem.W.nsIn K mainGlobals "is_number" = some (some (.ref f1)))
    (l1 : K.lookup f1 = some ⟨oc1, od1, .func (PySem.W.fnOf "is_number" "is_number" (defArgs x_is_number) (defBody x_is_number) (defScope x_is_number) .none kV1 dc1 pm1 an1 cd1 ct1), sl1⟩)
    (c1 : PySem.W.codeIn K cd1 "is_number" = true)
    (k1 : PySem.W.keepIn K (.ref f1) = true)
    {oc2 kV2 dc2 pm2 cd2 ct2 : Value} {od2 an2 : Option Addr} {sl2 : Array (Option Value)}
    (a2 : PySem.W.findIn K (.ref f23) "__init__" = some (some (.ref f2)))
    (b2 : PySem.W.isFn K (.ref f2) = true)
    (l2 : K.lookup f2 = some ⟨oc2, od2, .func (PySem.W.fnOf "__init__" "Snapshots.__init__" (defArgs x_Snapshots__init) (defBody x_Snapshots__init) (defScope x_Snapshots__init) .none kV2 dc2 pm2 an2 cd2 ct2), sl2⟩)
    (c2 : PySem.W.codeIn K cd2 "Snapshots.__init__" = true)
    (k2 : PySem.W.keepIn K (.ref f2) = true)
    {oc3 kV3 dc3 pm3 cd3 ct3 : Value} {od3 an3 : Option Addr} {sl3 : Array (Option Value)}
    (a3 : PySem.W.findIn K (.ref f23) "begin" = some (some (.ref f3)))
    (b3 : PySem.W.isFn K (.ref f3) = true)
    (l3 : K.lookup f3 = some ⟨oc3, od3, .func (PySem.W.fnOf "begin" "Snapshots.begin" (defArgs x_Snapshots__begin) (defBody x_Snapshots__begin) (defScope x_Snapshots__begin) .none kV3 dc3 pm3 an3 cd3 ct3), sl3⟩)
    (c3 : PySem.W.codeIn K cd3 "Snapshots.begin" = true)
    (k3 : PySem.W.keepIn K (.ref f3) = true)
    {oc4 kV4 dc4 pm4 cd4 ct4 : Value} {od4 an4 : Option Addr} {sl4 : Array (Option Value)}
    (a4 : PySem.W.findIn K (.ref f23) "lives_below" = some (some (.ref f4)))
    (b4 : PySem.W.isFn K (.ref f4) = true)
    (l4 : K.lookup f4 = some ⟨oc4, od4, .func (PySem.W.fnOf "lives_below" "Snapshots.lives_below" (defArgs x_Snapshots__lives_below) (defBody x_Snapshots__lives_below) (defScope x_Snapshots__lives_below) .none kV4 dc4 pm4 an4 cd4 ct4), sl4⟩)
    (c4 : PySem.W.codeIn K cd4 "Snapshots.lives_below" = true)
    (k4 : PySem.W.keepIn K (.ref f4) = true)
    {oc5 kV5 dc5 pm5 cd5 ct5 : Value} {od5 an5 : Option Addr} {sl5 : Array (Option Value)}
    (a5 : PySem.W.findIn K (.ref f23) "stamp_of" = some (some (.ref f5)))
    (b5 : PySem.W.isFn K (.ref f5) = true)
    (l5 : K.lookup f5 = some ⟨oc5, od5, .func (PySem.W.fnOf "stamp_of" "Snapshots.stamp_of" (defArgs x_Snapshots__stamp_of) (defBody x_Snapshots__stamp_of) (defScope x_Snapshots__stamp_of) .none kV5 dc5 pm5 an5 cd5 ct5), sl5⟩)
    (c5 : PySem.W.codeIn K cd5 "Snapshots.stamp_of" = true)
    (k5 : PySem.W.keepIn K (.ref f5) = true)
    {oc6 kV6 dc6 pm6 cd6 ct6 : Value} {od6 an6 : Option Addr} {sl6 : Array (Option Value)}
    (a6 : PySem.W.findIn K (.ref f23) "close" = some (some (.ref f6)))
    (b6 : PySem.W.isFn K (.ref f6) = true)
    (l6 : K.lookup f6 = some ⟨oc6, od6, .func (PySem.W.fnOf "close" "Snapshots.close" (defArgs x_Snapshots__close) (defBody x_Snapshots__close) (defScope x_Snapshots__close) .none kV6 dc6 pm6 an6 cd6 ct6), sl6⟩)
    (c6 : PySem.W.codeIn K cd6 "Snapshots.close" = true)
    (k6 : PySem.W.keepIn K (.ref f6) = true)
    {oc7 kV7 dc7 pm7 cd7 ct7 : Value} {od7 an7 : Option Addr} {sl7 : Array (Option Value)}
    (a7 : PySem.W.findIn K (.ref f23) "live" = some (some (.ref f7)))
    (b7 : PySem.W.isFn K (.ref f7) = true)
    (l7 : K.lookup f7 = some ⟨oc7, od7, .func (PySem.W.fnOf "live" "Snapshots.live" (defArgs x_Snapshots__live) (defBody x_Snapshots__live) (defScope x_Snapshots__live) .none kV7 dc7 pm7 an7 cd7 ct7), sl7⟩)
    (c7 : PySem.W.codeIn K cd7 "Snapshots.live" = true)
    (k7 : PySem.W.keepIn K (.ref f7) = true)
    {oc8 kV8 dc8 pm8 cd8 ct8 : Value} {od8 an8 : Option Addr} {sl8 : Array (Option Value)}
    (a8 : PySem.W.findIn K (.ref f23) "holders" = some (some (.ref f8)))
    (b8 : PySem.W.isFn K (.ref f8) = true)
    (l8 : K.lookup f8 = some ⟨oc8, od8, .func (PySem.W.fnOf "holders" "Snapshots.holders" (defArgs x_Snapshots__holders) (defBody x_Snapshots__holders) (defScope x_Snapshots__holders) .none kV8 dc8 pm8 an8 cd8 ct8), sl8⟩)
    (c8 : PySem.W.codeIn K cd8 "Snapshots.holders" = true)
    (k8 : PySem.W.keepIn K (.ref f8) = true)
    {oc9 kV9 dc9 pm9 cd9 ct9 : Value} {od9 an9 : Option Addr} {sl9 : Array (Option Value)}
    (a9 : PySem.W.findIn K (.ref f23) "last_within" = some (some (.ref f9)))
    (b9 : PySem.W.isFn K (.ref f9) = true)
    (l9 : K.lookup f9 = some ⟨oc9, od9, .func (PySem.W.fnOf "last_within" "Snapshots.last_within" (defArgs x_Snapshots__last_within) (defBody x_Snapshots__last_within) (defScope x_Snapshots__last_within) .none kV9 dc9 pm9 an9 cd9 ct9), sl9⟩)
    (c9 : PySem.W.codeIn K cd9 "Snapshots.last_within" = true)
    (k9 : PySem.W.keepIn K (.ref f9) = true)
    {oc10 kV10 dc10 pm10 cd10 ct10 : Value} {od10 an10 : Option Addr} {sl10 : Array (Option Value)}
    (a10 : PySem.W.nsIn K mainGlobals "_law_deal" = some (some (.ref f10)))
    (l10 : K.lookup f10 = some ⟨oc10, od10, .func (PySem.W.fnOf "_law_deal" "_law_deal" (defArgs x__law_deal) (defBody x__law_deal) (defScope x__law_deal) .none kV10 dc10 pm10 an10 cd10 ct10), sl10⟩)
    (c10 : PySem.W.codeIn K cd10 "_law_deal" = true)
    (k10 : PySem.W.keepIn K (.ref f10) = true)
    {oc11 kV11 dc11 pm11 cd11 ct11 : Value} {od11 an11 : Option Addr} {sl11 : Array (Option Value)}
    (a11 : PySem.W.nsIn K mainGlobals "_law_draw" = some (some (.ref f11)))
    (l11 : K.lookup f11 = some ⟨oc11, od11, .func (PySem.W.fnOf "_law_draw" "_law_draw" (defArgs x__law_draw) (defBody x__law_draw) (defScope x__law_draw) .none kV11 dc11 pm11 an11 cd11 ct11), sl11⟩)
    (c11 : PySem.W.codeIn K cd11 "_law_draw" = true)
    (k11 : PySem.W.keepIn K (.ref f11) = true)
    {oc12 kV12 dc12 pm12 cd12 ct12 : Value} {od12 an12 : Option Addr} {sl12 : Array (Option Value)}
    (a12 : PySem.W.nsIn K mainGlobals "_law_pick" = some (some (.ref f12)))
    (l12 : K.lookup f12 = some ⟨oc12, od12, .func (PySem.W.fnOf "_law_pick" "_law_pick" (defArgs x__law_pick) (defBody x__law_pick) (defScope x__law_pick) .none kV12 dc12 pm12 an12 cd12 ct12), sl12⟩)
    (c12 : PySem.W.codeIn K cd12 "_law_pick" = true)
    (k12 : PySem.W.keepIn K (.ref f12) = true)
    {oc13 kV13 dc13 pm13 cd13 ct13 : Value} {od13 an13 : Option Addr} {sl13 : Array (Option Value)}
    (a13 : PySem.W.nsIn K mainGlobals "_law_whole" = some (some (.ref f13)))
    (l13 : K.lookup f13 = some ⟨oc13, od13, .func (PySem.W.fnOf "_law_whole" "_law_whole" (defArgs x__law_whole) (defBody x__law_whole) (defScope x__law_whole) .none kV13 dc13 pm13 an13 cd13 ct13), sl13⟩)
    (c13 : PySem.W.codeIn K cd13 "_law_whole" = true)
    (k13 : PySem.W.keepIn K (.ref f13) = true)
    {oc14 kV14 dc14 pm14 cd14 ct14 : Value} {od14 an14 : Option Addr} {sl14 : Array (Option Value)}
    (a14 : PySem.W.nsIn K mainGlobals "_law_closed" = some (some (.ref f14)))
    (l14 : K.lookup f14 = some ⟨oc14, od14, .func (PySem.W.fnOf "_law_closed" "_law_closed" (defArgs x__law_closed) (defBody x__law_closed) (defScope x__law_closed) .none kV14 dc14 pm14 an14 cd14 ct14), sl14⟩)
    (c14 : PySem.W.codeIn K cd14 "_law_closed" = true)
    (k14 : PySem.W.keepIn K (.ref f14) = true)
    {oc15 kV15 dc15 pm15 cd15 ct15 : Value} {od15 an15 : Option Addr} {sl15 : Array (Option Value)}
    (a15 : PySem.W.nsIn K mainGlobals "_law_looked" = some (some (.ref f15)))
    (l15 : K.lookup f15 = some ⟨oc15, od15, .func (PySem.W.fnOf "_law_looked" "_law_looked" (defArgs x__law_looked) (defBody x__law_looked) (defScope x__law_looked) .none kV15 dc15 pm15 an15 cd15 ct15), sl15⟩)
    (c15 : PySem.W.codeIn K cd15 "_law_looked" = true)
    (k15 : PySem.W.keepIn K (.ref f15) = true)
    {oc16 kV16 dc16 pm16 cd16 ct16 : Value} {od16 an16 : Option Addr} {sl16 : Array (Option Value)}
    (a16 : PySem.W.nsIn K mainGlobals "law" = some (some (.ref f16)))
    (l16 : K.lookup f16 = some ⟨oc16, od16, .func (PySem.W.fnOf "law" "law" (defArgs x_law) (defBody x_law) (defScope x_law) .none kV16 dc16 pm16 an16 cd16 ct16), sl16⟩)
    (c16 : PySem.W.codeIn K cd16 "law" = true)
    (k16 : PySem.W.keepIn K (.ref f16) = true)
    (ca23 : PySem.W.nsIn K mainGlobals "Snapshots" = some (some (.ref f23)))
    (cb23 : PySem.W.plainGet K f23 Str.empty = true)
    (cx23 : PySem.W.hasDictIn K f23 = true)
    (cy23 : PySem.W.plainOver K f23 = true)
    (ce23 : PySem.W.findIn K (.ref f23) "__setattr__" = some (some (.builtin "object.__setattr__")))
    (cf23 : PySem.W.makesIn K f23 = true)
    (cg23 : PySem.W.keepIn K (.ref f23) = true)
    (cn23_last : PySem.W.findIn K (.ref f23) "last" = some none)
    (cn23_numbers : PySem.W.findIn K (.ref f23) "numbers" = some none)
    (cn23_places : PySem.W.findIn K (.ref f23) "places" = some none)
    (cn23_told : PySem.W.findIn K (.ref f23) "told" = some none)
    (sp : PySem.W.specialIn K (.builtin "object.__class__") "__get__" = some (some (.builtin "getset_descriptor.__get__")))
    (tp : PySem.W.takesIn K (.builtin "object.__class__") = some true)
    (tq : PySem.W.nsIn K cStatics "thirdparty.any" = some none)
    (tr : (P.main.scope.names.lookup ("super" : Str)).isSome = false)
    (ea17 : PySem.W.nsIn K mainGlobals "StoreError" = some (some (.ref f17)))
    (eb17 : PySem.W.findIn K (.ref f17) "__getattribute__" = some (some (.builtin "BaseException.__getattribute__")))
    (ec17 : PySem.W.findIn K (.ref f17) "__getattr__" = some none)
    (ed17 : PySem.W.subIn K (.ref f17) (.type "BaseException") = some true)
    (ee17 : PySem.W.hasDictIn K f17 = true)
    (ef17 : PySem.W.findIn K (.ref f17) "__class__" = some (some (.builtin "object.__class__")))
    (eg17 : PySem.W.mroIn K f17 (.type "object") = some true)
    (eh17 : PySem.W.typeIn K (.ref f17) = some (.type "type"))
    (ei17 : PySem.W.keepIn K (.ref f17) = true)
    (ej17 : PySem.W.subIn K (.ref f17) (.ref f17) = some true)
    (ea18 : PySem.W.nsIn K mainGlobals "InvalidSize" = some (some (.ref f18)))
    (eb18 : PySem.W.findIn K (.ref f18) "__getattribute__" = some (some (.builtin "BaseException.__getattribute__")))
    (ec18 : PySem.W.findIn K (.ref f18) "__getattr__" = some none)
    (ed18 : PySem.W.subIn K (.ref f18) (.type "BaseException") = some true)
    (ee18 : PySem.W.hasDictIn K f18 = true)
    (ef18 : PySem.W.findIn K (.ref f18) "__class__" = some (some (.builtin "object.__class__")))
    (eg18 : PySem.W.mroIn K f18 (.type "object") = some true)
    (eh18 : PySem.W.typeIn K (.ref f18) = some (.type "type"))
    (ei18 : PySem.W.keepIn K (.ref f18) = true)
    (ej18 : PySem.W.subIn K (.ref f18) (.ref f18) = some true)
    (ea19 : PySem.W.nsIn K mainGlobals "NoName" = some (some (.ref f19)))
    (eb19 : PySem.W.findIn K (.ref f19) "__getattribute__" = some (some (.builtin "BaseException.__getattribute__")))
    (ec19 : PySem.W.findIn K (.ref f19) "__getattr__" = some none)
    (ed19 : PySem.W.subIn K (.ref f19) (.type "BaseException") = some true)
    (ee19 : PySem.W.hasDictIn K f19 = true)
    (ef19 : PySem.W.findIn K (.ref f19) "__class__" = some (some (.builtin "object.__class__")))
    (eg19 : PySem.W.mroIn K f19 (.type "object") = some true)
    (eh19 : PySem.W.typeIn K (.ref f19) = some (.type "type"))
    (ei19 : PySem.W.keepIn K (.ref f19) = true)
    (ej19 : PySem.W.subIn K (.ref f19) (.ref f19) = some true)
    (en18_word : PySem.W.findIn K (.ref f18) "word" = some none)
    (en19_name : PySem.W.findIn K (.ref f19) "name" = some none)
    (eu18_18 : PySem.W.subIn K (.ref f18) (.ref f18) = some true)
    (eu18_19 : PySem.W.subIn K (.ref f18) (.ref f19) = some false)
    (eu19_18 : PySem.W.subIn K (.ref f19) (.ref f18) = some false)
    (eu19_19 : PySem.W.subIn K (.ref f19) (.ref f19) = some true)
    (et19_KeyError : PySem.W.subIn K (.ref f19) (.type "KeyError") = some true)
    {nm18 qn18 : Str} {N18 : Addr} {bs18 bm18 : List Value} {sn18 : List Str} {sb18 : List Value} {ab18 : Bool} {cl18 : Option Bool} {dd18 : Option Addr} {ka18 kb18 kc18 kd18 ke18 : Option Value}
    {oc18 kV18 dc18 pm18 ct18 ccl18 cel18 : Value} {od18 an18 cdd18 cld18 : Option Addr} {sl18 ccs18 csl18 : Array (Option Value)} {qual18 file18 : Str} {cda18 cc18 : Addr} {vs18 : Array Value} {tf18 : Tok}
    (xa18 : K.lookup f18 = some (excClassObj nm18 qn18 f18 N18 bs18 bm18 true sn18 sb18 ab18 cl18 dd18 ka18 kb18 kc18 kd18 ke18 "Exception.__new__"))
    (xb18 : ErE.Line [.type "Exception", .type "BaseException", .type "object"] bm18)
    (xc18 : PySem.W.findIn K (.ref f18) "__setattr__" = some (some (.builtin "object.__setattr__")))
    (xd18 : PySem.W.findIn K (.ref f18) "__init__" = some (some (.ref f21)))
    (xe18 : PySem.W.typeIn K (.ref f21) = some (.type "function"))
    (xf18 : PySem.W.ks_superIn K f18 f18 "__init__" = some (some (.builtin "Exception.__init__")))
    (xg18 : PySem.W.subIn K (.ref f18) (.type "Exception") = some true)
    (xh18 : K.lookup f21 = some ⟨oc18, od18, .func (PySem.W.ksFn "__init__" qual18 (defArgs (methAt x_InvalidSize 0)) (defBody (methAt x_InvalidSize 0)) (defScope (methAt x_InvalidSize 0)) .none kV18 dc18 pm18 an18 (.ref cda18) ct18 cc18), sl18⟩)
    (xi18 : PySem.W.codeIn K (.ref cda18) qual18 = true)
    (xj18 : K.lookup cda18 = some ⟨ccl18, cdd18, .fields vs18, ccs18⟩)
    (xk18 : vs18[2]? = some (.str file18 tf18))
    (xl18 : ((P.main.file : Str) == file18) = true)
    (xm18 : K.lookup cc18 = some ⟨cel18, cld18, .cell (some (.ref f18)), csl18⟩)
    {nm19 qn19 : Str} {N19 : Addr} {bs19 bm19 : List Value} {sn19 : List Str} {sb19 : List Value} {ab19 : Bool} {cl19 : Option Bool} {dd19 : Option Addr} {ka19 kb19 kc19 kd19 ke19 : Option Value}
    {oc19 kV19 dc19 pm19 ct19 ccl19 cel19 : Value} {od19 an19 cdd19 cld19 : Option Addr} {sl19 ccs19 csl19 : Array (Option Value)} {qual19 file19 : Str} {cda19 cc19 : Addr} {vs19 : Array Value} {tf19 : Tok}
    (xa19 : K.lookup f19 = some (excClassObj nm19 qn19 f19 N19 bs19 bm19 true sn19 sb19 ab19 cl19 dd19 ka19 kb19 kc19 kd19 ke19 "LookupError.__new__"))
    (xb19 : ErE.Line [.type "KeyError", .type "LookupError", .type "Exception", .type "BaseException", .type "object"] bm19)
    (xc19 : PySem.W.findIn K (.ref f19) "__setattr__" = some (some (.builtin "object.__setattr__")))
    (xd19 : PySem.W.findIn K (.ref f19) "__init__" = some (some (.ref f22)))
    (xe19 : PySem.W.typeIn K (.ref f22) = some (.type "function"))
    (xf19 : PySem.W.ks_superIn K f19 f19 "__init__" = some (some (.builtin "KeyError.__init__")))
    (xg19 : PySem.W.subIn K (.ref f19) (.type "KeyError") = some true)
    (xh19 : K.lookup f22 = some ⟨oc19, od19, .func (PySem.W.ksFn "__init__" qual19 (defArgs (methAt x_NoName 0)) (defBody (methAt x_NoName 0)) (defScope (methAt x_NoName 0)) .none kV19 dc19 pm19 an19 (.ref cda19) ct19 cc19), sl19⟩)
    (xi19 : PySem.W.codeIn K (.ref cda19) qual19 = true)
    (xj19 : K.lookup cda19 = some ⟨ccl19, cdd19, .fields vs19, ccs19⟩)
    (xk19 : vs19[2]? = some (.str file19 tf19))
    (xl19 : ((P.main.file : Str) == file19) = true)
    (xm19 : K.lookup cc19 = some ⟨cel19, cld19, .cell (some (.ref f19)), csl19⟩)
    (z0 : PySem.W.nsIn K mainGlobals "KeyError" = some none)
    (z1 : PySem.W.nsIn K mainGlobals "abs" = some none)
    (z2 : PySem.W.nsIn K mainGlobals "bool" = some none)
    (z3 : PySem.W.nsIn K mainGlobals "int" = some none)
    (z4 : PySem.W.nsIn K mainGlobals "isinstance" = some none)
    (z5 : PySem.W.nsIn K mainGlobals "len" = some none)
    (z6 : PySem.W.nsIn K mainGlobals "range" = some none)
    (z7 : PySem.W.nsIn K mainGlobals "repr" = some none)
    (z8 : PySem.W.nsIn K mainGlobals "set" = some none)
    (z9 : PySem.W.nsIn K mainGlobals "sorted" = some none)
    (z10 : PySem.W.nsIn K mainGlobals "super" = some none)
    (z11 : PySem.W.nsIn K mainGlobals "tuple" = some none)
    : Tx P K mg (fun i => [f0, f1, f2, f3, f4, f5, f6, f7, f8, f9, f10, f11, f12, f13, f14, f15, f16, f17, f18, f19, 0, f21, f22, f23].getD i 0) (fun i => [PySem.W.fnOf "is_integer" "is_integer" (defArgs x_is_integer) (defBody x_is_integer) (defScope x_is_integer) .none kV0 dc0 pm0 an0 cd0 ct0,
      PySem.W.fnOf "is_number" "is_number" (defArgs x_is_number) (defBody x_is_number) (defScope x_is_number) .none kV1 dc1 pm1 an1 cd1 ct1,
      PySem.W.fnOf "__init__" "Snapshots.__init__" (defArgs x_Snapshots__init) (defBody x_Snapshots__init) (defScope x_Snapshots__init) .none kV2 dc2 pm2 an2 cd2 ct2,
      PySem.W.fnOf "begin" "Snapshots.begin" (defArgs x_Snapshots__begin) (defBody x_Snapshots__begin) (defScope x_Snapshots__begin) .none kV3 dc3 pm3 an3 cd3 ct3,
      PySem.W.fnOf "lives_below" "Snapshots.lives_below" (defArgs x_Snapshots__lives_below) (defBody x_Snapshots__lives_below) (defScope x_Snapshots__lives_below) .none kV4 dc4 pm4 an4 cd4 ct4,
      PySem.W.fnOf "stamp_of" "Snapshots.stamp_of" (defArgs x_Snapshots__stamp_of) (defBody x_Snapshots__stamp_of) (defScope x_Snapshots__stamp_of) .none kV5 dc5 pm5 an5 cd5 ct5,
      PySem.W.fnOf "close" "Snapshots.close" (defArgs x_Snapshots__close) (defBody x_Snapshots__close) (defScope x_Snapshots__close) .none kV6 dc6 pm6 an6 cd6 ct6,
      PySem.W.fnOf "live" "Snapshots.live" (defArgs x_Snapshots__live) (defBody x_Snapshots__live) (defScope x_Snapshots__live) .none kV7 dc7 pm7 an7 cd7 ct7,
      PySem.W.fnOf "holders" "Snapshots.holders" (defArgs x_Snapshots__holders) (defBody x_Snapshots__holders) (defScope x_Snapshots__holders) .none kV8 dc8 pm8 an8 cd8 ct8,
      PySem.W.fnOf "last_within" "Snapshots.last_within" (defArgs x_Snapshots__last_within) (defBody x_Snapshots__last_within) (defScope x_Snapshots__last_within) .none kV9 dc9 pm9 an9 cd9 ct9,
      PySem.W.fnOf "_law_deal" "_law_deal" (defArgs x__law_deal) (defBody x__law_deal) (defScope x__law_deal) .none kV10 dc10 pm10 an10 cd10 ct10,
      PySem.W.fnOf "_law_draw" "_law_draw" (defArgs x__law_draw) (defBody x__law_draw) (defScope x__law_draw) .none kV11 dc11 pm11 an11 cd11 ct11,
      PySem.W.fnOf "_law_pick" "_law_pick" (defArgs x__law_pick) (defBody x__law_pick) (defScope x__law_pick) .none kV12 dc12 pm12 an12 cd12 ct12,
      PySem.W.fnOf "_law_whole" "_law_whole" (defArgs x__law_whole) (defBody x__law_whole) (defScope x__law_whole) .none kV13 dc13 pm13 an13 cd13 ct13,
      PySem.W.fnOf "_law_closed" "_law_closed" (defArgs x__law_closed) (defBody x__law_closed) (defScope x__law_closed) .none kV14 dc14 pm14 an14 cd14 ct14,
      PySem.W.fnOf "_law_looked" "_law_looked" (defArgs x__law_looked) (defBody x__law_looked) (defScope x__law_looked) .none kV15 dc15 pm15 an15 cd15 ct15,
      PySem.W.fnOf "law" "law" (defArgs x_law) (defBody x_law) (defScope x_law) .none kV16 dc16 pm16 an16 cd16 ct16].getD i default) (fun i => [].getD i (0, 0)) where
  g_is_integer := PySem.W.mg_of X G a0
  F_is_integer := fun_mk (st := x_is_integer) l0 c0 k0
  b_is_integer := (fun_mk (st := x_is_integer) l0 c0 k0).binds (ps := ["value"]) fun _ _ _ _ _ _ us hl => match us, hl with | [_], _ => rfl
  g_is_number := PySem.W.mg_of X G a1
  F_is_number := fun_mk (st := x_is_number) l1 c1 k1
  b_is_number := (fun_mk (st := x_is_number) l1 c1 k1).binds (ps := ["value"]) fun _ _ _ _ _ _ us hl => match us, hl with | [_], _ => rfl
  F_Snapshots__init := fun_mk (st := x_Snapshots__init) l2 c2 k2
  b_Snapshots__init := (fun_mk (st := x_Snapshots__init) l2 c2 k2).binds (ps := ["self"]) fun _ _ _ _ _ _ us hl => match us, hl with | [_], _ => rfl
  m_Snapshots__begin := ⟨a3, b3, k3⟩
  F_Snapshots__begin := fun_mk (st := x_Snapshots__begin) l3 c3 k3
  b_Snapshots__begin := (fun_mk (st := x_Snapshots__begin) l3 c3 k3).binds (ps := ["self", "stamp"]) fun _ _ _ _ _ _ us hl => match us, hl with | [_, _], _ => rfl
  m_Snapshots__lives_below := ⟨a4, b4, k4⟩
  F_Snapshots__lives_below := fun_mk (st := x_Snapshots__lives_below) l4 c4 k4
  b_Snapshots__lives_below := (fun_mk (st := x_Snapshots__lives_below) l4 c4 k4).binds (ps := ["self", "stamp"]) fun _ _ _ _ _ _ us hl => match us, hl with | [_, _], _ => rfl
  m_Snapshots__stamp_of := ⟨a5, b5, k5⟩
  F_Snapshots__stamp_of := fun_mk (st := x_Snapshots__stamp_of) l5 c5 k5
  b_Snapshots__stamp_of := (fun_mk (st := x_Snapshots__stamp_of) l5 c5 k5).binds (ps := ["self", "number"]) fun _ _ _ _ _ _ us hl => match us, hl with | [_, _], _ => rfl
  m_Snapshots__close := ⟨a6, b6, k6⟩
  F_Snapshots__close := fun_mk (st := x_Snapshots__close) l6 c6 k6
  b_Snapshots__close := (fun_mk (st := x_Snapshots__close) l6 c6 k6).binds (ps := ["self", "number"]) fun _ _ _ _ _ _ us hl => match us, hl with | [_, _], _ => rfl
  m_Snapshots__live := ⟨a7, b7, k7⟩
  F_Snapshots__live := fun_mk (st := x_Snapshots__live) l7 c7 k7
  b_Snapshots__live := (fun_mk (st := x_Snapshots__live) l7 c7 k7).binds (ps := ["self"]) fun _ _ _ _ _ _ us hl => match us, hl with | [_], _ => rfl
  m_Snapshots__holders := ⟨a8, b8, k8⟩
  F_Snapshots__holders := fun_mk (st := x_Snapshots__holders) l8 c8 k8
  b_Snapshots__holders := (fun_mk (st := x_Snapshots__holders) l8 c8 k8).binds (ps := ["self", "stamp"]) fun _ _ _ _ _ _ us hl => match us, hl with | [_, _], _ => rfl
  m_Snapshots__last_within := ⟨a9, b9, k9⟩
  F_Snapshots__last_within := fun_mk (st := x_Snapshots__last_within) l9 c9 k9
  b_Snapshots__last_within := (fun_mk (st := x_Snapshots__last_within) l9 c9 k9).binds (ps := ["self", "first", "last"]) fun _ _ _ _ _ _ us hl => match us, hl with | [_, _, _], _ => rfl
  g__law_deal := PySem.W.mg_of X G a10
  F__law_deal := fun_mk (st := x__law_deal) l10 c10 k10
  b__law_deal := (fun_mk (st := x__law_deal) l10 c10 k10).binds (ps := ["_law_script", "_law_base"]) fun _ _ _ _ _ _ us hl => match us, hl with | [_, _], _ => rfl
  g__law_draw := PySem.W.mg_of X G a11
  F__law_draw := fun_mk (st := x__law_draw) l11 c11 k11
  b__law_draw := (fun_mk (st := x__law_draw) l11 c11 k11).binds (ps := ["_law_deal_here", "_law_bound"]) fun _ _ _ _ _ _ us hl => match us, hl with | [_, _], _ => rfl
  g__law_pick := PySem.W.mg_of X G a12
  F__law_pick := fun_mk (st := x__law_pick) l12 c12 k12
  b__law_pick := (fun_mk (st := x__law_pick) l12 c12 k12).binds (ps := ["_law_deal_here", "_law_some"]) fun _ _ _ _ _ _ us hl => match us, hl with | [_, _], _ => rfl
  g__law_whole := PySem.W.mg_of X G a13
  F__law_whole := fun_mk (st := x__law_whole) l13 c13 k13
  b__law_whole := (fun_mk (st := x__law_whole) l13 c13 k13).binds (ps := ["_law_value"]) fun _ _ _ _ _ _ us hl => match us, hl with | [_], _ => rfl
  g__law_closed := PySem.W.mg_of X G a14
  F__law_closed := fun_mk (st := x__law_closed) l14 c14 k14
  b__law_closed := (fun_mk (st := x__law_closed) l14 c14 k14).binds (ps := ["_law_snapshots", "_law_number", "_law_word"]) fun _ _ _ _ _ _ us hl => match us, hl with | [_, _, _], _ => rfl
  g__law_looked := PySem.W.mg_of X G a15
  F__law_looked := fun_mk (st := x__law_looked) l15 c15 k15
  b__law_looked := (fun_mk (st := x__law_looked) l15 c15 k15).binds (ps := ["_law_deal_here", "_law_snapshots", "_law_here"]) fun _ _ _ _ _ _ us hl => match us, hl with | [_, _, _], _ => rfl
  g_law := PySem.W.mg_of X G a16
  F_law := fun_mk (st := x_law) l16 c16 k16
  b_law := (fun_mk (st := x_law) l16 c16 k16).binds (ps := ["_law_script"]) fun _ _ _ _ _ _ us hl => match us, hl with | [_], _ => rfl
  g_Snapshots := PySem.W.mg_of X G ca23
  K_Snapshots := ⟨by unfold clsV; rw [ca23]; rfl, cb23, cx23, cy23, ce23⟩
  M_Snapshots := ⟨cf23, a2, b2, cg23⟩
  n_Snapshots_last := cn23_last
  n_Snapshots_numbers := cn23_numbers
  n_Snapshots_places := cn23_places
  n_Snapshots_told := cn23_told
  g_StoreError := PySem.W.mg_of X G ea17
  K_StoreError := excK_mk ea17 eb17 ec17 ed17 ee17 ef17 sp tp eg17 eh17 ei17 ej17
  g_InvalidSize := PySem.W.mg_of X G ea18
  K_InvalidSize := excK_mk ea18 eb18 ec18 ed18 ee18 ef18 sp tp eg18 eh18 ei18 ej18
  E_InvalidSize := errC_mk (st := methAt x_InvalidSize 0) (x := "word") ErE.base_Exception xa18 xb18 xc18 xd18 xe18 en18_word xf18 xg18 tq xh18 xi18 xj18 xk18 xl18 xm18 tr rfl (by decide +kernel) rfl (fun _ _ _ _ _ _ _ _ _ _ _ _ h => by subst h; exact .of_eq rfl) rfl
  g_NoName := PySem.W.mg_of X G ea19
  K_NoName := excK_mk ea19 eb19 ec19 ed19 ee19 ef19 sp tp eg19 eh19 ei19 ej19
  E_NoName := errC_mk (st := methAt x_NoName 0) (x := "name") ErE.base_KeyError xa19 xb19 xc19 xd19 xe19 en19_name xf19 xg19 tq xh19 xi19 xj19 xk19 xl19 xm19 tr rfl (by decide +kernel) rfl (fun _ _ _ _ _ _ _ _ _ _ _ _ h => by subst h; exact .of_eq rfl) rfl
  n_InvalidSize_word := en18_word
  n_NoName_name := en19_name
  u_InvalidSize_InvalidSize := eu18_18
  u_InvalidSize_NoName := eu18_19
  u_NoName_InvalidSize := eu19_18
  u_NoName_NoName := eu19_19
  u_NoName_KeyError := et19_KeyError
  k_Snapshots__begin_stamp := fun s us ws _ hu hw => match us, ws, hu, hw with | [_], [_], _, _ => BindsTo.of_eq (by first | rfl | with_unfolding_all rfl)
  k_Snapshots__close_number := fun s us ws _ hu hw => match us, ws, hu, hw with | [_], [_], _, _ => BindsTo.of_eq (by first | rfl | with_unfolding_all rfl)
  k_Snapshots__holders_stamp := fun s us ws _ hu hw => match us, ws, hu, hw with | [_], [_], _, _ => BindsTo.of_eq (by first | rfl | with_unfolding_all rfl)
  k_Snapshots__last_within_last_first := fun s us ws _ hu hw => match us, ws, hu, hw with | [_], [_, _], _, _ => BindsTo.of_eq (by first | rfl | with_unfolding_all rfl)
  k_Snapshots__stamp_of_number := fun s us ws _ hu hw => match us, ws, hu, hw with | [_], [_], _, _ => BindsTo.of_eq (by first | rfl | with_unfolding_all rfl)
  z_KeyError := PySem.W.mg_none_of X G z0
  z_abs := PySem.W.mg_none_of X G z1
  z_bool := PySem.W.mg_none_of X G z2
  z_int := PySem.W.mg_none_of X G z3
  z_isinstance := PySem.W.mg_none_of X G z4
  z_len := PySem.W.mg_none_of X G z5
  z_range := PySem.W.mg_none_of X G z6
  z_repr := PySem.W.mg_none_of X G z7
  z_set := PySem.W.mg_none_of X G z8
  z_sorted := PySem.W.mg_none_of X G z9
  z_super := PySem.W.mg_none_of X G z10
  z_tuple := PySem.W.mg_none_of X G z11
end K18
end
section
set_option maxHeartbeats 1000000
namespace K18
open PySem PySem.Spec PyProof.Rows L2 DM
/-! ### the state of the snapshots -/
abbrev Ent := Int × Int
def numsOf (L : List Ent) (s : Int) : List Int := (L.filter fun p => decide (p.2 = s)).map (·.1)
def toldK (L : List Ent) : List (Key × D) := L.map fun p => (Sum.inl p.1, D.int p.2)
def plcOf (L : List Ent) : List Int := sset (L.map (·.2))
def snapF (m : Int) : List (Str × D) := [("last", .int m), ("told", .ref 3), ("places", .ref 4), ("numbers", .ref 5)]
structure Snp (L : List Ent) (m : Int) (nk : List (Key × D)) (A : AH) : Prop where
  ins : A[2]? = some (.ins "Snapshots" (snapF m))
  told : A[3]? = some (.dk (toldK L))
  plc : A[4]? = some (.lst ((plcOf L).map D.int))
  num : A[5]? = some (.dk nk)
structure Ok (L : List Ent) (m : Int) (nk : List (Key × D)) : Prop where
  up : (L.map (·.1)).Pairwise (· < ·)
  lo : ∀ p ∈ L, 1 ≤ p.1 ∧ p.1 ≤ m ∧ 0 ≤ p.2 ∧ p.2 ≤ 10 ^ 30
  few : (L.length : Int) ≤ m
  most : m ≤ 40
  nums : ∀ s : Int, valD nk (.inl s) = if numsOf L s = [] then none else some (.tup ((numsOf L s).map D.int))
  nlen : (nk.length : Int) ≤ m
def Frm (A A' : AH) : Prop := A'.length = A.length ∧ ∀ n, n < 2 ∨ 6 ≤ n → A'[n]? = A[n]?
theorem Frm.refl (A : AH) : Frm A A := ⟨rfl, fun _ _ => rfl⟩
theorem Frm.trans {A B C : AH} (a : Frm A B) (b : Frm B C) : Frm A C := ⟨b.1.trans a.1, fun n h => (b.2 n h).trans (a.2 n h)⟩
theorem Frm.set {A : AH} {k : Nat} {o : AO} (h1 : 2 ≤ k) (h2 : k < 6) : Frm A (A.set k o) := ⟨by simp, fun n h => List.getElem?_set_ne (by omega)⟩
section
variable {L : List Ent} {m : Int} {nk : List (Key × D)} {A : AH} {ρ : DM.Env}
theorem last0 (h : A[2]? = some (.ins "Snapshots" (snapF m))) (h0 : ρ[0]? = some (some (.ref 2))) : mFld "Snapshots" "last" (mVar 0) ρ A = .ok (.int m) A := fld_run (by rw [ev_var, h0]) h rfl
theorem told0 (h : A[2]? = some (.ins "Snapshots" (snapF m))) (h0 : ρ[0]? = some (some (.ref 2))) : mFld "Snapshots" "told" (mVar 0) ρ A = .ok (.ref 3) A := fld_run (by rw [ev_var, h0]) h rfl
theorem plc0 (h : A[2]? = some (.ins "Snapshots" (snapF m))) (h0 : ρ[0]? = some (some (.ref 2))) : mFld "Snapshots" "places" (mVar 0) ρ A = .ok (.ref 4) A := fld_run (by rw [ev_var, h0]) h rfl
theorem num0 (h : A[2]? = some (.ins "Snapshots" (snapF m))) (h0 : ρ[0]? = some (some (.ref 2))) : mFld "Snapshots" "numbers" (mVar 0) ρ A = .ok (.ref 5) A := fld_run (by rw [ev_var, h0]) h rfl
end
/-! ### how many are less -/
def cnt (P : List Int) (s : Int) : Nat := (P.filter fun x => decide (x < s)).length
theorem cnt_le (P : List Int) (s : Int) : cnt P s ≤ P.length := List.length_filter_le _ _
theorem cnt_eq {P : List Int} {s : Int} {c : Nat} (h1 : ∀ (i : Nat) (v : Int), P[i]? = some v → i < c → v < s) (h2 : ∀ (i : Nat) (v : Int), P[i]? = some v → c ≤ i → s ≤ v) (hc : c ≤ P.length) : cnt P s = c := by
  have e : P = P.take c ++ P.drop c := (List.take_append_drop c P).symm
  unfold cnt
  rw [e, List.filter_append]
  have a : (P.take c).filter (fun x => decide (x < s)) = P.take c := List.filter_eq_self.mpr fun x hx => by
    obtain ⟨i, hi⟩ := List.mem_iff_getElem?.mp hx
    rw [List.getElem?_take] at hi
    split at hi
    · rename_i hlt
      exact decide_eq_true (h1 i x hi hlt)
    · cases hi
  have b : (P.drop c).filter (fun x => decide (x < s)) = [] := List.filter_eq_nil_iff.mpr fun x hx => by
    obtain ⟨i, hi⟩ := List.mem_iff_getElem?.mp hx
    rw [List.getElem?_drop] at hi
    have := h2 _ x hi (by omega)
    simp
    omega
  rw [a, b]
  simp [hc]
def bodyB : MS := mSeq (mSet 4 (mOp fDiv (mOp fAdd (mVar 2) (mVar 3)) (mK (.int 2)))) (mIfS (mTst (mOp fLt (mOp fIx (mFld "Snapshots" "places" (mVar 0)) (mVar 4)) (mVar 1))) (mSet 2 (mOp fAdd (mVar 4) (mK (.int 1)))) (mSet 3 (mVar 4)))
def tstB : MT := mTst (mOp fLt (mVar 2) (mVar 3))
section
variable {m : Int} {A : AH} {P : List Int}
theorem bodyB_run (hI : A[2]? = some (.ins "Snapshots" (snapF m))) (hP : A[4]? = some (.lst (P.map D.int))) {s lo hi v : Int} {x4 : Option D} (h0 : 0 ≤ lo) (h1 : lo < hi) (h2 : hi < 100000) (hv : atI (P.map D.int) ((lo + hi) / 2) = some (.int v)) :
    bodyB [some (.ref 2), some (.int s), some (.int lo), some (.int hi), x4] A = (if v < s then .nx [some (.ref 2), some (.int s), some (.int ((lo + hi) / 2 + 1)), some (.int hi), some (.int ((lo + hi) / 2))] A else .nx [some (.ref 2), some (.int s), some (.int lo), some (.int ((lo + hi) / 2)), some (.int ((lo + hi) / 2))] A) := by
  have cd : CDiv (lo + hi) 2 := by unfold CDiv; omega
  unfold bodyB
  refine (seq_nx (ρ1 := [some (.ref 2), some (.int s), some (.int lo), some (.int hi), some (.int ((lo + hi) / 2))]) (A1 := A) ?_).trans ?_
  · simp only [ev_var, ev_K, ev_op, ev_neg, ev_tst, ev_and, ev_or, ev_not, ev_andV, ev_orV, ev_notV, ev_if, ev_chn, ev_nil, ev_cons, ev_tup, ev_lst, ev_new, ev_call, ev_callF, ev_callK, ev_met, ev_sl, ev_some, ev_none, ev_rev, ev_yes, ev_sq, ev_next, ev_drop, ev_ret, ev_ifs, ev_set, ev_par2, ev_par3, ev_asg, ev_nm, List.getElem?_cons_zero, List.getElem?_cons_succ, List.set_cons_zero, List.set_cons_succ, bind_ok, lift_ok, List.length_cons, List.length_nil, Nat.reduceAdd, Nat.reduceLeDiff, ↓reduceIte, if_true, if_false, Bool.false_eq_true, add_ii, div_ii cd]
  have ix := ix_ref hP hv
  simp only [ev_var, ev_K, ev_op, ev_neg, ev_tst, ev_and, ev_or, ev_not, ev_andV, ev_orV, ev_notV, ev_if, ev_chn, ev_nil, ev_cons, ev_tup, ev_lst, ev_new, ev_call, ev_callF, ev_callK, ev_met, ev_sl, ev_some, ev_none, ev_rev, ev_yes, ev_sq, ev_next, ev_drop, ev_ret, ev_ifs, ev_set, ev_par2, ev_par3, ev_asg, ev_nm, List.getElem?_cons_zero, List.getElem?_cons_succ, List.set_cons_zero, List.set_cons_succ, bind_ok, lift_ok, List.length_cons, List.length_nil, Nat.reduceAdd, Nat.reduceLeDiff, ↓reduceIte, if_true, if_false, Bool.false_eq_true, plc0 hI, ix, add_ii, lt_ii]
  by_cases hz : v < s
  · simp [hz]
  · simp [hz]
theorem tstB_run {s lo hi : Int} {x4 : Option D} : tstB [some (.ref 2), some (.int s), some (.int lo), some (.int hi), x4] A = .ok (decide (lo < hi)) A := by
  unfold tstB
  simp only [ev_var, ev_K, ev_op, ev_neg, ev_tst, ev_and, ev_or, ev_not, ev_andV, ev_orV, ev_notV, ev_if, ev_chn, ev_nil, ev_cons, ev_tup, ev_lst, ev_new, ev_call, ev_callF, ev_callK, ev_met, ev_sl, ev_some, ev_none, ev_rev, ev_yes, ev_sq, ev_next, ev_drop, ev_ret, ev_ifs, ev_set, ev_par2, ev_par3, ev_asg, ev_nm, List.getElem?_cons_zero, List.getElem?_cons_succ, List.set_cons_zero, List.set_cons_succ, bind_ok, lift_ok, List.length_cons, List.length_nil, Nat.reduceAdd, Nat.reduceLeDiff, ↓reduceIte, if_true, if_false, Bool.false_eq_true, lt_ii]
theorem atI_at {P : List Int} {i : Int} {v : Int} (h0 : 0 ≤ i) (hv : P[i.toNat]? = some v) : atI (P.map D.int) i = some (.int v) := by
  obtain ⟨n, rfl⟩ : ∃ n : Nat, i = n := ⟨i.toNat, by omega⟩
  exact atI_nat (by rw [List.getElem?_map]; simpa using congrArg (Option.map D.int) hv)
theorem loopB (hI : A[2]? = some (.ins "Snapshots" (snapF m))) (hP : A[4]? = some (.lst (P.map D.int))) (up : P.Pairwise (· < ·)) (few : P.length < 100000) {s : Int} : ∀ (n : Nat) (lo hi : Int) (x4 : Option D), (hi - lo).toNat = n → 0 ≤ lo → lo ≤ hi → hi.toNat ≤ P.length →
    (∀ (i : Nat) (v : Int), P[i]? = some v → i < lo.toNat → v < s) → (∀ (i : Nat) (v : Int), P[i]? = some v → hi.toNat ≤ i → s ≤ v) →
    ∃ k y4, iterW tstB bodyB k [some (.ref 2), some (.int s), some (.int lo), some (.int hi), x4] A = .nx [some (.ref 2), some (.int s), some (.int (cnt P s : Nat)), some (.int (cnt P s : Nat)), y4] A := by
  intro n
  induction n using Nat.strongRecOn with
  | ind n ih =>
    intro lo hi x4 hn h0 h1 h2 a b
    by_cases hz : lo < hi
    · obtain ⟨v, hv⟩ : ∃ v, P[((lo + hi) / 2).toNat]? = some v := ⟨_, List.getElem?_eq_getElem (by omega)⟩
      have run := bodyB_run hI hP (s := s) (x4 := x4) h0 hz (by omega) (atI_at (by omega) hv)
      have mono : ∀ (i j : Nat) (x y : Int), P[i]? = some x → P[j]? = some y → i ≤ j → x ≤ y := fun i j x y hx hy hij => by
        rcases Nat.lt_or_eq_of_le hij with c | c
        · obtain ⟨q1, e1⟩ := List.getElem?_eq_some_iff.mp hx
          obtain ⟨q2, e2⟩ := List.getElem?_eq_some_iff.mp hy
          have := List.pairwise_iff_getElem.mp up i j q1 q2 c
          omega
        · subst c
          rw [hx] at hy
          cases hy
          exact Int.le_refl _
      by_cases hs : v < s
      · rw [if_pos hs] at run
        obtain ⟨k, y4, e⟩ := ih _ (by omega) ((lo + hi) / 2 + 1) hi (some (.int ((lo + hi) / 2))) rfl (by omega) (by omega) h2 (fun i x hx hi2 => by
          have := mono i _ x v hx hv (by omega)
          omega) b
        refine ⟨k + 1, y4, ?_⟩
        unfold iterW
        rw [tstB_run, decide_eq_true hz]
        simp only [run]
        exact e
      · rw [if_neg hs] at run
        obtain ⟨k, y4, e⟩ := ih _ (by omega) lo ((lo + hi) / 2) (some (.int ((lo + hi) / 2))) rfl h0 (by omega) (by omega) a (fun i x hx hi2 => by
          have := mono _ i v x hv hx hi2
          omega)
        refine ⟨k + 1, y4, ?_⟩
        unfold iterW
        rw [tstB_run, decide_eq_true hz]
        simp only [run]
        exact e
    · have e : hi = lo := by omega
      subst e
      have c := cnt_eq (c := hi.toNat) a b h2
      refine ⟨1, x4, ?_⟩
      unfold iterW
      rw [tstB_run, decide_eq_false hz, c, show ((hi.toNat : Nat) : Int) = hi by omega]
noncomputable abbrev belowX : List D → AH → Res D := m_Snapshots__lives_below
theorem below_ok (hI : A[2]? = some (.ins "Snapshots" (snapF m))) (hP : A[4]? = some (.lst (P.map D.int))) (up : P.Pairwise (· < ·)) (few : P.length < 100000) {s : Int} : belowX [.ref 2, .int s] A = .ok (.int (cnt P s : Nat)) A := by
  obtain ⟨k, y4, e⟩ := loopB hI hP up few (s := s) _ 0 (P.length : Nat) none rfl (by omega) (by omega) (by omega) (fun i v _ h => by simp at h) (fun i v hv h => by
    obtain ⟨q, _⟩ := List.getElem?_eq_some_iff.mp hv
    omega)
  have ln : fLen [.ref 4] A = .ok (.int (P.length : Nat)) A := by
    simp only [fLen, seqOf, hP, List.length_map]
  unfold belowX m_Snapshots__lives_below
  refine fun_rt ?_
  refine (seq_nx (ρ1 := [some (.ref 2), some (.int s), some (.int 0), some (.int (P.length : Nat)), none]) (A1 := A) ?_).trans ?_
  · simp only [ev_var, ev_K, ev_op, ev_neg, ev_tst, ev_and, ev_or, ev_not, ev_andV, ev_orV, ev_notV, ev_if, ev_chn, ev_nil, ev_cons, ev_tup, ev_lst, ev_new, ev_call, ev_callF, ev_callK, ev_met, ev_sl, ev_some, ev_none, ev_rev, ev_yes, ev_sq, ev_next, ev_drop, ev_ret, ev_ifs, ev_set, ev_par2, ev_par3, ev_asg, ev_nm, List.getElem?_cons_zero, List.getElem?_cons_succ, List.set_cons_zero, List.set_cons_succ, bind_ok, lift_ok, List.length_cons, List.length_nil, Nat.reduceAdd, Nat.reduceLeDiff, ↓reduceIte, if_true, if_false, Bool.false_eq_true, List.map_cons, List.map_nil, List.replicate, List.cons_append, List.nil_append, plc0 hI, ln]
  refine (seq_nx (mWhile_eq e (by intro z; cases z))).trans ?_
  simp only [ev_var, ev_K, ev_op, ev_neg, ev_tst, ev_and, ev_or, ev_not, ev_andV, ev_orV, ev_notV, ev_if, ev_chn, ev_nil, ev_cons, ev_tup, ev_lst, ev_new, ev_call, ev_callF, ev_callK, ev_met, ev_sl, ev_some, ev_none, ev_rev, ev_yes, ev_sq, ev_next, ev_drop, ev_ret, ev_ifs, ev_set, ev_par2, ev_par3, ev_asg, ev_nm, List.getElem?_cons_zero, List.getElem?_cons_succ, List.set_cons_zero, List.set_cons_succ, bind_ok, lift_ok, List.length_cons, List.length_nil, Nat.reduceAdd, Nat.reduceLeDiff, ↓reduceIte, if_true, if_false, Bool.false_eq_true]
end
end K18
end
section
set_option maxHeartbeats 1000000
namespace K18
open PySem PySem.Spec PyProof.Rows L2 DM
/-! ### plain: places -/
theorem ins_at {s : Int} : ∀ {P : List Int}, P.Pairwise (· < ·) → s ∉ P → P.take (cnt P s) ++ [s] ++ P.drop (cnt P s) = insS s P
  | [], _, _ => rfl
  | x :: r, up, hn => by
    obtain ⟨h1, h2⟩ := List.pairwise_cons.mp up
    have ne : s ≠ x := fun z => hn (z ▸ List.mem_cons_self)
    have nr : s ∉ r := fun z => hn (List.mem_cons_of_mem _ z)
    unfold insS
    by_cases h : s < x
    · have c0 : cnt (x :: r) s = 0 := by
        unfold cnt
        rw [List.length_eq_zero_iff, List.filter_eq_nil_iff]
        intro y hy
        rcases List.mem_cons.mp hy with rfl | hy
        · simp; omega
        · have := h1 y hy
          simp; omega
      rw [if_pos h, c0]
      rfl
    · have c1 : cnt (x :: r) s = cnt r s + 1 := by
        unfold cnt
        rw [List.filter_cons_of_pos (by simp; omega), List.length_cons]
      rw [if_neg h, if_neg ne, c1]
      simp only [List.take_succ_cons, List.drop_succ_cons, List.cons_append]
      rw [← ins_at h2 nr]
theorem plc_up (L : List Ent) : (plcOf L).Pairwise (· < ·) := sset_up _
theorem mem_plc {L : List Ent} {s : Int} : s ∈ plcOf L ↔ ∃ p ∈ L, p.2 = s := by
  unfold plcOf
  rw [mem_sset, List.mem_map]
theorem nums_nil {L : List Ent} {s : Int} : numsOf L s = [] ↔ s ∉ plcOf L := by
  unfold numsOf
  rw [List.map_eq_nil_iff, List.filter_eq_nil_iff, mem_plc]
  constructor
  · rintro h ⟨p, hp, e⟩
    exact h p hp (decide_eq_true e)
  · intro h p hp e
    exact h ⟨p, hp, of_decide_eq_true e⟩
theorem plc_add {L : List Ent} {n s : Int} : plcOf (L ++ [(n, s)]) = insS s (plcOf L) := sset_eq (insS_up (plc_up L)) fun k => by
  rw [mem_insS, mem_plc]
  simp only [List.map_append, List.map_cons, List.map_nil, List.mem_append, List.mem_singleton, List.mem_map]
  exact or_comm
theorem insS_mem {s : Int} : ∀ {P : List Int}, P.Pairwise (· < ·) → s ∈ P → insS s P = P
  | [], _, h => by cases h
  | x :: r, up, h => by
    obtain ⟨h1, h2⟩ := List.pairwise_cons.mp up
    unfold insS
    rcases List.mem_cons.mp h with rfl | h
    · simp
    · have := h1 s h
      rw [if_neg (by omega), if_neg (by omega), insS_mem h2 h]
theorem plc_len (L : List Ent) : (plcOf L).length ≤ L.length := by
  have := sset_len (L.map (·.2))
  simpa [plcOf] using this
theorem nums_add {L : List Ent} {n s k : Int} : numsOf (L ++ [(n, s)]) k = if s = k then numsOf L k ++ [n] else numsOf L k := by
  unfold numsOf
  rw [List.filter_append, List.map_append]
  by_cases h : s = k
  · simp [h]
  · simp [h]
theorem nums_len (L : List Ent) (s : Int) : (numsOf L s).length ≤ L.length := by
  unfold numsOf
  rw [List.length_map]
  exact List.length_filter_le _ _
/-! ### plain: open numbers -/
def stOf (L : List Ent) (n : Int) : Option Int := (L.find? fun p => decide (p.1 = n)).map (·.2)
theorem told_val (L : List Ent) (n : Int) : valD (toldK L) (.inl n) = (stOf L n).map D.int := by
  unfold stOf toldK
  induction L with
  | nil => rfl
  | cons p L ih =>
    rw [List.map_cons, valD_cons, ih, List.find?_cons]
    by_cases h : p.1 = n
    · simp [h]
    · simp [h]
theorem told_none {L : List Ent} {n : Int} (h : ∀ p ∈ L, p.1 ≠ n) : stOf L n = none := by
  unfold stOf
  rw [Option.map_eq_none_iff, List.find?_eq_none]
  intro p hp
  simpa using h p hp
theorem told_add {L : List Ent} {n s : Int} (h : ∀ p ∈ L, p.1 ≠ n) : putKD (toldK L) (.inl n) (.int s) = toldK (L ++ [(n, s)]) := by
  unfold putKD
  rw [any_valD, told_val, told_none h]
  unfold toldK
  simp
theorem told_drop (L : List Ent) (n : Int) : dropKD (toldK L) (.inl n) = toldK (L.filter fun p => decide (p.1 ≠ n)) := by
  unfold dropKD toldK
  rw [List.filter_map]
  congr 1
  apply List.filter_congr
  intro p _
  simp
theorem stOf_mem {L : List Ent} {n s : Int} (h : stOf L n = some s) : (n, s) ∈ L := by
  unfold stOf at h
  obtain ⟨p, hp, e⟩ := Option.map_eq_some_iff.mp h
  have h1 := List.find?_some hp
  have h2 := List.mem_of_find?_eq_some hp
  obtain ⟨a, b⟩ := p
  simp only [decide_eq_true_eq] at h1
  simp only at e
  subst h1 e
  exact h2
theorem num_one {L : List Ent} (up : (L.map (·.1)).Pairwise (· < ·)) {p q : Ent} (hp : p ∈ L) (hq : q ∈ L) (e : p.1 = q.1) : p = q := by
  induction L with
  | nil => cases hp
  | cons x L ih =>
    rw [List.map_cons, List.pairwise_cons] at up
    obtain ⟨h1, h2⟩ := up
    rcases List.mem_cons.mp hp with z1 | z1 <;> rcases List.mem_cons.mp hq with z2 | z2
    · rw [z1, z2]
    · have := h1 q.1 (List.mem_map_of_mem z2)
      rw [z1] at e
      omega
    · have := h1 p.1 (List.mem_map_of_mem z1)
      rw [z2] at e
      omega
    · exact ih h2 z1 z2
/-! ### is_number -/
noncomputable abbrev numX : List D → AH → Res D := m_is_number m_is_integer
theorem int_run {x : D} {A : AH} {t : String} (ht : tyName A x = some t) : m_is_integer [x] A = .ok (.bl (isB t "int" && !isB t "bool")) A := by
  have e1 := isi_ty (n := "int") ht (by decide)
  have e2 := isi_ty (n := "bool") ht (by decide)
  unfold m_is_integer
  refine fun_rt ?_
  simp only [ev_var, ev_K, ev_op, ev_neg, ev_tst, ev_and, ev_or, ev_not, ev_andV, ev_orV, ev_notV, ev_if, ev_chn, ev_nil, ev_cons, ev_tup, ev_lst, ev_new, ev_call, ev_callF, ev_callK, ev_met, ev_sl, ev_some, ev_none, ev_rev, ev_yes, ev_sq, ev_next, ev_drop, ev_ret, ev_ifs, ev_set, ev_par2, ev_par3, ev_asg, ev_nm, List.getElem?_cons_zero, List.getElem?_cons_succ, List.set_cons_zero, List.set_cons_succ, bind_ok, lift_ok, List.length_cons, List.length_nil, Nat.reduceAdd, Nat.reduceLeDiff, ↓reduceIte, if_true, if_false, Bool.false_eq_true, e1, e2, List.map_cons, List.map_nil, List.replicate, List.cons_append, List.nil_append]
  cases isB t "int" <;> simp [ev_var, ev_K, ev_op, ev_neg, ev_tst, ev_and, ev_or, ev_not, ev_andV, ev_orV, ev_notV, ev_if, ev_chn, ev_nil, ev_cons, ev_tup, ev_lst, ev_new, ev_call, ev_callF, ev_callK, ev_met, ev_sl, ev_some, ev_none, ev_rev, ev_yes, ev_sq, ev_next, ev_drop, ev_ret, ev_ifs, ev_set, ev_par2, ev_par3, ev_asg, ev_nm, List.getElem?_cons_zero, List.getElem?_cons_succ, List.set_cons_zero, List.set_cons_succ, bind_ok, lift_ok, List.length_cons, List.length_nil, Nat.reduceAdd, Nat.reduceLeDiff, ↓reduceIte, if_true, if_false, Bool.false_eq_true]
theorem whole_eq : m__law_whole = m_is_integer := rfl
theorem num_int {s : Int} {A : AH} : numX [.int s] A = .ok (.bl (decide (0 ≤ s))) A := by
  have e := int_run (x := .int s) (A := A) (t := "int") rfl
  unfold numX m_is_number
  refine fun_rt ?_
  simp only [ev_var, ev_K, ev_op, ev_neg, ev_tst, ev_and, ev_or, ev_not, ev_andV, ev_orV, ev_notV, ev_if, ev_chn, ev_nil, ev_cons, ev_tup, ev_lst, ev_new, ev_call, ev_callF, ev_callK, ev_met, ev_sl, ev_some, ev_none, ev_rev, ev_yes, ev_sq, ev_next, ev_drop, ev_ret, ev_ifs, ev_set, ev_par2, ev_par3, ev_asg, ev_nm, List.getElem?_cons_zero, List.getElem?_cons_succ, List.set_cons_zero, List.set_cons_succ, bind_ok, lift_ok, List.length_cons, List.length_nil, Nat.reduceAdd, Nat.reduceLeDiff, ↓reduceIte, if_true, if_false, Bool.false_eq_true, e, List.map_cons, List.map_nil, List.replicate, List.cons_append, List.nil_append, ge_ii]
  simp [ev_var, ev_K, ev_op, ev_neg, ev_tst, ev_and, ev_or, ev_not, ev_andV, ev_orV, ev_notV, ev_if, ev_chn, ev_nil, ev_cons, ev_tup, ev_lst, ev_new, ev_call, ev_callF, ev_callK, ev_met, ev_sl, ev_some, ev_none, ev_rev, ev_yes, ev_sq, ev_next, ev_drop, ev_ret, ev_ifs, ev_set, ev_par2, ev_par3, ev_asg, ev_nm, List.getElem?_cons_zero, List.getElem?_cons_succ, List.set_cons_zero, List.set_cons_succ, bind_ok, lift_ok, List.length_cons, List.length_nil, Nat.reduceAdd, Nat.reduceLeDiff, ↓reduceIte, if_true, if_false, Bool.false_eq_true, isB]
theorem num_other {x : D} {A : AH} {t : String} (ht : tyName A x = some t) (h : (isB t "int" && !isB t "bool") = false) : numX [x] A = .ok (.bl false) A := by
  have e := int_run ht
  rw [h] at e
  unfold numX m_is_number
  refine fun_rt ?_
  simp only [ev_var, ev_K, ev_op, ev_neg, ev_tst, ev_and, ev_or, ev_not, ev_andV, ev_orV, ev_notV, ev_if, ev_chn, ev_nil, ev_cons, ev_tup, ev_lst, ev_new, ev_call, ev_callF, ev_callK, ev_met, ev_sl, ev_some, ev_none, ev_rev, ev_yes, ev_sq, ev_next, ev_drop, ev_ret, ev_ifs, ev_set, ev_par2, ev_par3, ev_asg, ev_nm, List.getElem?_cons_zero, List.getElem?_cons_succ, List.set_cons_zero, List.set_cons_succ, bind_ok, lift_ok, List.length_cons, List.length_nil, Nat.reduceAdd, Nat.reduceLeDiff, ↓reduceIte, if_true, if_false, Bool.false_eq_true, e, List.map_cons, List.map_nil, List.replicate, List.cons_append, List.nil_append]
end K18
end
section
set_option maxHeartbeats 1000000
namespace K18
open PySem PySem.Spec PyProof.Rows L2 DM
/-! ### begin -/
noncomputable abbrev beginX : List D → AH → Res D := m_Snapshots__begin numX belowX
theorem begin_bad {x : D} {A : AH} (hx : numX [x] A = .ok (.bl false) A) : beginX [.ref 2, x] A = .exc "InvalidSize" [("word", .str "stamp")] A := by
  unfold beginX m_Snapshots__begin
  refine fun_exc (ρ1 := [some (.ref 2), some x]) ?_
  refine seq_exc ?_
  simp only [ev_var, ev_K, ev_op, ev_neg, ev_tst, ev_and, ev_or, ev_not, ev_andV, ev_orV, ev_notV, ev_if, ev_chn, ev_nil, ev_cons, ev_tup, ev_lst, ev_new, ev_call, ev_callF, ev_callK, ev_met, ev_sl, ev_some, ev_none, ev_rev, ev_yes, ev_sq, ev_next, ev_drop, ev_ret, ev_ifs, ev_set, ev_par2, ev_par3, ev_asg, ev_nm, List.getElem?_cons_zero, List.getElem?_cons_succ, List.set_cons_zero, List.set_cons_succ, bind_ok, lift_ok, List.length_cons, List.length_nil, Nat.reduceAdd, Nat.reduceLeDiff, ↓reduceIte, if_true, if_false, Bool.false_eq_true, ev_raise, and_self, List.map_cons, List.map_nil, List.replicate, List.cons_append, List.nil_append, Nat.reduceSub, hx, Bool.not_false]
def addN (nk : List (Key × D)) (L : List Ent) (m s : Int) : List (Key × D) :=
  putKD (if numsOf L s = [] then putKD nk (.inl s) (.tup []) else nk) (.inl s) (.tup ((numsOf L s ++ [m + 1]).map D.int))
theorem ok_add {L : List Ent} {m s : Int} {nk : List (Key × D)} (O : Ok L m nk) (h0 : 0 ≤ s) (h1 : s ≤ 10 ^ 30) (hm : m < 40) : Ok (L ++ [(m + 1, s)]) (m + 1) (addN nk L m s) where
  up := by
    rw [List.map_append, List.pairwise_append]
    refine ⟨O.up, by simp, fun a ha b hb => ?_⟩
    obtain ⟨p, hp, rfl⟩ := List.mem_map.mp ha
    simp only [List.map_cons, List.map_nil, List.mem_singleton] at hb
    have := (O.lo p hp).2.1
    omega
  lo := fun p hp => by
    have hm0 : 0 ≤ m := by have := O.few; omega
    rcases List.mem_append.mp hp with hp | hp
    · have := O.lo p hp
      exact ⟨this.1, by omega, this.2.2.1, this.2.2.2⟩
    · rw [List.mem_singleton] at hp
      subst hp
      exact ⟨by omega, by omega, h0, h1⟩
  few := by
    have := O.few
    rw [List.length_append]
    simp
    omega
  most := by omega
  nums := fun k => by
    unfold addN
    rw [valD_put, nums_add]
    by_cases h : s = k
    · subst h
      simp
    · have h' : ¬ (Sum.inl s : Key) = Sum.inl k := fun z => h (Sum.inl.inj z)
      rw [if_neg h', if_neg h]
      split
      · rw [valD_put, if_neg h']
        exact O.nums k
      · exact O.nums k
  nlen := by
    unfold addN
    have a := O.nlen
    by_cases h : numsOf L s = []
    · rw [if_pos h]
      have l1 := putKD_len (kvs := nk) (a := .inl s) (x := .tup [])
      have hn : (valD (putKD nk (.inl s) (.tup [])) (.inl s)).isSome = true := by rw [valD_put, if_pos rfl]; rfl
      have l2 : (putKD (putKD nk (.inl s) (.tup [])) (.inl s) (.tup ((numsOf L s ++ [m + 1]).map D.int))).length = (putKD nk (.inl s) (.tup [])).length := by
        exact putKD_same hn
      omega
    · rw [if_neg h]
      have hn : (valD nk (.inl s)).isSome = true := by rw [O.nums, if_neg h]; rfl
      have l2 : (putKD nk (.inl s) (.tup ((numsOf L s ++ [m + 1]).map D.int))).length = nk.length := by
        exact putKD_same hn
      omega
theorem begin_ok {L : List Ent} {m s : Int} {nk : List (Key × D)} {A : AH} (T : Snp L m nk A) (O : Ok L m nk) (h0 : 0 ≤ s) (hm : m < 40) :
    ∃ A', beginX [.ref 2, .int s] A = .ok (.int (m + 1)) A' ∧ Snp (L ++ [(m + 1, s)]) (m + 1) (addN nk L m s) A' ∧ Frm A A' := by
  have few := O.few
  have nlen := O.nlen
  have num := num_int (s := s) (A := A)
  rw [decide_eq_true h0] at num
  have new : ∀ p ∈ L, p.1 ≠ m + 1 := fun p hp => by have := (O.lo p hp).2.1; omega
  -- last
  have P1 := Put.set (o := .ins "Snapshots" (snapF (m + 1))) T.ins
  have F1 := Frm.set (A := A) (k := 2) (o := .ins "Snapshots" (snapF (m + 1))) (by decide) (by decide)
  have s1 : mAddF "Snapshots" "last" (mVar 0) (mK (.int 1)) [some (.ref 2), some (.int s)] A = .nx [some (.ref 2), some (.int s)] (A.set 2 (.ins "Snapshots" (snapF (m + 1)))) :=
    addF_run (C := "Snapshots") (u := m) (v := 1) rfl T.ins rfl rfl T.ins (by show 4 < 1000; decide)
  generalize hA1 : A.set 2 (.ins "Snapshots" (snapF (m + 1))) = A1 at P1 F1 s1
  have told1 : A1[3]? = some (.dk (toldK L)) := (P1.2.2 3 (by decide)).trans T.told
  have plc1 : A1[4]? = some (.lst ((plcOf L).map D.int)) := (P1.2.2 4 (by decide)).trans T.plc
  have num1 : A1[5]? = some (.dk nk) := (P1.2.2 5 (by decide)).trans T.num
  have ins1 := P1.2.1
  -- told
  have s2 : mDPut (mVar 1) (mFld "Snapshots" "told" (mVar 0)) (mFld "Snapshots" "last" (mVar 0)) [some (.ref 2), some (.int s)] A1 = .nx [some (.ref 2), some (.int s)] (A1.set 3 (.dk (toldK (L ++ [(m + 1, s)])))) := by
    rw [← told_add new]
    exact dput_run (y := .int s) rfl (told0 ins1 rfl) (last0 ins1 rfl) told1 rfl (by unfold toldK; rw [List.length_map]; omega)
  have P2 := Put.set (o := .dk (toldK (L ++ [(m + 1, s)]))) told1
  have F2 := F1.trans (Frm.set (A := A1) (k := 3) (o := .dk (toldK (L ++ [(m + 1, s)]))) (by decide) (by decide))
  generalize hA2 : A1.set 3 (.dk (toldK (L ++ [(m + 1, s)]))) = A2 at P2 F2 s2
  have told2 := P2.2.1
  have plc2 := (P2.2.2 4 (by decide)).trans plc1
  have num2 := (P2.2.2 5 (by decide)).trans num1
  have ins2 := (P2.2.2 2 (by decide)).trans ins1
  -- a new stamp, perhaps
  obtain ⟨nk1, A3, s3, ins3, told3, plc3, num3, F3, hv, hl, e1⟩ : ∃ nk1 A3, (mIfS (mTst (mOp (fDIn true) (mVar 1) (mFld "Snapshots" "numbers" (mVar 0)))) (mSeq (mDrop (mMet fInsL (mFld "Snapshots" "places" (mVar 0)) (mCons (mMeth "Snapshots" "lives_below" 2 belowX (mVar 0) (mCons (mVar 1) (mNil))) (mCons (mVar 1) (mNil))))) (mDPut (mTup (mNil)) (mFld "Snapshots" "numbers" (mVar 0)) (mVar 1))) (mNext)) [some (.ref 2), some (.int s)] A2
      = .nx [some (.ref 2), some (.int s)] A3 ∧ A3[2]? = some (.ins "Snapshots" (snapF (m + 1))) ∧ A3[3]? = some (.dk (toldK (L ++ [(m + 1, s)]))) ∧ A3[4]? = some (.lst ((insS s (plcOf L)).map D.int)) ∧ A3[5]? = some (.dk nk1) ∧ Frm A A3 ∧ valD nk1 (.inl s) = some (.tup ((numsOf L s).map D.int)) ∧ nk1.length ≤ 50
      ∧ nk1 = (if numsOf L s = [] then putKD nk (.inl s) (.tup []) else nk) := by
    have nv := O.nums s
    by_cases hz : numsOf L s = []
    · rw [if_pos hz] at nv
      have hin : fDIn true (.int s) (.ref 5) A2 = .ok (.bl true) A2 := by rw [din_is num2 rfl, nv]; rfl
      have hs := nums_nil.mp hz
      have bl := below_ok ins2 plc2 (plc_up L) (by have := plc_len L; omega) (s := s)
      have mt : mMeth "Snapshots" "lives_below" 2 belowX (mVar 0) (mCons (mVar 1) (mNil)) [some (.ref 2), some (.int s)] A2 = .ok (.int (cnt (plcOf L) s : Nat)) A2 :=
        (meth_run (ds := [.int s]) rfl ins2 rfl rfl rfl).trans bl
      have c0 := cnt_le (plcOf L) s
      have c1 := plc_len L
      have il := insL_run (A := A2) (k := 4) (xs := (plcOf L).map D.int) (x := .int s) plc2 (z := (cnt (plcOf L) s : Nat)) (by rw [List.length_map]; omega)
      have eL : ((plcOf L).map D.int).take ((cnt (plcOf L) s : Nat) : Int).toNat ++ [D.int s] ++ ((plcOf L).map D.int).drop ((cnt (plcOf L) s : Nat) : Int).toNat = (insS s (plcOf L)).map D.int := by
        rw [← ins_at (plc_up L) hs]
        simp [List.map_take, List.map_drop]
      rw [eL] at il
      have P3 := Put.set (o := .lst ((insS s (plcOf L)).map D.int)) plc2
      have F3 := F2.trans (Frm.set (A := A2) (k := 4) (o := .lst ((insS s (plcOf L)).map D.int)) (by decide) (by decide))
      generalize hA3 : A2.set 4 (.lst ((insS s (plcOf L)).map D.int)) = A3 at P3 F3 il
      have ins3 := (P3.2.2 2 (by decide)).trans ins2
      have num3 := (P3.2.2 5 (by decide)).trans num2
      have told3 := (P3.2.2 3 (by decide)).trans told2
      have s4 : mDPut (mTup (mNil)) (mFld "Snapshots" "numbers" (mVar 0)) (mVar 1) [some (.ref 2), some (.int s)] A3 = .nx [some (.ref 2), some (.int s)] (A3.set 5 (.dk (putKD nk (.inl s) (.tup [])))) :=
        dput_run (y := .tup []) rfl (num0 ins3 rfl) rfl num3 rfl (by omega)
      have P4 := Put.set (o := .dk (putKD nk (.inl s) (.tup []))) num3
      have F4 := F3.trans (Frm.set (A := A3) (k := 5) (o := .dk (putKD nk (.inl s) (.tup []))) (by decide) (by decide))
      refine ⟨putKD nk (.inl s) (.tup []), _, ?_, (P4.2.2 2 (by decide)).trans ins3, (P4.2.2 3 (by decide)).trans told3, (P4.2.2 4 (by decide)).trans P3.2.1, P4.2.1, F4, by rw [valD_put, if_pos rfl, hz]; rfl, by have := putKD_len (kvs := nk) (a := .inl s) (x := .tup []); omega, by rw [if_pos hz]⟩
      have hmet : mMet fInsL (mFld "Snapshots" "places" (mVar 0)) (mCons (mMeth "Snapshots" "lives_below" 2 belowX (mVar 0) (mCons (mVar 1) (mNil))) (mCons (mVar 1) (mNil))) [some (.ref 2), some (.int s)] A2 = .ok .non A3 := by
        simp only [ev_var, ev_K, ev_op, ev_neg, ev_tst, ev_and, ev_or, ev_not, ev_andV, ev_orV, ev_notV, ev_if, ev_chn, ev_nil, ev_cons, ev_tup, ev_lst, ev_new, ev_call, ev_callF, ev_callK, ev_met, ev_sl, ev_some, ev_none, ev_rev, ev_yes, ev_sq, ev_next, ev_drop, ev_ret, ev_ifs, ev_set, ev_par2, ev_par3, ev_asg, ev_nm, List.getElem?_cons_zero, List.getElem?_cons_succ, List.set_cons_zero, List.set_cons_succ, bind_ok, lift_ok, List.length_cons, List.length_nil, Nat.reduceAdd, Nat.reduceLeDiff, ↓reduceIte, if_true, if_false, Bool.false_eq_true, plc0 ins2, plc2, mt, il]
      simp only [ev_var, ev_K, ev_op, ev_neg, ev_tst, ev_and, ev_or, ev_not, ev_andV, ev_orV, ev_notV, ev_if, ev_chn, ev_nil, ev_cons, ev_tup, ev_lst, ev_new, ev_call, ev_callF, ev_callK, ev_met, ev_sl, ev_some, ev_none, ev_rev, ev_yes, ev_sq, ev_next, ev_drop, ev_ret, ev_ifs, ev_set, ev_par2, ev_par3, ev_asg, ev_nm, List.getElem?_cons_zero, List.getElem?_cons_succ, List.set_cons_zero, List.set_cons_succ, bind_ok, lift_ok, List.length_cons, List.length_nil, Nat.reduceAdd, Nat.reduceLeDiff, ↓reduceIte, if_true, if_false, Bool.false_eq_true, num0 ins2, hin]
      refine (seq_nx (ρ1 := [some (.ref 2), some (.int s)]) (A1 := A3) ?_).trans s4
      simp only [ev_drop, hmet, lift_ok]
    · rw [if_neg hz] at nv
      have hin : fDIn true (.int s) (.ref 5) A2 = .ok (.bl false) A2 := by rw [din_is num2 rfl, nv]; rfl
      have hs : s ∈ plcOf L := by
        by_cases h : s ∈ plcOf L
        · exact h
        · exact absurd (nums_nil.mpr h) hz
      refine ⟨nk, A2, ?_, ins2, told2, by rw [insS_mem (plc_up L) hs]; exact plc2, num2, F2, nv, by omega, by rw [if_neg hz]⟩
      simp only [ev_var, ev_K, ev_op, ev_neg, ev_tst, ev_and, ev_or, ev_not, ev_andV, ev_orV, ev_notV, ev_if, ev_chn, ev_nil, ev_cons, ev_tup, ev_lst, ev_new, ev_call, ev_callF, ev_callK, ev_met, ev_sl, ev_some, ev_none, ev_rev, ev_yes, ev_sq, ev_next, ev_drop, ev_ret, ev_ifs, ev_set, ev_par2, ev_par3, ev_asg, ev_nm, List.getElem?_cons_zero, List.getElem?_cons_succ, List.set_cons_zero, List.set_cons_succ, bind_ok, lift_ok, List.length_cons, List.length_nil, Nat.reduceAdd, Nat.reduceLeDiff, ↓reduceIte, if_true, if_false, Bool.false_eq_true, num0 ins2, hin]
  -- its numbers
  have get := dget_run (A := A3) (e := .int s) (key := .inl s) num3 rfl hv
  have ad : fAdd (.tup ((numsOf L s).map D.int)) (.tup [.int (m + 1)]) A3 = .ok (.tup ((numsOf L s ++ [m + 1]).map D.int)) A3 := by
    have := nums_len L s
    simp [fAdd]
    omega
  have s5 : mDPut (mOp fAdd (mOp fDGet (mFld "Snapshots" "numbers" (mVar 0)) (mVar 1)) (mTup (mCons (mFld "Snapshots" "last" (mVar 0)) (mNil)))) (mFld "Snapshots" "numbers" (mVar 0)) (mVar 1) [some (.ref 2), some (.int s)] A3
      = .nx [some (.ref 2), some (.int s)] (A3.set 5 (.dk (addN nk L m s))) := by
    unfold addN
    rw [← e1]
    refine dput_run (y := .tup ((numsOf L s ++ [m + 1]).map D.int)) ?_ (num0 ins3 rfl) rfl num3 rfl (by omega)
    simp only [ev_var, ev_K, ev_op, ev_neg, ev_tst, ev_and, ev_or, ev_not, ev_andV, ev_orV, ev_notV, ev_if, ev_chn, ev_nil, ev_cons, ev_tup, ev_lst, ev_new, ev_call, ev_callF, ev_callK, ev_met, ev_sl, ev_some, ev_none, ev_rev, ev_yes, ev_sq, ev_next, ev_drop, ev_ret, ev_ifs, ev_set, ev_par2, ev_par3, ev_asg, ev_nm, List.getElem?_cons_zero, List.getElem?_cons_succ, List.set_cons_zero, List.set_cons_succ, bind_ok, lift_ok, List.length_cons, List.length_nil, Nat.reduceAdd, Nat.reduceLeDiff, ↓reduceIte, if_true, if_false, Bool.false_eq_true, num0 ins3, last0 ins3, get, ad]
  have P5 := Put.set (o := .dk (addN nk L m s)) num3
  have F5 := F3.trans (Frm.set (A := A3) (k := 5) (o := .dk (addN nk L m s)) (by decide) (by decide))
  refine ⟨A3.set 5 (.dk (addN nk L m s)), ?_, ⟨(P5.2.2 2 (by decide)).trans ins3, (P5.2.2 3 (by decide)).trans told3, ?_, P5.2.1⟩, F5⟩
  · unfold beginX m_Snapshots__begin
    refine fun_rt ?_
    refine (seq_nx (ρ1 := [some (.ref 2), some (.int s)]) (A1 := A) ?_).trans ?_
    · simp only [ev_var, ev_K, ev_op, ev_neg, ev_tst, ev_and, ev_or, ev_not, ev_andV, ev_orV, ev_notV, ev_if, ev_chn, ev_nil, ev_cons, ev_tup, ev_lst, ev_new, ev_call, ev_callF, ev_callK, ev_met, ev_sl, ev_some, ev_none, ev_rev, ev_yes, ev_sq, ev_next, ev_drop, ev_ret, ev_ifs, ev_set, ev_par2, ev_par3, ev_asg, ev_nm, List.getElem?_cons_zero, List.getElem?_cons_succ, List.set_cons_zero, List.set_cons_succ, bind_ok, lift_ok, List.length_cons, List.length_nil, Nat.reduceAdd, Nat.reduceLeDiff, ↓reduceIte, if_true, if_false, Bool.false_eq_true, ev_raise, and_self, List.map_cons, List.map_nil, List.replicate, List.cons_append, List.nil_append, Nat.reduceSub, num, Bool.not_true]
    refine (seq_nx s1).trans ((seq_nx s2).trans ((seq_nx s3).trans ((seq_nx s5).trans ?_)))
    simp only [ev_var, ev_K, ev_op, ev_neg, ev_tst, ev_and, ev_or, ev_not, ev_andV, ev_orV, ev_notV, ev_if, ev_chn, ev_nil, ev_cons, ev_tup, ev_lst, ev_new, ev_call, ev_callF, ev_callK, ev_met, ev_sl, ev_some, ev_none, ev_rev, ev_yes, ev_sq, ev_next, ev_drop, ev_ret, ev_ifs, ev_set, ev_par2, ev_par3, ev_asg, ev_nm, List.getElem?_cons_zero, List.getElem?_cons_succ, List.set_cons_zero, List.set_cons_succ, bind_ok, lift_ok, List.length_cons, List.length_nil, Nat.reduceAdd, Nat.reduceLeDiff, ↓reduceIte, if_true, if_false, Bool.false_eq_true, last0 ((P5.2.2 2 (by decide)).trans ins3)]
  · rw [plc_add]
    exact (P5.2.2 4 (by decide)).trans plc3
end K18
end
section
set_option maxHeartbeats 1000000
namespace K18
open PySem PySem.Spec PyProof.Rows L2 DM
/-! ### stamp_of, close -/
noncomputable abbrev stampX : List D → AH → Res D := m_Snapshots__stamp_of m_is_integer
noncomputable abbrev closeX : List D → AH → Res D := m_Snapshots__close stampX
section
variable {L : List Ent} {m : Int} {nk : List (Key × D)} {A : AH}
/-- what any number tells: its stamp, or none -/
def askOf (L : List Ent) : D → Option Int
  | .int n => stOf L n
  | _ => none
theorem stamp_told (T : Snp L m nk A) {n s : Int} (h : stOf L n = some s) : stampX [.ref 2, .int n] A = .ok (.int s) A := by
  have e := int_run (x := .int n) (A := A) (t := "int") rfl
  have hv : valD (toldK L) (.inl n) = some (.int s) := by rw [told_val, h]; rfl
  have hin : fDIn true (.int n) (.ref 3) A = .ok (.bl false) A := by rw [din_is T.told rfl, hv]; rfl
  have get := dget_run (A := A) (e := .int n) (key := .inl n) T.told rfl hv
  unfold stampX m_Snapshots__stamp_of
  refine fun_rt ?_
  refine (seq_nx (ρ1 := [some (.ref 2), some (.int n)]) (A1 := A) ?_).trans ?_
  · simp only [ev_var, ev_K, ev_op, ev_neg, ev_tst, ev_and, ev_or, ev_not, ev_andV, ev_orV, ev_notV, ev_if, ev_chn, ev_nil, ev_cons, ev_tup, ev_lst, ev_new, ev_call, ev_callF, ev_callK, ev_met, ev_sl, ev_some, ev_none, ev_rev, ev_yes, ev_sq, ev_next, ev_drop, ev_ret, ev_ifs, ev_set, ev_par2, ev_par3, ev_asg, ev_nm, List.getElem?_cons_zero, List.getElem?_cons_succ, List.set_cons_zero, List.set_cons_succ, bind_ok, lift_ok, List.length_cons, List.length_nil, Nat.reduceAdd, Nat.reduceLeDiff, ↓reduceIte, if_true, if_false, Bool.false_eq_true, ev_raise, and_self, List.map_cons, List.map_nil, List.replicate, List.cons_append, List.nil_append, Nat.reduceSub, e, told0 T.ins, hin, isB, Bool.not_false, Bool.not_true]
    simp
  · simp only [ev_var, ev_K, ev_op, ev_neg, ev_tst, ev_and, ev_or, ev_not, ev_andV, ev_orV, ev_notV, ev_if, ev_chn, ev_nil, ev_cons, ev_tup, ev_lst, ev_new, ev_call, ev_callF, ev_callK, ev_met, ev_sl, ev_some, ev_none, ev_rev, ev_yes, ev_sq, ev_next, ev_drop, ev_ret, ev_ifs, ev_set, ev_par2, ev_par3, ev_asg, ev_nm, List.getElem?_cons_zero, List.getElem?_cons_succ, List.set_cons_zero, List.set_cons_succ, bind_ok, lift_ok, List.length_cons, List.length_nil, Nat.reduceAdd, Nat.reduceLeDiff, ↓reduceIte, if_true, if_false, Bool.false_eq_true, ev_raise, and_self, List.map_cons, List.map_nil, List.replicate, List.cons_append, List.nil_append, Nat.reduceSub, told0 T.ins, get]
theorem stamp_none (T : Snp L m nk A) {x : D} {t : String} (ht : tyName A x = some t) (h : askOf L x = none) (hr : ∀ k, x ≠ .ref k) : stampX [.ref 2, x] A = .exc "NoName" [("name", x)] A := by
  have e := int_run ht
  unfold stampX m_Snapshots__stamp_of
  refine fun_exc (ρ1 := [some (.ref 2), some x]) (seq_exc ?_)
  by_cases hi : ∃ n, x = .int n
  · obtain ⟨n, rfl⟩ := hi
    cases ht
    have hv : valD (toldK L) (.inl n) = none := by rw [told_val, show stOf L n = none from h]; rfl
    have hin : fDIn true (.int n) (.ref 3) A = .ok (.bl true) A := by rw [din_is T.told rfl, hv]; rfl
    simp only [ev_var, ev_K, ev_op, ev_neg, ev_tst, ev_and, ev_or, ev_not, ev_andV, ev_orV, ev_notV, ev_if, ev_chn, ev_nil, ev_cons, ev_tup, ev_lst, ev_new, ev_call, ev_callF, ev_callK, ev_met, ev_sl, ev_some, ev_none, ev_rev, ev_yes, ev_sq, ev_next, ev_drop, ev_ret, ev_ifs, ev_set, ev_par2, ev_par3, ev_asg, ev_nm, List.getElem?_cons_zero, List.getElem?_cons_succ, List.set_cons_zero, List.set_cons_succ, bind_ok, lift_ok, List.length_cons, List.length_nil, Nat.reduceAdd, Nat.reduceLeDiff, ↓reduceIte, if_true, if_false, Bool.false_eq_true, ev_raise, and_self, List.map_cons, List.map_nil, List.replicate, List.cons_append, List.nil_append, Nat.reduceSub, e, told0 T.ins, hin, isB, Bool.not_false, Bool.not_true, ev_raise]
    simp
  · have e2 : (isB t "int" && !isB t "bool") = false := by
      cases x with
      | int n => exact absurd ⟨n, rfl⟩ hi
      | ref k => exact absurd rfl (hr k)
      | _ => simp only [tyName] at ht <;> first | (cases ht; done) | (cases ht; rfl)
    rw [e2] at e
    simp only [ev_var, ev_K, ev_op, ev_neg, ev_tst, ev_and, ev_or, ev_not, ev_andV, ev_orV, ev_notV, ev_if, ev_chn, ev_nil, ev_cons, ev_tup, ev_lst, ev_new, ev_call, ev_callF, ev_callK, ev_met, ev_sl, ev_some, ev_none, ev_rev, ev_yes, ev_sq, ev_next, ev_drop, ev_ret, ev_ifs, ev_set, ev_par2, ev_par3, ev_asg, ev_nm, List.getElem?_cons_zero, List.getElem?_cons_succ, List.set_cons_zero, List.set_cons_succ, bind_ok, lift_ok, List.length_cons, List.length_nil, Nat.reduceAdd, Nat.reduceLeDiff, ↓reduceIte, if_true, if_false, Bool.false_eq_true, ev_raise, and_self, List.map_cons, List.map_nil, List.replicate, List.cons_append, List.nil_append, Nat.reduceSub, e, Bool.not_false, ev_raise]
def drop1 (L : List Ent) (n : Int) : List Ent := L.filter fun p => decide (p.1 ≠ n)
def subN (nk : List (Key × D)) (L : List Ent) (n s : Int) : List (Key × D) :=
  if numsOf (drop1 L n) s = [] then dropKD (putKD nk (.inl s) (.tup [])) (.inl s) else putKD nk (.inl s) (.tup ((numsOf (drop1 L n) s).map D.int))
theorem nums_drop (L : List Ent) (n k : Int) : numsOf (drop1 L n) k = (numsOf L k).filter fun i => decide (i ≠ n) := by
  unfold numsOf drop1
  rw [List.filter_map, List.filter_filter, List.filter_filter]
  congr 1
  apply List.filter_congr
  intro p _
  simp [Bool.and_comm]
theorem nums_other (O : Ok L m nk) {n s k : Int} (h : (n, s) ∈ L) (hk : s ≠ k) : numsOf (drop1 L n) k = numsOf L k := by
  rw [nums_drop, List.filter_eq_self]
  intro i hi
  unfold numsOf at hi
  obtain ⟨p, hp, rfl⟩ := List.mem_map.mp hi
  obtain ⟨hp1, hp2⟩ := List.mem_filter.mp hp
  refine decide_eq_true fun z => hk ?_
  have e : p = (n, s) := num_one O.up hp1 h z
  rw [e] at hp2
  simpa using hp2
theorem nums_some (O : Ok L m nk) {n s : Int} (h : (n, s) ∈ L) : numsOf L s ≠ [] := fun z => nums_nil.mp z (mem_plc.mpr ⟨_, h, rfl⟩)
theorem plc_drop_keep (O : Ok L m nk) {n s : Int} (h : (n, s) ∈ L) (hz : numsOf (drop1 L n) s ≠ []) : plcOf (drop1 L n) = plcOf L := by
  refine up_ext (plc_up _) (plc_up _) fun k => ?_
  by_cases hk : s = k
  · subst hk
    have a : s ∈ plcOf (drop1 L n) := by
      by_cases c : s ∈ plcOf (drop1 L n)
      · exact c
      · exact absurd (nums_nil.mpr c) hz
    exact ⟨fun _ => mem_plc.mpr ⟨_, h, rfl⟩, fun _ => a⟩
  · have e := nums_other O h hk
    have z : k ∉ plcOf (drop1 L n) ↔ k ∉ plcOf L := by rw [← nums_nil, ← nums_nil, e]
    exact Decidable.not_iff_not.mp z
theorem plc_drop_gone (O : Ok L m nk) {n s : Int} (h : (n, s) ∈ L) (hz : numsOf (drop1 L n) s = []) : (plcOf L).erase s = plcOf (drop1 L n) := by
  have nd : (plcOf L).Nodup := (plc_up L).imp fun h => by omega
  refine up_ext (List.Pairwise.sublist List.erase_sublist (plc_up L)) (plc_up _) fun k => ?_
  rw [nd.mem_erase_iff]
  by_cases hk : s = k
  · subst hk
    have := nums_nil.mp hz
    simp [this]
  · have e := nums_other O h hk
    have z : k ∉ plcOf (drop1 L n) ↔ k ∉ plcOf L := by rw [← nums_nil, ← nums_nil, e]
    rw [Decidable.not_iff_not.mp z]
    exact ⟨fun x => x.2, fun x => ⟨fun y => hk y.symm, x⟩⟩
theorem ok_drop (O : Ok L m nk) {n s : Int} (h : (n, s) ∈ L) : Ok (drop1 L n) m (subN nk L n s) where
  up := by
    have := List.filter_sublist (l := L) (p := fun p => decide (p.1 ≠ n))
    exact List.Pairwise.sublist (this.map (·.1)) O.up
  lo := fun p hp => O.lo p (List.mem_filter.mp hp).1
  few := by
    have := List.length_filter_le (fun p : Ent => decide (p.1 ≠ n)) L
    have := O.few
    unfold drop1
    omega
  most := O.most
  nums := fun k => by
    unfold subN
    by_cases hk : s = k
    · subst hk
      by_cases hz : numsOf (drop1 L n) s = []
      · rw [if_pos hz, if_pos hz, valD_drop, if_pos rfl]
      · rw [if_neg hz, if_neg hz, valD_put, if_pos rfl]
    · have h' : ¬ (Sum.inl s : Key) = Sum.inl k := fun z => hk (Sum.inl.inj z)
      rw [nums_other O h hk]
      split
      · rw [valD_drop, if_neg h', valD_put, if_neg h']
        exact O.nums k
      · rw [valD_put, if_neg h']
        exact O.nums k
  nlen := by
    have a := O.nlen
    have hn : (valD nk (.inl s)).isSome = true := by rw [O.nums, if_neg (nums_some O h)]; rfl
    unfold subN
    split
    · have := dropKD_len (kvs := putKD nk (.inl s) (.tup [])) (a := .inl s)
      rw [putKD_same hn] at this
      omega
    · rw [putKD_same hn]
      exact a
theorem close_ok (T : Snp L m nk A) (O : Ok L m nk) {n s : Int} (h : stOf L n = some s) : ∃ A', closeX [.ref 2, .int n] A = .ok (.int s) A' ∧ Snp (drop1 L n) m (subN nk L n s) A' ∧ Frm A A' := by
  have mem := stOf_mem h
  have few := O.few
  have most := O.most
  have nlen := O.nlen
  have hv : valD (toldK L) (.inl n) = some (.int s) := by rw [told_val, h]; rfl
  have nv := O.nums s
  rw [if_neg (nums_some O mem)] at nv
  have mt : mMeth "Snapshots" "stamp_of" 2 stampX (mVar 0) (mCons (mVar 1) (mNil)) [some (.ref 2), some (.int n), none, none, none] A = .ok (.int s) A :=
    (meth_run (ds := [.int n]) rfl T.ins rfl rfl rfl).trans (stamp_told T h)
  -- told
  have s2 : mDPop (mFld "Snapshots" "told" (mVar 0)) (mVar 1) [some (.ref 2), some (.int n), some (.int s), none, none] A = .ok (.int s) (A.set 3 (.dk (toldK (drop1 L n)))) := by
    unfold drop1
    rw [← told_drop]
    exact dpop_run (e := .int n) (told0 T.ins rfl) T.told rfl rfl hv
  have P2 := Put.set (o := .dk (toldK (drop1 L n))) T.told
  have F2 := Frm.set (A := A) (k := 3) (o := .dk (toldK (drop1 L n))) (by decide) (by decide)
  generalize hA2 : A.set 3 (.dk (toldK (drop1 L n))) = A2 at P2 F2 s2
  have ins2 := (P2.2.2 2 (by decide)).trans T.ins
  have plc2 := (P2.2.2 4 (by decide)).trans T.plc
  have num2 := (P2.2.2 5 (by decide)).trans T.num
  -- left
  have get := dget_run (A := A2) (e := .int s) (key := .inl s) num2 rfl nv
  have nl := nums_len L s
  have c1 : compGo (.sq (.tup ((numsOf L s).map D.int))) ((numsOf L s).map D.int) (.nm 4) (mTst (mOp (fEq true) (mVar 4) (mVar 1))) (mVar 4) [some (.ref 2), some (.int n), some (.int s), none, none] ((numsOf L s).map D.int) [] A2 = .ok ((numsOf (drop1 L n) s).map D.int) A2 := by
    rw [comp_pure (p := fun d => match d with | .int i => !decide (i = n) | _ => true) (f := fun d => d) rfl _ _ fun x hx => ?_]
    · rw [nums_drop, List.map_id', List.filter_map, List.nil_append]
      congr 1
      congr 1
      apply List.filter_congr
      intro i _
      simp
    · obtain ⟨i, _, rfl⟩ := List.mem_map.mp hx
      refine ⟨_, rfl, ?_, fun _ => rfl⟩
      simp only [ev_var, ev_K, ev_op, ev_neg, ev_tst, ev_and, ev_or, ev_not, ev_andV, ev_orV, ev_notV, ev_if, ev_chn, ev_nil, ev_cons, ev_tup, ev_lst, ev_new, ev_call, ev_callF, ev_callK, ev_met, ev_sl, ev_some, ev_none, ev_rev, ev_yes, ev_sq, ev_next, ev_drop, ev_ret, ev_ifs, ev_set, ev_par2, ev_par3, ev_asg, ev_nm, List.getElem?_cons_zero, List.getElem?_cons_succ, List.set_cons_zero, List.set_cons_succ, bind_ok, lift_ok, List.length_cons, List.length_nil, Nat.reduceAdd, Nat.reduceLeDiff, ↓reduceIte, if_true, if_false, Bool.false_eq_true, ev_raise, and_self, List.map_cons, List.map_nil, List.replicate, List.cons_append, List.nil_append, Nat.reduceSub, ne_ii]
  have s3 : mSet 3 (mCall fTup (mCons (mLc false (mSq (mOp fDGet (mFld "Snapshots" "numbers" (mVar 0)) (mVar 2))) (.nm 4) (mTst (mOp (fEq true) (mVar 4) (mVar 1))) (mVar 4) [4]) (mNil))) [some (.ref 2), some (.int n), some (.int s), none, none] A2
      = .nx [some (.ref 2), some (.int n), some (.int s), some (.tup ((numsOf (drop1 L n) s).map D.int)), none] A2 := by
    have l16 : ((numsOf L s).map D.int).length ≤ 16777216 := by rw [List.length_map]; omega
    simp only [ev_var, ev_K, ev_op, ev_neg, ev_tst, ev_and, ev_or, ev_not, ev_andV, ev_orV, ev_notV, ev_if, ev_chn, ev_nil, ev_cons, ev_tup, ev_lst, ev_new, ev_call, ev_callF, ev_callK, ev_met, ev_sl, ev_some, ev_none, ev_rev, ev_yes, ev_sq, ev_next, ev_drop, ev_ret, ev_ifs, ev_set, ev_par2, ev_par3, ev_asg, ev_nm, List.getElem?_cons_zero, List.getElem?_cons_succ, List.set_cons_zero, List.set_cons_succ, bind_ok, lift_ok, List.length_cons, List.length_nil, Nat.reduceAdd, Nat.reduceLeDiff, ↓reduceIte, if_true, if_false, Bool.false_eq_true, ev_lc, num0 ins2, get, seqOf, itemsOf, l16, wipeD, List.foldl_cons, List.foldl_nil, c1, fTup]
  have s4 : mDPut (mVar 3) (mFld "Snapshots" "numbers" (mVar 0)) (mVar 2) [some (.ref 2), some (.int n), some (.int s), some (.tup ((numsOf (drop1 L n) s).map D.int)), none] A2
      = .nx [some (.ref 2), some (.int n), some (.int s), some (.tup ((numsOf (drop1 L n) s).map D.int)), none] (A2.set 5 (.dk (putKD nk (.inl s) (.tup ((numsOf (drop1 L n) s).map D.int))))) :=
    dput_run (y := .tup ((numsOf (drop1 L n) s).map D.int)) rfl (num0 ins2 rfl) rfl num2 rfl (by omega)
  have P4 := Put.set (o := .dk (putKD nk (.inl s) (.tup ((numsOf (drop1 L n) s).map D.int)))) num2
  have F4 := F2.trans (Frm.set (A := A2) (k := 5) (o := .dk (putKD nk (.inl s) (.tup ((numsOf (drop1 L n) s).map D.int)))) (by decide) (by decide))
  generalize hA4 : A2.set 5 (.dk (putKD nk (.inl s) (.tup ((numsOf (drop1 L n) s).map D.int)))) = A4 at P4 F4 s4
  have ins4 := (P4.2.2 2 (by decide)).trans ins2
  have plc4 := (P4.2.2 4 (by decide)).trans plc2
  have told4 := (P4.2.2 3 (by decide)).trans P2.2.1
  have num4 := P4.2.1
  have fin : ∀ {A6 : AH} (k5 : mIfS (mTst (mOp (fEq false) (mVar 3) (mTup (mNil)))) (mSeq (mDrop (mDPop (mFld "Snapshots" "numbers" (mVar 0)) (mVar 2))) (mDrop (mRemL (mFld "Snapshots" "places" (mVar 0)) (mVar 2)))) (mNext) [some (.ref 2), some (.int n), some (.int s), some (.tup ((numsOf (drop1 L n) s).map D.int)), none] A4
      = .nx [some (.ref 2), some (.int n), some (.int s), some (.tup ((numsOf (drop1 L n) s).map D.int)), none] A6), closeX [.ref 2, .int n] A = .ok (.int s) A6 := fun {A6} k5 => by
    unfold closeX m_Snapshots__close
    refine fun_rt ?_
    refine (seq_nx (ρ1 := [some (.ref 2), some (.int n), some (.int s), none, none]) (A1 := A) ?_).trans ?_
    · simp only [ev_var, ev_K, ev_op, ev_neg, ev_tst, ev_and, ev_or, ev_not, ev_andV, ev_orV, ev_notV, ev_if, ev_chn, ev_nil, ev_cons, ev_tup, ev_lst, ev_new, ev_call, ev_callF, ev_callK, ev_met, ev_sl, ev_some, ev_none, ev_rev, ev_yes, ev_sq, ev_next, ev_drop, ev_ret, ev_ifs, ev_set, ev_par2, ev_par3, ev_asg, ev_nm, List.getElem?_cons_zero, List.getElem?_cons_succ, List.set_cons_zero, List.set_cons_succ, bind_ok, lift_ok, List.length_cons, List.length_nil, Nat.reduceAdd, Nat.reduceLeDiff, ↓reduceIte, if_true, if_false, Bool.false_eq_true, ev_raise, and_self, List.map_cons, List.map_nil, List.replicate, List.cons_append, List.nil_append, Nat.reduceSub, mt]
    refine (seq_nx (ρ1 := [some (.ref 2), some (.int n), some (.int s), none, none]) (A1 := A2) ?_).trans ?_
    · simp only [ev_drop, s2, lift_ok]
    refine (seq_nx s3).trans ((seq_nx s4).trans ((seq_nx k5).trans ?_))
    simp only [ev_var, ev_K, ev_op, ev_neg, ev_tst, ev_and, ev_or, ev_not, ev_andV, ev_orV, ev_notV, ev_if, ev_chn, ev_nil, ev_cons, ev_tup, ev_lst, ev_new, ev_call, ev_callF, ev_callK, ev_met, ev_sl, ev_some, ev_none, ev_rev, ev_yes, ev_sq, ev_next, ev_drop, ev_ret, ev_ifs, ev_set, ev_par2, ev_par3, ev_asg, ev_nm, List.getElem?_cons_zero, List.getElem?_cons_succ, List.set_cons_zero, List.set_cons_succ, bind_ok, lift_ok, List.length_cons, List.length_nil, Nat.reduceAdd, Nat.reduceLeDiff, ↓reduceIte, if_true, if_false, Bool.false_eq_true]
  have eqn : fEq false (.tup ((numsOf (drop1 L n) s).map D.int)) (.tup []) A4 = .ok (.bl (numsOf (drop1 L n) s).isEmpty) A4 := by
    have h1 : toPyA A4 (.tup ((numsOf (drop1 L n) s).map D.int)) = some (.tuple ((numsOf (drop1 L n) s).map PyData.int)) := toPyA_of (by rw [toPy, toPys_ints]; rfl)
    have h2 : toPyA A4 (.tup []) = some (.tuple []) := toPyA_of rfl
    rw [eq_pyS h1 h2 rfl (shaped_tints _) (by decide +kernel)]
    cases numsOf (drop1 L n) s with
    | nil => rfl
    | cons a r => rfl
  by_cases hz : numsOf (drop1 L n) s = []
  · have hp : valD (putKD nk (.inl s) (.tup ((numsOf (drop1 L n) s).map D.int))) (.inl s) = some (.tup ((numsOf (drop1 L n) s).map D.int)) := by rw [valD_put, if_pos rfl]
    have s5 : mDPop (mFld "Snapshots" "numbers" (mVar 0)) (mVar 2) [some (.ref 2), some (.int n), some (.int s), some (.tup ((numsOf (drop1 L n) s).map D.int)), none] A4 = .ok (.tup ((numsOf (drop1 L n) s).map D.int)) (A4.set 5 (.dk (subN nk L n s))) := by
      have := dpop_run (e := .int s) (me := mVar 2) (num0 ins4 (ρ := [some (.ref 2), some (.int n), some (.int s), some (.tup ((numsOf (drop1 L n) s).map D.int)), none]) rfl) num4 rfl rfl hp
      unfold subN
      rw [if_pos hz]
      rw [hz] at this ⊢
      exact this
    have P5 := Put.set (o := .dk (subN nk L n s)) num4
    have F5 := F4.trans (Frm.set (A := A4) (k := 5) (o := .dk (subN nk L n s)) (by decide) (by decide))
    generalize hA5 : A4.set 5 (.dk (subN nk L n s)) = A5 at P5 F5 s5
    have ins5 := (P5.2.2 2 (by decide)).trans ins4
    have plc5 := (P5.2.2 4 (by decide)).trans plc4
    have s6 := remL_run (me := mVar 2) (plc0 ins5 (ρ := [some (.ref 2), some (.int n), some (.int s), some (.tup ((numsOf (drop1 L n) s).map D.int)), none]) rfl) plc5 (z := s) rfl (mem_plc.mpr ⟨_, mem, rfl⟩)
    rw [plc_drop_gone O mem hz] at s6
    have P6 := Put.set (o := .lst ((plcOf (drop1 L n)).map D.int)) plc5
    have F6 := F5.trans (Frm.set (A := A5) (k := 4) (o := .lst ((plcOf (drop1 L n)).map D.int)) (by decide) (by decide))
    refine ⟨_, fin (A6 := A5.set 4 (.lst ((plcOf (drop1 L n)).map D.int))) ?_, ⟨(P6.2.2 2 (by decide)).trans ins5, (P6.2.2 3 (by decide)).trans ((P5.2.2 3 (by decide)).trans told4), P6.2.1, (P6.2.2 5 (by decide)).trans P5.2.1⟩, F6⟩
    have t1 : mTst (mOp (fEq false) (mVar 3) (mTup (mNil))) [some (.ref 2), some (.int n), some (.int s), some (.tup ((numsOf (drop1 L n) s).map D.int)), none] A4 = .ok true A4 := by
      simp only [ev_var, ev_K, ev_op, ev_neg, ev_tst, ev_and, ev_or, ev_not, ev_andV, ev_orV, ev_notV, ev_if, ev_chn, ev_nil, ev_cons, ev_tup, ev_lst, ev_new, ev_call, ev_callF, ev_callK, ev_met, ev_sl, ev_some, ev_none, ev_rev, ev_yes, ev_sq, ev_next, ev_drop, ev_ret, ev_ifs, ev_set, ev_par2, ev_par3, ev_asg, ev_nm, List.getElem?_cons_zero, List.getElem?_cons_succ, List.set_cons_zero, List.set_cons_succ, bind_ok, lift_ok, List.length_cons, List.length_nil, Nat.reduceAdd, Nat.reduceLeDiff, ↓reduceIte, if_true, if_false, Bool.false_eq_true, ev_raise, and_self, List.map_cons, List.map_nil, List.replicate, List.cons_append, List.nil_append, Nat.reduceSub, eqn]
      simp [hz]
    rw [ev_ifs, t1]
    simp only [lift_ok, if_true]
    refine (seq_nx (ρ1 := [some (.ref 2), some (.int n), some (.int s), some (.tup ((numsOf (drop1 L n) s).map D.int)), none]) (A1 := A5) ?_).trans ?_
    · simp only [ev_drop, s5, lift_ok]
    · simp only [ev_drop, s6, lift_ok]
  · refine ⟨A4, fin ?_, ⟨ins4, told4, ?_, ?_⟩, F4⟩
    · have : (numsOf (drop1 L n) s).isEmpty = false := by simpa using hz
      simp only [ev_var, ev_K, ev_op, ev_neg, ev_tst, ev_and, ev_or, ev_not, ev_andV, ev_orV, ev_notV, ev_if, ev_chn, ev_nil, ev_cons, ev_tup, ev_lst, ev_new, ev_call, ev_callF, ev_callK, ev_met, ev_sl, ev_some, ev_none, ev_rev, ev_yes, ev_sq, ev_next, ev_drop, ev_ret, ev_ifs, ev_set, ev_par2, ev_par3, ev_asg, ev_nm, List.getElem?_cons_zero, List.getElem?_cons_succ, List.set_cons_zero, List.set_cons_succ, bind_ok, lift_ok, List.length_cons, List.length_nil, Nat.reduceAdd, Nat.reduceLeDiff, ↓reduceIte, if_true, if_false, Bool.false_eq_true, ev_raise, and_self, List.map_cons, List.map_nil, List.replicate, List.cons_append, List.nil_append, Nat.reduceSub, eqn, this]
    · rw [plc_drop_keep O mem hz]
      exact plc4
    · unfold subN
      rw [if_neg hz]
      exact num4
/-! ### live, holders, last_within -/
theorem live_ok (T : Snp L m nk A) (O : Ok L m nk) : m_Snapshots__live [.ref 2] A = .ok (.tup ((plcOf L).map D.int)) A := by
  have e : fTup [.ref 4] A = .ok (.tup ((plcOf L).map D.int)) A := by simp only [fTup, seqOf, T.plc]
  unfold m_Snapshots__live
  refine fun_rt ?_
  simp only [ev_var, ev_K, ev_op, ev_neg, ev_tst, ev_and, ev_or, ev_not, ev_andV, ev_orV, ev_notV, ev_if, ev_chn, ev_nil, ev_cons, ev_tup, ev_lst, ev_new, ev_call, ev_callF, ev_callK, ev_met, ev_sl, ev_some, ev_none, ev_rev, ev_yes, ev_sq, ev_next, ev_drop, ev_ret, ev_ifs, ev_set, ev_par2, ev_par3, ev_asg, ev_nm, List.getElem?_cons_zero, List.getElem?_cons_succ, List.set_cons_zero, List.set_cons_succ, bind_ok, lift_ok, List.length_cons, List.length_nil, Nat.reduceAdd, Nat.reduceLeDiff, ↓reduceIte, if_true, if_false, Bool.false_eq_true, ev_raise, and_self, List.map_cons, List.map_nil, List.replicate, List.cons_append, List.nil_append, Nat.reduceSub, plc0 T.ins, e]
theorem hold_ok (T : Snp L m nk A) (O : Ok L m nk) {s : Int} : m_Snapshots__holders [.ref 2, .int s] A = .ok (.tup ((numsOf L s).map D.int)) A := by
  have nv := O.nums s
  unfold m_Snapshots__holders
  refine fun_rt ?_
  by_cases hz : numsOf L s = []
  · rw [if_pos hz] at nv
    have hin : fDIn false (.int s) (.ref 5) A = .ok (.bl false) A := by rw [din_is T.num rfl, nv]; rfl
    simp only [ev_var, ev_K, ev_op, ev_neg, ev_tst, ev_and, ev_or, ev_not, ev_andV, ev_orV, ev_notV, ev_if, ev_chn, ev_nil, ev_cons, ev_tup, ev_lst, ev_new, ev_call, ev_callF, ev_callK, ev_met, ev_sl, ev_some, ev_none, ev_rev, ev_yes, ev_sq, ev_next, ev_drop, ev_ret, ev_ifs, ev_set, ev_par2, ev_par3, ev_asg, ev_nm, List.getElem?_cons_zero, List.getElem?_cons_succ, List.set_cons_zero, List.set_cons_succ, bind_ok, lift_ok, List.length_cons, List.length_nil, Nat.reduceAdd, Nat.reduceLeDiff, ↓reduceIte, if_true, if_false, Bool.false_eq_true, ev_raise, and_self, List.map_cons, List.map_nil, List.replicate, List.cons_append, List.nil_append, Nat.reduceSub, num0 T.ins, hin, hz, Nat.zero_le]
  · rw [if_neg hz] at nv
    have hin : fDIn false (.int s) (.ref 5) A = .ok (.bl true) A := by rw [din_is T.num rfl, nv]; rfl
    have get := dget_run (A := A) (e := .int s) (key := .inl s) T.num rfl nv
    simp only [ev_var, ev_K, ev_op, ev_neg, ev_tst, ev_and, ev_or, ev_not, ev_andV, ev_orV, ev_notV, ev_if, ev_chn, ev_nil, ev_cons, ev_tup, ev_lst, ev_new, ev_call, ev_callF, ev_callK, ev_met, ev_sl, ev_some, ev_none, ev_rev, ev_yes, ev_sq, ev_next, ev_drop, ev_ret, ev_ifs, ev_set, ev_par2, ev_par3, ev_asg, ev_nm, List.getElem?_cons_zero, List.getElem?_cons_succ, List.set_cons_zero, List.set_cons_succ, bind_ok, lift_ok, List.length_cons, List.length_nil, Nat.reduceAdd, Nat.reduceLeDiff, ↓reduceIte, if_true, if_false, Bool.false_eq_true, ev_raise, and_self, List.map_cons, List.map_nil, List.replicate, List.cons_append, List.nil_append, Nat.reduceSub, num0 T.ins, hin, get]
/-- the greatest between two -/
def within (P : List Int) (a b : Int) : Option Int := (P.filter fun x => decide (a ≤ x) && decide (x ≤ b)).getLast?
def optI : Option Int → D
  | none => .non
  | some i => .int i
noncomputable abbrev lastX : List D → AH → Res D := m_Snapshots__last_within belowX
theorem take_cnt {s : Int} : ∀ {P : List Int}, P.Pairwise (· < ·) → P.filter (fun x => decide (x < s)) = P.take (cnt P s)
  | [], _ => rfl
  | x :: r, up => by
    obtain ⟨h1, h2⟩ := List.pairwise_cons.mp up
    by_cases h : x < s
    · have c1 : cnt (x :: r) s = cnt r s + 1 := by
        unfold cnt
        rw [List.filter_cons_of_pos (by simpa using h), List.length_cons]
      rw [c1, List.filter_cons_of_pos (by simpa using h), List.take_succ_cons, take_cnt h2]
    · have z : (x :: r).filter (fun y => decide (y < s)) = [] := by
        rw [List.filter_eq_nil_iff]
        intro y hy
        rcases List.mem_cons.mp hy with rfl | hy
        · simpa using h
        · have := h1 y hy
          simp; omega
      have c0 : cnt (x :: r) s = 0 := by
        unfold cnt
        rw [z]
        rfl
      rw [z, c0]
      rfl
theorem within_eq {P : List Int} (up : P.Pairwise (· < ·)) {a b : Int} : within P a b = (match P[cnt P (b + 1) - 1]? with
    | some v => if cnt P (b + 1) = 0 ∨ v < a then none else some v
    | none => none) := by
  have e : P.filter (fun x => decide (a ≤ x) && decide (x ≤ b)) = (P.take (cnt P (b + 1))).filter fun x => decide (a ≤ x) := by
    rw [← take_cnt up, List.filter_filter]
    apply List.filter_congr
    intro x _
    congr 1
    exact decide_eq_decide.mpr (by omega)
  have hc := cnt_le P (b + 1)
  unfold within
  rw [e]
  generalize cnt P (b + 1) = c at hc
  cases c with
  | zero =>
    simp only [List.take_zero, List.filter_nil, List.getLast?_nil, true_or, if_true]
    split <;> rfl
  | succ k =>
    have hk : k < P.length := by omega
    have e2 : P.take (k + 1) = P.take k ++ [P[k]] := by rw [List.take_add_one, List.getElem?_eq_getElem hk]; rfl
    rw [Nat.add_sub_cancel, List.getElem?_eq_getElem hk, e2, List.filter_append]
    simp only [Nat.succ_ne_zero, false_or]
    by_cases h : P[k] < a
    · rw [if_pos h, List.getLast?_eq_none_iff, List.append_eq_nil_iff]
      constructor
      · rw [List.filter_eq_nil_iff]
        intro x hx
        obtain ⟨i, hi, rfl⟩ := List.mem_iff_getElem.mp hx
        rw [List.length_take] at hi
        have := List.pairwise_iff_getElem.mp up i k (by omega) hk (by omega)
        rw [List.getElem_take]
        simp; omega
      · simp; omega
    · rw [if_neg h, List.filter_cons_of_pos (by simp; omega)]
      simp
theorem last_ok (T : Snp L m nk A) (O : Ok L m nk) {a b : Int} : lastX [.ref 2, .int a, .int b] A = .ok (optI (within (plcOf L) a b)) A := by
  have few := O.few
  have most := O.most
  have pl := plc_len L
  have bl := below_ok T.ins T.plc (plc_up L) (by omega) (s := b + 1)
  have mt : mMeth "Snapshots" "lives_below" 2 belowX (mVar 0) (mCons (mOp fAdd (mVar 2) (mK (.int 1))) (mNil)) [some (.ref 2), some (.int a), some (.int b), none] A = .ok (.int (cnt (plcOf L) (b + 1) : Nat)) A :=
    (meth_run (ds := [.int (b + 1)]) rfl T.ins rfl rfl rfl).trans bl
  have hc := cnt_le (plcOf L) (b + 1)
  rw [within_eq (plc_up L)]
  generalize hcc : cnt (plcOf L) (b + 1) = c at mt hc
  obtain ⟨z, hz⟩ : ∃ z : Int, z = (c : Nat) := ⟨_, rfl⟩
  rw [← hz] at mt
  unfold lastX m_Snapshots__last_within
  refine fun_rt ?_
  refine (seq_nx (ρ1 := [some (.ref 2), some (.int a), some (.int b), some (.int z)]) (A1 := A) ?_).trans ?_
  · simp only [ev_var, ev_K, ev_op, ev_neg, ev_tst, ev_and, ev_or, ev_not, ev_andV, ev_orV, ev_notV, ev_if, ev_chn, ev_nil, ev_cons, ev_tup, ev_lst, ev_new, ev_call, ev_callF, ev_callK, ev_met, ev_sl, ev_some, ev_none, ev_rev, ev_yes, ev_sq, ev_next, ev_drop, ev_ret, ev_ifs, ev_set, ev_par2, ev_par3, ev_asg, ev_nm, List.getElem?_cons_zero, List.getElem?_cons_succ, List.set_cons_zero, List.set_cons_succ, bind_ok, lift_ok, List.length_cons, List.length_nil, Nat.reduceAdd, Nat.reduceLeDiff, ↓reduceIte, if_true, if_false, Bool.false_eq_true, ev_raise, and_self, List.map_cons, List.map_nil, List.replicate, List.cons_append, List.nil_append, Nat.reduceSub, mt]
  by_cases h0 : z = 0
  · have c0 : c = 0 := by omega
    refine (seq_rt (d := .non) (A1 := A) ?_).trans ?_
    · simp only [ev_var, ev_K, ev_op, ev_neg, ev_tst, ev_and, ev_or, ev_not, ev_andV, ev_orV, ev_notV, ev_if, ev_chn, ev_nil, ev_cons, ev_tup, ev_lst, ev_new, ev_call, ev_callF, ev_callK, ev_met, ev_sl, ev_some, ev_none, ev_rev, ev_yes, ev_sq, ev_next, ev_drop, ev_ret, ev_ifs, ev_set, ev_par2, ev_par3, ev_asg, ev_nm, List.getElem?_cons_zero, List.getElem?_cons_succ, List.set_cons_zero, List.set_cons_succ, bind_ok, lift_ok, List.length_cons, List.length_nil, Nat.reduceAdd, Nat.reduceLeDiff, ↓reduceIte, if_true, if_false, Bool.false_eq_true, ev_raise, and_self, List.map_cons, List.map_nil, List.replicate, List.cons_append, List.nil_append, Nat.reduceSub, eq_ii, h0, decide_true]
    · subst c0
      congr 1
      cases (plcOf L)[0 - 1]? with
      | none => rfl
      | some v => rfl
  · have hk : c - 1 < (plcOf L).length := by omega
    have ix : fIx (.ref 4) (.int (z - 1)) A = .ok (.int (plcOf L)[c - 1]) A := ix_ref T.plc (atI_at (by omega) (by rw [show (z - 1).toNat = c - 1 by omega]; exact List.getElem?_eq_getElem hk))
    rw [List.getElem?_eq_getElem hk]
    generalize (plcOf L)[c - 1] = v at ix
    have c0 : ¬ c = 0 := by omega
    simp only [c0, false_or]
    by_cases h : v < a
    · rw [if_pos h]
      refine seq_rt ?_
      simp only [ev_var, ev_K, ev_op, ev_neg, ev_tst, ev_and, ev_or, ev_not, ev_andV, ev_orV, ev_notV, ev_if, ev_chn, ev_nil, ev_cons, ev_tup, ev_lst, ev_new, ev_call, ev_callF, ev_callK, ev_met, ev_sl, ev_some, ev_none, ev_rev, ev_yes, ev_sq, ev_next, ev_drop, ev_ret, ev_ifs, ev_set, ev_par2, ev_par3, ev_asg, ev_nm, List.getElem?_cons_zero, List.getElem?_cons_succ, List.set_cons_zero, List.set_cons_succ, bind_ok, lift_ok, List.length_cons, List.length_nil, Nat.reduceAdd, Nat.reduceLeDiff, ↓reduceIte, if_true, if_false, Bool.false_eq_true, ev_raise, and_self, List.map_cons, List.map_nil, List.replicate, List.cons_append, List.nil_append, Nat.reduceSub, eq_ii, h0, plc0 T.ins, sub_ii, ix, lt_ii, h, decide_true, decide_false]
      rfl
    · rw [if_neg h]
      refine (seq_nx (ρ1 := [some (.ref 2), some (.int a), some (.int b), some (.int z)]) (A1 := A) ?_).trans ?_
      · simp only [ev_var, ev_K, ev_op, ev_neg, ev_tst, ev_and, ev_or, ev_not, ev_andV, ev_orV, ev_notV, ev_if, ev_chn, ev_nil, ev_cons, ev_tup, ev_lst, ev_new, ev_call, ev_callF, ev_callK, ev_met, ev_sl, ev_some, ev_none, ev_rev, ev_yes, ev_sq, ev_next, ev_drop, ev_ret, ev_ifs, ev_set, ev_par2, ev_par3, ev_asg, ev_nm, List.getElem?_cons_zero, List.getElem?_cons_succ, List.set_cons_zero, List.set_cons_succ, bind_ok, lift_ok, List.length_cons, List.length_nil, Nat.reduceAdd, Nat.reduceLeDiff, ↓reduceIte, if_true, if_false, Bool.false_eq_true, ev_raise, and_self, List.map_cons, List.map_nil, List.replicate, List.cons_append, List.nil_append, Nat.reduceSub, eq_ii, h0, plc0 T.ins, sub_ii, ix, lt_ii, h, decide_false]
      · simp only [ev_var, ev_K, ev_op, ev_neg, ev_tst, ev_and, ev_or, ev_not, ev_andV, ev_orV, ev_notV, ev_if, ev_chn, ev_nil, ev_cons, ev_tup, ev_lst, ev_new, ev_call, ev_callF, ev_callK, ev_met, ev_sl, ev_some, ev_none, ev_rev, ev_yes, ev_sq, ev_next, ev_drop, ev_ret, ev_ifs, ev_set, ev_par2, ev_par3, ev_asg, ev_nm, List.getElem?_cons_zero, List.getElem?_cons_succ, List.set_cons_zero, List.set_cons_succ, bind_ok, lift_ok, List.length_cons, List.length_nil, Nat.reduceAdd, Nat.reduceLeDiff, ↓reduceIte, if_true, if_false, Bool.false_eq_true, ev_raise, and_self, List.map_cons, List.map_nil, List.replicate, List.cons_append, List.nil_append, Nat.reduceSub, plc0 T.ins, sub_ii, ix]
        rfl
end
end K18
end
section
set_option maxHeartbeats 1000000
namespace K18
open PySem PySem.Spec PyProof.Rows L2 DM
/-! ### small data -/
theorem few_i {i : Int} (h : i.natAbs < 10 ^ 31) : FewB 32 0 200 (.int i) := by
  have hl : i.natAbs.log2 < 104 := by
    by_cases h0 : i.natAbs = 0
    · rw [h0]; decide
    · exact (Nat.log2_lt h0).mpr (Nat.lt_trans h (by decide))
  refine ⟨rfl, ?_, ?_, Nat.le_refl _, ?_⟩
  · simp only [PyData.leavesShort]
    have e := int_text_length_le10 (k := 31) (by decide) h
    refine decide_eq_true ?_
    show (Str.ofString (toString i)).length ≤ 32
    rw [PySem.ofString_length]
    omega
  · simp only [PyData.showable]
    exact decide_eq_true (by omega)
  · simp only [PyData.weight]
    split <;> omega
theorem few_ints {l : List Int} (h : ∀ i ∈ l, i.natAbs < 10 ^ 31) : FewB 32 1 (l.length * 201) (.tuple (l.map PyData.int)) := by
  have f := fewB_tuple (B := 32) (k := 0) (w := 200) (xs := l.map PyData.int) (by
    intro z hz
    obtain ⟨i, hi, rfl⟩ := List.mem_map.mp hz
    exact few_i (h i hi))
  rwa [List.length_map] at f
theorem repr_ints {l : List Int} {A : AH} (h : ∀ i ∈ l, i.natAbs < 10 ^ 31) (hl : l.length ≤ 100) : ∃ x, fRepr [.tup (l.map D.int)] A = .ok (.str x) A :=
  ⟨_, repr_fewB (q := .tuple (l.map PyData.int)) (toPyA_of (by rw [toPy, toPys_ints]; rfl)) (few_ints h) (by decide) (by decide) (by omega)⟩
/-! ### a thing that may be a number -/
/-- what the law picks: whole numbers of bearable size, and others -/
structure Thing (x : D) : Prop where
  no : ∀ k, x ≠ .ref k
  ty : ∀ A, ∃ t, tyName A x = some t
  py : ∃ q, toPy x = some q ∧ FewB 32 1 201 q
theorem thing_int {i : Int} (h : i.natAbs < 10 ^ 31) : Thing (.int i) := ⟨(fun _ z => nomatch z), fun _ => ⟨_, rfl⟩, _, rfl, (few_i h).mono (by decide) (by decide)⟩
theorem thing_non : Thing .non := ⟨(fun _ z => nomatch z), fun _ => ⟨_, rfl⟩, _, rfl, fewB_none.mono (by decide) (by decide)⟩
theorem thing_bl {b : Bool} : Thing (.bl b) := ⟨(fun _ z => nomatch z), fun _ => ⟨_, rfl⟩, _, rfl, fewB_bool.mono (by decide) (by decide)⟩
theorem few_word {x : Str} (h1 : PyData.canLay0 (.str x) = true) (h2 : (x.cps.toList.all fun c => decide (c < 16 ^ 8)) = true) (h3 : x.cps.size ≤ 64) : FewB 32 0 64 (.str x) := fewB_str h1 h2 h3
theorem thing_one : Thing (.str "1") := ⟨(fun _ z => nomatch z), fun _ => ⟨_, rfl⟩, _, rfl, (few_word (by decide +kernel) (by decide +kernel) (by decide +kernel)).mono (by decide) (by decide)⟩
theorem thing_tup : Thing (.tup []) := ⟨(fun _ z => nomatch z), fun _ => ⟨_, rfl⟩, .tuple [], rfl, (few_ints (l := []) (by simp)).mono (by decide) (by decide)⟩
theorem repr_pair {x : D} {w : Str} {A : AH} (h : Thing x) (h1 : PyData.canLay0 (.str w) = true) (h2 : (w.cps.toList.all fun c => decide (c < 16 ^ 8)) = true) (h3 : w.cps.size ≤ 64) : ∃ y, fRepr [.tup [x, .str w]] A = .ok (.str y) A := by
  obtain ⟨q, e, f⟩ := h.py
  have f2 := fewB_tuple (B := 32) (k := 1) (w := 201) (xs := [q, .str w]) (by
    intro z hz
    rcases List.mem_cons.mp hz with rfl | hz
    · exact f
    · rw [List.mem_singleton] at hz
      subst hz
      exact (few_word h1 h2 h3).mono (by decide) (by decide))
  have e2 : toPy (.tup [x, .str w]) = some (.tuple [q, .str w]) := by
    simp [toPy, toPys, e]
  exact ⟨_, repr_fewB (toPyA_of e2) f2 (by decide) (by decide) (by simp)⟩
theorem repr_opts {a : Option Int} {A : AH} (h : ∀ i, a = some i → i.natAbs < 10 ^ 31) : ∃ y, fRepr [.lst [optI a, optI a]] A = .ok (.str y) A := by
  obtain ⟨q, e, f⟩ : ∃ q, toPy (optI a) = some q ∧ FewB 32 0 200 q := by
    cases a with
    | none => exact ⟨_, rfl, fewB_none.mono (by decide) (by decide)⟩
    | some i => exact ⟨_, rfl, few_i (h i rfl)⟩
  have f2 := fewB_list (B := 32) (k := 0) (w := 200) (xs := [q, q]) (by
    intro z hz
    rcases List.mem_cons.mp hz with rfl | hz
    · exact f
    · rw [List.mem_singleton] at hz
      subst hz
      exact f)
  have e2 : toPy (.lst [optI a, optI a]) = some (.list [q, q]) := by
    simp [toPy, toPys, e]
  exact ⟨_, repr_fewB (toPyA_of e2) f2 (by decide) (by decide) (by simp)⟩
theorem repr_one {x : D} {A : AH} (h : Thing x) : ∃ y, fRepr [x] A = .ok (.str y) A := by
  obtain ⟨q, e, f⟩ := h.py
  exact ⟨_, repr_fewB (toPyA_of e) f (by decide) (by decide) (by decide)⟩
/-! ### closing and asking -/
section
variable {L : List Ent} {m : Int} {nk : List (Key × D)} {A : AH}
noncomputable abbrev closedX : List D → AH → Res D := m__law_closed closeX stampX
theorem close_none (T : Snp L m nk A) {x : D} {t : String} (ht : tyName A x = some t) (h : askOf L x = none) (hr : ∀ k, x ≠ .ref k) : closeX [.ref 2, x] A = .exc "NoName" [("name", x)] A := by
  have mt : mMeth "Snapshots" "stamp_of" 2 stampX (mVar 0) (mCons (mVar 1) (mNil)) [some (.ref 2), some x, none, none, none] A = .exc "NoName" [("name", x)] A :=
    (meth_run (ds := [x]) rfl T.ins rfl rfl rfl).trans (stamp_none T ht h hr)
  unfold closeX m_Snapshots__close
  refine fun_exc (ρ1 := [some (.ref 2), some x, none, none, none]) (seq_exc ?_)
  simp only [ev_var, ev_K, ev_op, ev_neg, ev_tst, ev_and, ev_or, ev_not, ev_andV, ev_orV, ev_notV, ev_if, ev_chn, ev_nil, ev_cons, ev_tup, ev_lst, ev_new, ev_call, ev_callF, ev_callK, ev_met, ev_sl, ev_some, ev_none, ev_rev, ev_yes, ev_sq, ev_next, ev_drop, ev_ret, ev_ifs, ev_set, ev_par2, ev_par3, ev_asg, ev_nm, List.getElem?_cons_zero, List.getElem?_cons_succ, List.set_cons_zero, List.set_cons_succ, bind_ok, lift_ok, List.length_cons, List.length_nil, Nat.reduceAdd, Nat.reduceLeDiff, ↓reduceIte, if_true, if_false, Bool.false_eq_true, List.map_cons, List.map_nil, List.replicate, List.cons_append, List.nil_append, Nat.reduceSub, mt, lift]
theorem str_eq {x y : Str} {A : AH} : fEq false (.str x) (.str y) A = .ok (.bl (decide (x = y))) A := rfl
theorem ask_told (T : Snp L m nk A) {n s : Int} (h : stOf L n = some s) : closedX [.ref 2, .int n, .str "ask"] A = .ok (.tup [.int s, .str "told"]) A := by
  have mt : mMethK "Snapshots" "stamp_of" 1 2 [0, 1] stampX (mVar 0) (mCons (mVar 1) (mNil)) [some (.ref 2), some (.int n), some (.str "ask"), none] A = .ok (.int s) A :=
    (methK_run (ds := [.int n]) rfl T.ins rfl rfl rfl rfl).trans (stamp_told T h)
  have ne : fEq false (.str "ask") (.str "close") A = .ok (.bl false) A := by rw [str_eq]; rfl
  unfold closedX m__law_closed ms__law_closed
  refine fun_rt (try_rt ?_)
  simp only [ev_var, ev_K, ev_op, ev_neg, ev_tst, ev_and, ev_or, ev_not, ev_andV, ev_orV, ev_notV, ev_if, ev_chn, ev_nil, ev_cons, ev_tup, ev_lst, ev_new, ev_call, ev_callF, ev_callK, ev_met, ev_sl, ev_some, ev_none, ev_rev, ev_yes, ev_sq, ev_next, ev_drop, ev_ret, ev_ifs, ev_set, ev_par2, ev_par3, ev_asg, ev_nm, List.getElem?_cons_zero, List.getElem?_cons_succ, List.set_cons_zero, List.set_cons_succ, bind_ok, lift_ok, List.length_cons, List.length_nil, Nat.reduceAdd, Nat.reduceLeDiff, ↓reduceIte, if_true, if_false, Bool.false_eq_true, ev_raise, and_self, List.map_cons, List.map_nil, List.replicate, List.cons_append, List.nil_append, Nat.reduceSub, mt, ne]
theorem close_told (T : Snp L m nk A) (O : Ok L m nk) {n s : Int} (h : stOf L n = some s) : ∃ A', closedX [.ref 2, .int n, .str "close"] A = .ok (.tup [.int s, .str "told"]) A' ∧ Snp (drop1 L n) m (subN nk L n s) A' ∧ Frm A A' := by
  obtain ⟨A', e, T', F⟩ := close_ok T O h
  refine ⟨A', ?_, T', F⟩
  have mt : mMethK "Snapshots" "close" 1 2 [0, 1] closeX (mVar 0) (mCons (mVar 1) (mNil)) [some (.ref 2), some (.int n), some (.str "close"), none] A = .ok (.int s) A' :=
    (methK_run (ds := [.int n]) rfl T.ins rfl rfl rfl rfl).trans e
  have ne : fEq false (.str "close") (.str "close") A = .ok (.bl true) A := by rw [str_eq]; rfl
  unfold closedX m__law_closed ms__law_closed
  refine fun_rt (try_rt ?_)
  simp only [ev_var, ev_K, ev_op, ev_neg, ev_tst, ev_and, ev_or, ev_not, ev_andV, ev_orV, ev_notV, ev_if, ev_chn, ev_nil, ev_cons, ev_tup, ev_lst, ev_new, ev_call, ev_callF, ev_callK, ev_met, ev_sl, ev_some, ev_none, ev_rev, ev_yes, ev_sq, ev_next, ev_drop, ev_ret, ev_ifs, ev_set, ev_par2, ev_par3, ev_asg, ev_nm, List.getElem?_cons_zero, List.getElem?_cons_succ, List.set_cons_zero, List.set_cons_succ, bind_ok, lift_ok, List.length_cons, List.length_nil, Nat.reduceAdd, Nat.reduceLeDiff, ↓reduceIte, if_true, if_false, Bool.false_eq_true, ev_raise, and_self, List.map_cons, List.map_nil, List.replicate, List.cons_append, List.nil_append, Nat.reduceSub, mt, ne]
theorem closed_none (T : Snp L m nk A) {x : D} {t : String} (ht : tyName A x = some t) (h : askOf L x = none) (hr : ∀ k, x ≠ .ref k) {w : Str} (hw : w = "ask" ∨ w = "close") : closedX [.ref 2, x, .str w] A = .ok (.tup [x, .str "refused"]) A := by
  have mt : (mIf (mTst (mOp (fEq false) (mVar 2) (mK (.str "close")))) (mMethK "Snapshots" "close" 1 2 [0, 1] closeX (mVar 0) (mCons (mVar 1) (mNil))) (mMethK "Snapshots" "stamp_of" 1 2 [0, 1] stampX (mVar 0) (mCons (mVar 1) (mNil)))) [some (.ref 2), some x, some (.str w), none] A = .exc "NoName" [("name", x)] A := by
    rcases hw with rfl | rfl
    · have ne : fEq false (.str "ask") (.str "close") A = .ok (.bl false) A := by rw [str_eq]; rfl
      simp only [ev_var, ev_K, ev_op, ev_neg, ev_tst, ev_and, ev_or, ev_not, ev_andV, ev_orV, ev_notV, ev_if, ev_chn, ev_nil, ev_cons, ev_tup, ev_lst, ev_new, ev_call, ev_callF, ev_callK, ev_met, ev_sl, ev_some, ev_none, ev_rev, ev_yes, ev_sq, ev_next, ev_drop, ev_ret, ev_ifs, ev_set, ev_par2, ev_par3, ev_asg, ev_nm, List.getElem?_cons_zero, List.getElem?_cons_succ, List.set_cons_zero, List.set_cons_succ, bind_ok, lift_ok, List.length_cons, List.length_nil, Nat.reduceAdd, Nat.reduceLeDiff, ↓reduceIte, if_true, if_false, Bool.false_eq_true, ne]
      exact (methK_run (ds := [x]) rfl T.ins rfl rfl rfl rfl).trans (stamp_none T ht h hr)
    · have ne : fEq false (.str "close") (.str "close") A = .ok (.bl true) A := by rw [str_eq]; rfl
      simp only [ev_var, ev_K, ev_op, ev_neg, ev_tst, ev_and, ev_or, ev_not, ev_andV, ev_orV, ev_notV, ev_if, ev_chn, ev_nil, ev_cons, ev_tup, ev_lst, ev_new, ev_call, ev_callF, ev_callK, ev_met, ev_sl, ev_some, ev_none, ev_rev, ev_yes, ev_sq, ev_next, ev_drop, ev_ret, ev_ifs, ev_set, ev_par2, ev_par3, ev_asg, ev_nm, List.getElem?_cons_zero, List.getElem?_cons_succ, List.set_cons_zero, List.set_cons_succ, bind_ok, lift_ok, List.length_cons, List.length_nil, Nat.reduceAdd, Nat.reduceLeDiff, ↓reduceIte, if_true, if_false, Bool.false_eq_true, ne]
      exact (methK_run (ds := [x]) rfl T.ins rfl rfl rfl rfl).trans (close_none T ht h hr)
  unfold closedX m__law_closed ms__law_closed
  refine fun_rt (try_exc1 (C := "NoName") (fs := [("name", x)]) (ρ1 := [some (.ref 2), some x, some (.str w), none]) (A1 := A) ?_ (by simp) fun a d => ?_)
  · simp only [ev_ret, ev_tup, ev_cons, List.map_cons, List.map_nil, List.replicate, List.cons_append, List.nil_append, Nat.reduceSub, List.length_cons, List.length_nil, Nat.reduceAdd, mt, bind_exc, lift]
  · have hn : ¬ [((("name" : Str)), x)] = [] := by simp
    have lk : List.lookup ("name" : Str) [(("name" : Str), x)] = some x := by simp [List.lookup]
    rw [if_neg hn]
    simp only [enterM, ev_var, ev_K, ev_op, ev_neg, ev_tst, ev_and, ev_or, ev_not, ev_andV, ev_orV, ev_notV, ev_if, ev_chn, ev_nil, ev_cons, ev_tup, ev_lst, ev_new, ev_call, ev_callF, ev_callK, ev_met, ev_sl, ev_some, ev_none, ev_rev, ev_yes, ev_sq, ev_next, ev_drop, ev_ret, ev_ifs, ev_set, ev_par2, ev_par3, ev_asg, ev_nm, List.getElem?_cons_zero, List.getElem?_cons_succ, List.set_cons_zero, List.set_cons_succ, bind_ok, lift_ok, List.length_cons, List.length_nil, Nat.reduceAdd, Nat.reduceLeDiff, ↓reduceIte, if_true, if_false, Bool.false_eq_true, fIsx, mXf, List.map_cons, List.map_nil, List.zip_cons_cons, List.zip_nil_right, and_self, List.mem_singleton, lk, goneM]
end
end K18
end
section
set_option maxHeartbeats 1000000
namespace K18
open PySem PySem.Spec PyProof.Rows L2 DM
/-! ### looking -/
def entD (p : Ent) : D := .tup [.int p.1, .int p.2]
theorem Snp.keep {L : List Ent} {m : Int} {nk : List (Key × D)} {A A' : AH} (T : Snp L m nk A) (h : ∀ n, 2 ≤ n → n < 6 → A'[n]? = A[n]?) : Snp L m nk A' :=
  ⟨(h 2 (by decide) (by decide)).trans T.ins, (h 3 (by decide) (by decide)).trans T.told, (h 4 (by decide) (by decide)).trans T.plc, (h 5 (by decide) (by decide)).trans T.num⟩
theorem Snp.drawn {L : List Ent} {m : Int} {nk : List (Key × D)} {A A' : AH} (T : Snp L m nk A) (d : Drawn 1 0 A A') : Snp L m nk A' := T.keep fun n h1 h2 => d.2.2 n (by omega) (by omega)
theorem draw_is : m__law_draw = dcardM := rfl
theorem pick_is {c : List D → AH → Res D} : m__law_pick c = pickM c := rfl
theorem deal_is : m__law_deal = dealM := rfl
section
variable {L : List Ent} {m : Int} {nk : List (Key × D)} {A : AH} {hr : Nat}
noncomputable abbrev lookedX : List D → AH → Res D := m__law_looked dcardM m_Snapshots__live m_Snapshots__holders lastX
theorem stamps_comp (here : A[hr]? = some (.lst (L.map entD))) {ρ : DM.Env} (h9 : 9 < ρ.length) : compGo (.sq (.ref hr)) (L.map entD) (.tp [.nm 9, .nm 4]) mYes (mVar 4) ρ (L.map entD) [] A = .ok ((L.map (·.2)).map D.int) A := by
  rw [comp_pure (p := fun _ => true) (f := fun d => match d with | .tup [_, x] => x | d => d) (by simp [itemsOf, seqOf, here]) _ _ fun x hx => ?_]
  · rw [filter_true, List.nil_append, List.map_map, List.map_map]
    rfl
  · obtain ⟨p, _, rfl⟩ := List.mem_map.mp hx
    refine ⟨_, bind_pair, rfl, fun _ => ?_⟩
    have : ((ρ.set 9 (some (D.int p.1))).set 4 (some (D.int p.2)))[4]? = some (some (.int p.2)) := List.getElem?_set_self (by simp; omega)
    rw [ev_var, this]
    rfl
theorem nums_comp (here : A[hr]? = some (.lst (L.map entD))) {x0 x1 x2 x3 x5 x6 x7 x8 : Option D} {s : Int} : compGo (.sq (.ref hr)) (L.map entD) (.tp [.nm 9, .nm 10]) (mTst (mOp (fEq false) (mVar 10) (mVar 4))) (mVar 9) [x0, x1, x2, x3, some (.int s), x5, x6, x7, x8, none, none] (L.map entD) [] A = .ok ((numsOf L s).map D.int) A := by
  rw [comp_pure (p := fun d => match d with | .tup [_, .int x] => decide (x = s) | _ => true) (f := fun d => match d with | .tup [x, _] => x | d => d) (by simp [itemsOf, seqOf, here]) _ _ fun x hx => ?_]
  · unfold numsOf
    rw [List.nil_append, List.filter_map, List.map_map, List.map_map]
    rfl
  · obtain ⟨p, _, rfl⟩ := List.mem_map.mp hx
    refine ⟨_, bind_pair, ?_, fun _ => ?_⟩
    · simp only [ev_var, ev_K, ev_op, ev_neg, ev_tst, ev_and, ev_or, ev_not, ev_andV, ev_orV, ev_notV, ev_if, ev_chn, ev_nil, ev_cons, ev_tup, ev_lst, ev_new, ev_call, ev_callF, ev_callK, ev_met, ev_sl, ev_some, ev_none, ev_rev, ev_yes, ev_sq, ev_next, ev_drop, ev_ret, ev_ifs, ev_set, ev_par2, ev_par3, ev_asg, ev_nm, List.getElem?_cons_zero, List.getElem?_cons_succ, List.set_cons_zero, List.set_cons_succ, bind_ok, lift_ok, List.length_cons, List.length_nil, Nat.reduceAdd, Nat.reduceLeDiff, ↓reduceIte, if_true, if_false, Bool.false_eq_true, ev_raise, and_self, List.map_cons, List.map_nil, List.replicate, List.cons_append, List.nil_append, Nat.reduceSub, eq_ii]
      rfl
    · simp only [ev_var, ev_K, ev_op, ev_neg, ev_tst, ev_and, ev_or, ev_not, ev_andV, ev_orV, ev_notV, ev_if, ev_chn, ev_nil, ev_cons, ev_tup, ev_lst, ev_new, ev_call, ev_callF, ev_callK, ev_met, ev_sl, ev_some, ev_none, ev_rev, ev_yes, ev_sq, ev_next, ev_drop, ev_ret, ev_ifs, ev_set, ev_par2, ev_par3, ev_asg, ev_nm, List.getElem?_cons_zero, List.getElem?_cons_succ, List.set_cons_zero, List.set_cons_succ, bind_ok, lift_ok, List.length_cons, List.length_nil, Nat.reduceAdd, Nat.reduceLeDiff, ↓reduceIte, if_true, if_false, Bool.false_eq_true, ev_raise, and_self, List.map_cons, List.map_nil, List.replicate, List.cons_append, List.nil_append, Nat.reduceSub]
      rfl
theorem str_ne {x : Str} {A : AH} : fEq true (.str x) (.str x) A = .ok (.bl false) A := by
  have : (decide (x = x)) = true := decide_eq_true rfl
  show Res.ok (D.bl (!decide (x = x))) A = _
  rw [this]
  rfl
theorem str_eq1 {x : Str} {A : AH} : fEq false (.str x) (.str x) A = .ok (.bl true) A := by
  rw [str_eq, decide_eq_true rfl]
noncomputable def bodyL : MS := mIfS (mTst (mOp (fEq true) (mCall fRepr (mCons (mMethK "Snapshots" "holders" 1 2 [0, 1] m_Snapshots__holders (mVar 1) (mCons (mVar 4) (mNil))) (mNil))) (mCall fRepr (mCons (mCall fTup (mCons (mLc false (mSq (mVar 2)) (.tp [.nm 9, .nm 10]) (mTst (mOp (fEq false) (mVar 10) (mVar 4))) (mVar 9) [9, 10]) (mNil))) (mNil))))) (mRet (mK (.bl false))) (mNext)
theorem num_small (O : Ok L m nk) {s : Int} : (∀ i ∈ numsOf L s, i.natAbs < 10 ^ 31) ∧ (numsOf L s).length ≤ 100 := by
  have most := O.most
  refine ⟨fun i hi => ?_, ?_⟩
  · unfold numsOf at hi
    obtain ⟨p, hp, rfl⟩ := List.mem_map.mp hi
    have := O.lo p (List.mem_filter.mp hp).1
    omega
  · have := nums_len L s
    have := O.few
    omega
theorem plc_small (O : Ok L m nk) : (∀ i ∈ plcOf L, i.natAbs < 10 ^ 31) ∧ (plcOf L).length ≤ 100 := by
  have most := O.most
  refine ⟨fun i hi => ?_, ?_⟩
  · obtain ⟨p, hp, rfl⟩ := mem_plc.mp hi
    have := O.lo p hp
    omega
  · have := plc_len L
    have := O.few
    omega
theorem bodyL_run (T : Snp L m nk A) (O : Ok L m nk) (here : A[hr]? = some (.lst (L.map entD))) {s : Int} {x3 : Option D} : bodyL [some (.ref 1), some (.ref 2), some (.ref hr), x3, some (.int s), none, none, none, none, none, none] A
    = .nx [some (.ref 1), some (.ref 2), some (.ref hr), x3, some (.int s), none, none, none, none, none, none] A := by
  have mt : mMethK "Snapshots" "holders" 1 2 [0, 1] m_Snapshots__holders (mVar 1) (mCons (mVar 4) (mNil)) [some (.ref 1), some (.ref 2), some (.ref hr), x3, some (.int s), none, none, none, none, none, none] A = .ok (.tup ((numsOf L s).map D.int)) A :=
    (methK_run (ds := [.int s]) rfl T.ins rfl rfl rfl rfl).trans (hold_ok T O)
  obtain ⟨y, ry⟩ := repr_ints (A := A) (num_small O (s := s)).1 (num_small O).2
  have l16 : (L.map entD).length ≤ 16777216 := by
    have := O.few
    have := O.most
    rw [List.length_map]
    omega
  have ft : fTup [.lst ((numsOf L s).map D.int)] A = .ok (.tup ((numsOf L s).map D.int)) A := rfl
  unfold bodyL
  simp only [ev_var, ev_K, ev_op, ev_neg, ev_tst, ev_and, ev_or, ev_not, ev_andV, ev_orV, ev_notV, ev_if, ev_chn, ev_nil, ev_cons, ev_tup, ev_lst, ev_new, ev_call, ev_callF, ev_callK, ev_met, ev_sl, ev_some, ev_none, ev_rev, ev_yes, ev_sq, ev_next, ev_drop, ev_ret, ev_ifs, ev_set, ev_par2, ev_par3, ev_asg, ev_nm, List.getElem?_cons_zero, List.getElem?_cons_succ, List.set_cons_zero, List.set_cons_succ, bind_ok, lift_ok, List.length_cons, List.length_nil, Nat.reduceAdd, Nat.reduceLeDiff, ↓reduceIte, if_true, if_false, Bool.false_eq_true, ev_raise, and_self, List.map_cons, List.map_nil, List.replicate, List.cons_append, List.nil_append, Nat.reduceSub, mt, ry, ev_lc, seqOf, itemsOf, here, l16, wipeD, List.foldl_cons, List.foldl_nil, nums_comp here, ft, str_ne]
theorem bodyL_go (T : Snp L m nk A) (O : Ok L m nk) (here : A[hr]? = some (.lst (L.map entD))) {x3 : Option D} {all : List D} : ∀ (xs : List Int) (x4 : Option D), ∃ y4, forGo (.sq (.lst all)) all (.nm 4) bodyL (xs.map D.int) [some (.ref 1), some (.ref 2), some (.ref hr), x3, x4, none, none, none, none, none, none] A
    = .nx [some (.ref 1), some (.ref 2), some (.ref hr), x3, y4, none, none, none, none, none, none] A
  | [], x4 => ⟨x4, for_nil rfl⟩
  | s :: xs, x4 => by
    obtain ⟨y4, e⟩ := bodyL_go T O here (x3 := x3) (all := all) xs (some (.int s))
    exact ⟨y4, (for_nx rfl rfl (bodyL_run T O here)).trans e⟩
theorem looked_ok (hs : HS 1 0 A) (T : Snp L m nk A) (O : Ok L m nk) (here : A[hr]? = some (.lst (L.map entD))) (h6 : 6 ≤ hr) : ∃ A', lookedX [.ref 1, .ref 2, .ref hr] A = .ok (.bl true) A' ∧ Drawn 1 0 A A' := by
  have few := O.few
  have most := O.most
  have pl := plc_len L
  obtain ⟨y1, r1⟩ := repr_ints (A := A) (plc_small O).1 (plc_small O).2
  have m1 : mMeth "Snapshots" "live" 1 m_Snapshots__live (mVar 1) mNil [some (.ref 1), some (.ref 2), some (.ref hr), some (.lst ((plcOf L).map D.int)), none, none, none, none, none, none, none] A = .ok (.tup ((plcOf L).map D.int)) A :=
    (meth_run (ds := []) rfl T.ins rfl rfl rfl).trans (live_ok T O)
  obtain ⟨v, A1, e1, v0, v1, d1⟩ := dcard_ok (k := 12) hs (by decide) (by decide)
  obtain ⟨a, A2, e2, a0, a1, d2⟩ := dcard_ok (k := 12) d1.2.1 (by decide) (by decide)
  obtain ⟨b, A3, e3, b0, b1, d3⟩ := dcard_ok (k := 6) d2.2.1 (by decide) (by decide)
  have T1 := T.drawn d1
  have here1 : A1[hr]? = some (.lst (L.map entD)) := (d1.2.2 hr (by omega) (by omega)).trans here
  have d13 := (d1.trans d2).trans d3
  have T3 := T.drawn d13
  refine ⟨A3, ?_, d13⟩
  have l16 : (L.map entD).length ≤ 16777216 := by rw [List.length_map]; omega
  have l64 : (L.map (·.2)).length < 64 := by rw [List.length_map]; omega
  unfold lookedX m__law_looked
  refine fun_rt ?_
  have ss := sortSet_lst (A := A) l64
  refine (seq_nx (ρ1 := [some (.ref 1), some (.ref 2), some (.ref hr), some (.lst ((plcOf L).map D.int)), none, none, none, none, none, none, none]) (A1 := A) ?_).trans ?_
  · simp only [ev_var, ev_K, ev_op, ev_neg, ev_tst, ev_and, ev_or, ev_not, ev_andV, ev_orV, ev_notV, ev_if, ev_chn, ev_nil, ev_cons, ev_tup, ev_lst, ev_new, ev_call, ev_callF, ev_callK, ev_met, ev_sl, ev_some, ev_none, ev_rev, ev_yes, ev_sq, ev_next, ev_drop, ev_ret, ev_ifs, ev_set, ev_par2, ev_par3, ev_asg, ev_nm, List.getElem?_cons_zero, List.getElem?_cons_succ, List.set_cons_zero, List.set_cons_succ, bind_ok, lift_ok, List.length_cons, List.length_nil, Nat.reduceAdd, Nat.reduceLeDiff, ↓reduceIte, if_true, if_false, Bool.false_eq_true, ev_raise, and_self, List.map_cons, List.map_nil, List.replicate, List.cons_append, List.nil_append, Nat.reduceSub, ev_lc, seqOf, itemsOf, here, l16, wipeD, List.foldl_cons, List.foldl_nil, stamps_comp here (ρ := [some (.ref 1), some (.ref 2), some (.ref hr), none, none, none, none, none, none, none, none]) (by simp), ss]
    rfl
  have ft : fTup [.lst ((plcOf L).map D.int)] A = .ok (.tup ((plcOf L).map D.int)) A := rfl
  refine (seq_nx (ρ1 := [some (.ref 1), some (.ref 2), some (.ref hr), some (.lst ((plcOf L).map D.int)), none, none, none, none, none, none, none]) (A1 := A) ?_).trans ?_
  · simp only [ev_var, ev_K, ev_op, ev_neg, ev_tst, ev_and, ev_or, ev_not, ev_andV, ev_orV, ev_notV, ev_if, ev_chn, ev_nil, ev_cons, ev_tup, ev_lst, ev_new, ev_call, ev_callF, ev_callK, ev_met, ev_sl, ev_some, ev_none, ev_rev, ev_yes, ev_sq, ev_next, ev_drop, ev_ret, ev_ifs, ev_set, ev_par2, ev_par3, ev_asg, ev_nm, List.getElem?_cons_zero, List.getElem?_cons_succ, List.set_cons_zero, List.set_cons_succ, bind_ok, lift_ok, List.length_cons, List.length_nil, Nat.reduceAdd, Nat.reduceLeDiff, ↓reduceIte, if_true, if_false, Bool.false_eq_true, ev_raise, and_self, List.map_cons, List.map_nil, List.replicate, List.cons_append, List.nil_append, Nat.reduceSub, m1, r1, ft, str_ne]
  have l65 : ((plcOf L) ++ [v]).length < 64 := by rw [List.length_append]; simp; omega
  have ad : fAdd (.lst ((plcOf L).map D.int)) (.lst [.int v]) A1 = .ok (.lst (((plcOf L) ++ [v]).map D.int)) A1 := by
    simp [fAdd]
    omega
  have ss1 := sortSet_lst (A := A1) l65
  obtain ⟨y4, go⟩ := bodyL_go T1 O here1 (x3 := some (.lst ((plcOf L).map D.int))) (all := (sset ((plcOf L) ++ [v])).map D.int) (sset ((plcOf L) ++ [v])) none
  refine (seq_nx (ρ1 := [some (.ref 1), some (.ref 2), some (.ref hr), some (.lst ((plcOf L).map D.int)), y4, none, none, none, none, none, none]) (A1 := A1) ?_).trans ?_
  · have z : (mSq (mCall fSortSet (mCons (mOp fAdd (mVar 3) (mLst (mCons (mCallF 2 dcardM (mCons (mVar 0) (mCons (mK (.int 12)) (mNil)))) (mNil)))) mNil))) [some (.ref 1), some (.ref 2), some (.ref hr), some (.lst ((plcOf L).map D.int)), none, none, none, none, none, none, none] A = .ok (.sq (.lst ((sset ((plcOf L) ++ [v])).map D.int))) A1 := by
      simp only [ev_var, ev_K, ev_op, ev_neg, ev_tst, ev_and, ev_or, ev_not, ev_andV, ev_orV, ev_notV, ev_if, ev_chn, ev_nil, ev_cons, ev_tup, ev_lst, ev_new, ev_call, ev_callF, ev_callK, ev_met, ev_sl, ev_some, ev_none, ev_rev, ev_yes, ev_sq, ev_next, ev_drop, ev_ret, ev_ifs, ev_set, ev_par2, ev_par3, ev_asg, ev_nm, List.getElem?_cons_zero, List.getElem?_cons_succ, List.set_cons_zero, List.set_cons_succ, bind_ok, lift_ok, List.length_cons, List.length_nil, Nat.reduceAdd, Nat.reduceLeDiff, ↓reduceIte, if_true, if_false, Bool.false_eq_true, ev_raise, and_self, List.map_cons, List.map_nil, List.replicate, List.cons_append, List.nil_append, Nat.reduceSub, e1, ad, ss1, seqOf]
    rw [ev_for, z]
    simp only [lift_ok, itemsOf, seqOf]
    exact go
  refine (seq_nx (ρ1 := [some (.ref 1), some (.ref 2), some (.ref hr), some (.lst ((plcOf L).map D.int)), y4, some (.int a), none, none, none, none, none]) (A1 := A2) ?_).trans ?_
  · simp only [ev_var, ev_K, ev_op, ev_neg, ev_tst, ev_and, ev_or, ev_not, ev_andV, ev_orV, ev_notV, ev_if, ev_chn, ev_nil, ev_cons, ev_tup, ev_lst, ev_new, ev_call, ev_callF, ev_callK, ev_met, ev_sl, ev_some, ev_none, ev_rev, ev_yes, ev_sq, ev_next, ev_drop, ev_ret, ev_ifs, ev_set, ev_par2, ev_par3, ev_asg, ev_nm, List.getElem?_cons_zero, List.getElem?_cons_succ, List.set_cons_zero, List.set_cons_succ, bind_ok, lift_ok, List.length_cons, List.length_nil, Nat.reduceAdd, Nat.reduceLeDiff, ↓reduceIte, if_true, if_false, Bool.false_eq_true, ev_raise, and_self, List.map_cons, List.map_nil, List.replicate, List.cons_append, List.nil_append, Nat.reduceSub, e2]
  refine (seq_nx (ρ1 := [some (.ref 1), some (.ref 2), some (.ref hr), some (.lst ((plcOf L).map D.int)), y4, some (.int a), some (.int (a + b - 1)), none, none, none, none]) (A1 := A3) ?_).trans ?_
  · simp only [ev_var, ev_K, ev_op, ev_neg, ev_tst, ev_and, ev_or, ev_not, ev_andV, ev_orV, ev_notV, ev_if, ev_chn, ev_nil, ev_cons, ev_tup, ev_lst, ev_new, ev_call, ev_callF, ev_callK, ev_met, ev_sl, ev_some, ev_none, ev_rev, ev_yes, ev_sq, ev_next, ev_drop, ev_ret, ev_ifs, ev_set, ev_par2, ev_par3, ev_asg, ev_nm, List.getElem?_cons_zero, List.getElem?_cons_succ, List.set_cons_zero, List.set_cons_succ, bind_ok, lift_ok, List.length_cons, List.length_nil, Nat.reduceAdd, Nat.reduceLeDiff, ↓reduceIte, if_true, if_false, Bool.false_eq_true, ev_raise, and_self, List.map_cons, List.map_nil, List.replicate, List.cons_append, List.nil_append, Nat.reduceSub, e3, add_ii, sub_ii]
  generalize hF : (plcOf L).filter (fun x => decide (a ≤ x) && decide (x ≤ a + b - 1)) = F
  have Flen : F.length ≤ (plcOf L).length := by rw [← hF]; exact List.length_filter_le _ _
  have c7 : compGo (.sq (.lst ((plcOf L).map D.int))) ((plcOf L).map D.int) (.nm 4) (mTst (mChn fLe fLe (mVar 5) (mVar 4) (mVar 6))) (mVar 4) [some (.ref 1), some (.ref 2), some (.ref hr), some (.lst ((plcOf L).map D.int)), none, some (.int a), some (.int (a + b - 1)), none, none, none, none] ((plcOf L).map D.int) [] A3 = .ok (F.map D.int) A3 := by
    rw [comp_pure (p := fun d => match d with | .int x => decide (a ≤ x) && decide (x ≤ a + b - 1) | _ => true) (f := fun d => d) rfl _ _ fun x hx => ?_]
    · rw [List.map_id', List.nil_append, List.filter_map, ← hF]
      rfl
    · obtain ⟨i, _, rfl⟩ := List.mem_map.mp hx
      refine ⟨_, rfl, ?_, fun _ => ?_⟩
      · by_cases h : a ≤ i
        · simp only [ev_var, ev_K, ev_op, ev_neg, ev_tst, ev_and, ev_or, ev_not, ev_andV, ev_orV, ev_notV, ev_if, ev_chn, ev_nil, ev_cons, ev_tup, ev_lst, ev_new, ev_call, ev_callF, ev_callK, ev_met, ev_sl, ev_some, ev_none, ev_rev, ev_yes, ev_sq, ev_next, ev_drop, ev_ret, ev_ifs, ev_set, ev_par2, ev_par3, ev_asg, ev_nm, List.getElem?_cons_zero, List.getElem?_cons_succ, List.set_cons_zero, List.set_cons_succ, bind_ok, lift_ok, List.length_cons, List.length_nil, Nat.reduceAdd, Nat.reduceLeDiff, ↓reduceIte, if_true, if_false, Bool.false_eq_true, ev_raise, and_self, List.map_cons, List.map_nil, List.replicate, List.cons_append, List.nil_append, Nat.reduceSub, le_ii, h, decide_true, Bool.true_and]
        · simp only [ev_var, ev_K, ev_op, ev_neg, ev_tst, ev_and, ev_or, ev_not, ev_andV, ev_orV, ev_notV, ev_if, ev_chn, ev_nil, ev_cons, ev_tup, ev_lst, ev_new, ev_call, ev_callF, ev_callK, ev_met, ev_sl, ev_some, ev_none, ev_rev, ev_yes, ev_sq, ev_next, ev_drop, ev_ret, ev_ifs, ev_set, ev_par2, ev_par3, ev_asg, ev_nm, List.getElem?_cons_zero, List.getElem?_cons_succ, List.set_cons_zero, List.set_cons_succ, bind_ok, lift_ok, List.length_cons, List.length_nil, Nat.reduceAdd, Nat.reduceLeDiff, ↓reduceIte, if_true, if_false, Bool.false_eq_true, ev_raise, and_self, List.map_cons, List.map_nil, List.replicate, List.cons_append, List.nil_append, Nat.reduceSub, le_ii, h, decide_false, Bool.false_and]
      · simp only [ev_var, ev_K, ev_op, ev_neg, ev_tst, ev_and, ev_or, ev_not, ev_andV, ev_orV, ev_notV, ev_if, ev_chn, ev_nil, ev_cons, ev_tup, ev_lst, ev_new, ev_call, ev_callF, ev_callK, ev_met, ev_sl, ev_some, ev_none, ev_rev, ev_yes, ev_sq, ev_next, ev_drop, ev_ret, ev_ifs, ev_set, ev_par2, ev_par3, ev_asg, ev_nm, List.getElem?_cons_zero, List.getElem?_cons_succ, List.set_cons_zero, List.set_cons_succ, bind_ok, lift_ok, List.length_cons, List.length_nil, Nat.reduceAdd, Nat.reduceLeDiff, ↓reduceIte, if_true, if_false, Bool.false_eq_true, ev_raise, and_self, List.map_cons, List.map_nil, List.replicate, List.cons_append, List.nil_append, Nat.reduceSub]
  have lP : ((plcOf L).map D.int).length ≤ 16777216 := by rw [List.length_map]; omega
  refine (seq_nx (ρ1 := [some (.ref 1), some (.ref 2), some (.ref hr), some (.lst ((plcOf L).map D.int)), y4, some (.int a), some (.int (a + b - 1)), some (.lst (F.map D.int)), none, none, none]) (A1 := A3) ?_).trans ?_
  · simp only [ev_var, ev_K, ev_op, ev_neg, ev_tst, ev_and, ev_or, ev_not, ev_andV, ev_orV, ev_notV, ev_if, ev_chn, ev_nil, ev_cons, ev_tup, ev_lst, ev_new, ev_call, ev_callF, ev_callK, ev_met, ev_sl, ev_some, ev_none, ev_rev, ev_yes, ev_sq, ev_next, ev_drop, ev_ret, ev_ifs, ev_set, ev_par2, ev_par3, ev_asg, ev_nm, List.getElem?_cons_zero, List.getElem?_cons_succ, List.set_cons_zero, List.set_cons_succ, bind_ok, lift_ok, List.length_cons, List.length_nil, Nat.reduceAdd, Nat.reduceLeDiff, ↓reduceIte, if_true, if_false, Bool.false_eq_true, ev_raise, and_self, List.map_cons, List.map_nil, List.replicate, List.cons_append, List.nil_append, Nat.reduceSub, ev_lc, seqOf, itemsOf, lP, wipeD, List.foldl_cons, List.foldl_nil, c7]
  have wi : within (plcOf L) a (a + b - 1) = F.getLast? := by unfold within; rw [hF]
  have eqn : fEq true (.lst (F.map D.int)) (.lst []) A3 = .ok (.bl (!F.isEmpty)) A3 := by
    have h1 : toPyA A3 (.lst (F.map D.int)) = some (.list (F.map PyData.int)) := toPyA_of (by rw [toPy, toPys_ints]; rfl)
    rw [eq_pyS h1 (toPyA_of (d := .lst []) (q := .list []) rfl) rfl (shaped_lints _) (by decide +kernel)]
    cases F with
    | nil => rfl
    | cons a r => rfl
  refine (seq_nx (ρ1 := [some (.ref 1), some (.ref 2), some (.ref hr), some (.lst ((plcOf L).map D.int)), y4, some (.int a), some (.int (a + b - 1)), some (.lst (F.map D.int)), some (optI (within (plcOf L) a (a + b - 1))), none, none]) (A1 := A3) ?_).trans ?_
  · rw [wi]
    rcases List.eq_nil_or_concat F with h | ⟨R, z, h⟩
    · subst h
      simp only [ev_var, ev_K, ev_op, ev_neg, ev_tst, ev_and, ev_or, ev_not, ev_andV, ev_orV, ev_notV, ev_if, ev_chn, ev_nil, ev_cons, ev_tup, ev_lst, ev_new, ev_call, ev_callF, ev_callK, ev_met, ev_sl, ev_some, ev_none, ev_rev, ev_yes, ev_sq, ev_next, ev_drop, ev_ret, ev_ifs, ev_set, ev_par2, ev_par3, ev_asg, ev_nm, List.getElem?_cons_zero, List.getElem?_cons_succ, List.set_cons_zero, List.set_cons_succ, bind_ok, lift_ok, List.length_cons, List.length_nil, Nat.reduceAdd, Nat.reduceLeDiff, ↓reduceIte, if_true, if_false, Bool.false_eq_true, ev_raise, and_self, List.map_cons, List.map_nil, List.replicate, List.cons_append, List.nil_append, Nat.reduceSub, eqn, List.isEmpty_nil, Bool.not_true]
      rfl
    · rw [List.concat_eq_append] at h
      subst h
      have ix : fIx (.lst ((R ++ [z]).map D.int)) (.int (-1)) A3 = .ok (.int z) A3 := ix_lst (by rw [List.map_append]; exact atI_last _ _)
      have ne : (R ++ [z]).isEmpty = false := by simp
      simp only [ev_var, ev_K, ev_op, ev_neg, ev_tst, ev_and, ev_or, ev_not, ev_andV, ev_orV, ev_notV, ev_if, ev_chn, ev_nil, ev_cons, ev_tup, ev_lst, ev_new, ev_call, ev_callF, ev_callK, ev_met, ev_sl, ev_some, ev_none, ev_rev, ev_yes, ev_sq, ev_next, ev_drop, ev_ret, ev_ifs, ev_set, ev_par2, ev_par3, ev_asg, ev_nm, List.getElem?_cons_zero, List.getElem?_cons_succ, List.set_cons_zero, List.set_cons_succ, bind_ok, lift_ok, List.length_cons, List.length_nil, Nat.reduceAdd, Nat.reduceLeDiff, ↓reduceIte, if_true, if_false, Bool.false_eq_true, ev_raise, and_self, List.map_cons, List.map_nil, List.replicate, List.cons_append, List.nil_append, Nat.reduceSub, eqn, ne, ix, Bool.not_false]
      simp [optI]
  have wsm : ∀ i, within (plcOf L) a (a + b - 1) = some i → i.natAbs < 10 ^ 31 := fun i hi => by
    rw [wi] at hi
    have := List.mem_of_getLast? hi
    rw [← hF] at this
    exact (plc_small O).1 i (List.mem_filter.mp this).1
  obtain ⟨y8, r8⟩ := repr_opts (A := A3) wsm
  have lw := last_ok T3 O (a := a) (b := a + b - 1)
  generalize within (plcOf L) a (a + b - 1) = w at lw r8
  have q1 : mMeth "Snapshots" "last_within" 3 lastX (mVar 1) (mCons (mVar 5) (mCons (mVar 6) (mNil))) [some (.ref 1), some (.ref 2), some (.ref hr), some (.lst ((plcOf L).map D.int)), y4, some (.int a), some (.int (a + b - 1)), some (.lst (F.map D.int)), some (optI w), none, none] A3 = .ok (optI w) A3 :=
    (meth_run (ds := [.int a, .int (a + b - 1)]) rfl T3.ins rfl rfl rfl).trans lw
  have q2 : mMethK "Snapshots" "last_within" 2 3 [0, 2, 1] lastX (mVar 1) (mCons (mVar 6) (mCons (mVar 5) (mNil))) [some (.ref 1), some (.ref 2), some (.ref hr), some (.lst ((plcOf L).map D.int)), y4, some (.int a), some (.int (a + b - 1)), some (.lst (F.map D.int)), some (optI w), none, none] A3 = .ok (optI w) A3 :=
    (methK_run (ds := [.int (a + b - 1), .int a]) rfl T3.ins rfl rfl rfl rfl).trans lw
  simp only [ev_var, ev_K, ev_op, ev_neg, ev_tst, ev_and, ev_or, ev_not, ev_andV, ev_orV, ev_notV, ev_if, ev_chn, ev_nil, ev_cons, ev_tup, ev_lst, ev_new, ev_call, ev_callF, ev_callK, ev_met, ev_sl, ev_some, ev_none, ev_rev, ev_yes, ev_sq, ev_next, ev_drop, ev_ret, ev_ifs, ev_set, ev_par2, ev_par3, ev_asg, ev_nm, List.getElem?_cons_zero, List.getElem?_cons_succ, List.set_cons_zero, List.set_cons_succ, bind_ok, lift_ok, List.length_cons, List.length_nil, Nat.reduceAdd, Nat.reduceLeDiff, ↓reduceIte, if_true, if_false, Bool.false_eq_true, ev_raise, and_self, List.map_cons, List.map_nil, List.replicate, List.cons_append, List.nil_append, Nat.reduceSub, q1, q2, r8, str_eq1]
end
end K18
end
section
set_option maxHeartbeats 1000000
namespace K18
open PySem PySem.Spec PyProof.Rows L2 DM
/-! ### one turn of the law -/
structure St (L : List Ent) (m : Int) (nk : List (Key × D)) (hr : Nat) (A : AH) : Prop where
  hs : HS 1 0 A
  snp : Snp L m nk A
  ok : Ok L m nk
  here : A[hr]? = some (.lst (L.map entD))
  h6 : 6 ≤ hr
section
variable {L : List Ent} {m : Int} {nk : List (Key × D)} {A : AH} {hr : Nat}
theorem St.drawn {A' : AH} (T : St L m nk hr A) (d : Drawn 1 0 A A') : St L m nk hr A' := ⟨d.2.1, T.snp.drawn d, T.ok, by have := T.h6; exact (d.2.2 hr (by omega) (by omega)).trans T.here, T.h6⟩
noncomputable def stampE : ME := mIf (mTst (mOp fGt (mCallF 2 dcardM (mCons (mVar 1) (mCons (mK (.int 5)) (mNil)))) (mK (.int 0)))) (mCallF 2 dcardM (mCons (mVar 1) (mCons (mK (.int 10)) (mNil)))) (mCallF 2 (pickM dcardM) (mCons (mVar 1) (mCons (mLst (mCons (mNeg (mK (.int 1))) (mCons (mK .non) (mCons (mK (.bl true)) (mCons (mK (.str "1")) (mCons (mTup (mNil)) (mCons (mOp fPow (mK (.int 10)) (mK (.int 30))) (mNil)))))))) (mNil))))
def Good (x : D) : Prop := ∃ s : Int, x = .int s ∧ 0 ≤ s ∧ s ≤ 10 ^ 30
def Bad (x : D) : Prop := ∀ A, numX [x] A = .ok (.bl false) A ∧ (m_is_integer [x] A = .ok (.bl false) A ∨ ∃ i : Int, x = .int i ∧ i < 0)
theorem bad_neg : Bad (.int (-1)) := fun A => ⟨num_int, .inr ⟨_, rfl, by decide⟩⟩
theorem bad_other {x : D} {t : String} (ht : ∀ A, tyName A x = some t) (h : (isB t "int" && !isB t "bool") = false) : Bad x := fun A => ⟨num_other (ht A) h, .inl (by rw [int_run (ht A), h])⟩
theorem stampE_ok (T : St L m nk hr A) {ρ : DM.Env} (h1 : ρ[1]? = some (some (.ref 1))) : ∃ x A', stampE ρ A = .ok x A' ∧ Drawn 1 0 A A' ∧ (Good x ∨ Bad x) := by
  obtain ⟨v, A1, e1, v0, v1, d1⟩ := dcard_ok (k := 5) T.hs (by decide) (by decide)
  by_cases hv : 0 < v
  · obtain ⟨s, A2, e2, s0, s1, d2⟩ := dcard_ok (k := 10) d1.2.1 (by decide) (by decide)
    refine ⟨.int s, A2, ?_, d1.trans d2, .inl ⟨s, rfl, s0, by omega⟩⟩
    unfold stampE
    simp only [ev_var, ev_K, ev_op, ev_neg, ev_tst, ev_and, ev_or, ev_not, ev_andV, ev_orV, ev_notV, ev_if, ev_chn, ev_nil, ev_cons, ev_tup, ev_lst, ev_new, ev_call, ev_callF, ev_callK, ev_met, ev_sl, ev_some, ev_none, ev_rev, ev_yes, ev_sq, ev_next, ev_drop, ev_ret, ev_ifs, ev_set, ev_par2, ev_par3, ev_asg, ev_nm, List.getElem?_cons_zero, List.getElem?_cons_succ, List.set_cons_zero, List.set_cons_succ, bind_ok, lift_ok, List.length_cons, List.length_nil, Nat.reduceAdd, Nat.reduceLeDiff, ↓reduceIte, if_true, if_false, Bool.false_eq_true, h1, e1, gt_ii, hv, decide_true, e2]
  · obtain ⟨i, hi, A2, e2, d2⟩ := dpick_ok (xs := [.int (-1), .non, .bl true, .str "1", .tup [], .int (10 ^ 30)]) d1.2.1 (by simp) (by simp)
    refine ⟨[D.int (-1), .non, .bl true, .str "1", .tup [], .int (10 ^ 30)][i], A2, ?_, d1.trans d2, ?_⟩
    · unfold stampE
      have pw : CPow 10 30 := ⟨by decide, by decide, by decide⟩
      have pe : fPow (.int 10) (.int 30) A1 = .ok (.int (10 ^ 30)) A1 := by simp only [fPow, fI, pw, if_true]; rfl
      simp only [ev_var, ev_K, ev_op, ev_neg, ev_tst, ev_and, ev_or, ev_not, ev_andV, ev_orV, ev_notV, ev_if, ev_chn, ev_nil, ev_cons, ev_tup, ev_lst, ev_new, ev_call, ev_callF, ev_callK, ev_met, ev_sl, ev_some, ev_none, ev_rev, ev_yes, ev_sq, ev_next, ev_drop, ev_ret, ev_ifs, ev_set, ev_par2, ev_par3, ev_asg, ev_nm, List.getElem?_cons_zero, List.getElem?_cons_succ, List.set_cons_zero, List.set_cons_succ, bind_ok, lift_ok, List.length_cons, List.length_nil, Nat.reduceAdd, Nat.reduceLeDiff, ↓reduceIte, if_true, if_false, Bool.false_eq_true, h1, e1, gt_ii, hv, decide_false, pe, Nat.zero_le]
      exact e2
    · match i, hi with
      | 0, _ => exact .inr bad_neg
      | 1, _ => exact .inr (bad_other (t := "NoneType") (fun _ => rfl) rfl)
      | 2, _ => exact .inr (bad_other (t := "bool") (fun _ => rfl) rfl)
      | 3, _ => exact .inr (bad_other (t := "str") (fun _ => rfl) rfl)
      | 4, _ => exact .inr (bad_other (t := "tuple") (fun _ => rfl) rfl)
      | 5, _ => exact .inl ⟨10 ^ 30, rfl, by decide, by decide⟩
noncomputable def tryB : MS := mSeq (mSet 7 (mMethK "Snapshots" "begin" 1 2 [0, 1] beginX (mVar 2) (mCons (mVar 6) (mNil)))) (mSeq (mSet 4 (mOp fAdd (mVar 4) (mK (.int 1)))) (mSeq (mDrop (mMet fApp (mVar 3) (mCons (mTup (mCons (mVar 4) (mCons (mVar 6) (mNil)))) (mNil)))) (mIfS (mOr (mTst (mOp (fEq true) (mCall fRepr (mCons (mVar 7) (mNil))) (mCall fRepr (mCons (mVar 4) (mNil))))) (mOr (mNot (mTst (mCallF 1 m_is_integer (mCons (mVar 6) (mNil))))) (mTst (mOp fLt (mVar 6) (mK (.int 0)))))) (mRet (mK (.bl false))) (mNext))))
noncomputable def hdB : HdM := ⟨"InvalidSize", ["InvalidSize"], ["NoName"], some 10, fun C a d => mIfS (mOr (mTst (mOp (fEq true) (mXf C ["InvalidSize"] a d "word" (mVar 10)) (mK (.str "stamp")))) (mAnd (mTst (mCallF 1 m_is_integer (mCons (mVar 6) (mNil)))) (mTst (mOp fGe (mVar 6) (mK (.int 0)))))) (mRet (mK (.bl false))) (mNext)⟩
noncomputable def tryM : MS := mTry tryB [hdB]
theorem tryM_bad (T : St L m nk hr A) {x : D} (hb : Bad x) {x0 x5 x7 x8 x9 : Option D} : tryM [x0, some (.ref 1), some (.ref 2), some (.ref hr), some (.int m), x5, some x, x7, x8, x9, none, none, none] A
    = .nx [x0, some (.ref 1), some (.ref 2), some (.ref hr), some (.int m), x5, some x, x7, x8, x9, none, none, none] A := by
  obtain ⟨b1, b2⟩ := hb A
  have mt : mMethK "Snapshots" "begin" 1 2 [0, 1] beginX (mVar 2) (mCons (mVar 6) (mNil)) [x0, some (.ref 1), some (.ref 2), some (.ref hr), some (.int m), x5, some x, x7, x8, x9, none, none, none] A = .exc "InvalidSize" [("word", .str "stamp")] A :=
    (methK_run (ds := [x]) rfl T.snp.ins rfl rfl rfl rfl).trans (begin_bad b1)
  unfold tryM
  refine try_exc1 (C := "InvalidSize") (fs := [("word", .str "stamp")]) (ρ1 := [x0, some (.ref 1), some (.ref 2), some (.ref hr), some (.int m), x5, some x, x7, x8, x9, none, none, none]) (A1 := A) ?_ (by simp [hdB]) fun a d => ?_
  · unfold tryB
    refine seq_exc ?_
    simp only [ev_set, mt, lift]
  · have hn : ¬ [((("word" : Str)), D.str "stamp")] = [] := by simp
    have lk : List.lookup ("word" : Str) [(("word" : Str), D.str "stamp")] = some (D.str "stamp") := by simp [List.lookup]
    rw [if_neg hn]
    rcases b2 with b2 | ⟨i, rfl, hi⟩
    · simp only [hdB, enterM, ev_var, ev_K, ev_op, ev_neg, ev_tst, ev_and, ev_or, ev_not, ev_andV, ev_orV, ev_notV, ev_if, ev_chn, ev_nil, ev_cons, ev_tup, ev_lst, ev_new, ev_call, ev_callF, ev_callK, ev_met, ev_sl, ev_some, ev_none, ev_rev, ev_yes, ev_sq, ev_next, ev_drop, ev_ret, ev_ifs, ev_set, ev_par2, ev_par3, ev_asg, ev_nm, List.getElem?_cons_zero, List.getElem?_cons_succ, List.set_cons_zero, List.set_cons_succ, bind_ok, lift_ok, List.length_cons, List.length_nil, Nat.reduceAdd, Nat.reduceLeDiff, ↓reduceIte, if_true, if_false, Bool.false_eq_true, mXf, List.map_cons, List.map_nil, List.zip_cons_cons, List.zip_nil_right, and_self, List.mem_singleton, lk, str_ne, b2, goneM]
    · have e := int_run (x := .int i) (A := A) (t := "int") rfl
      have hi' : ¬ 0 ≤ i := by omega
      have e2 : (isB "int" "int" && !isB "int" "bool") = true := rfl
      rw [e2] at e
      simp only [hdB, enterM, ev_var, ev_K, ev_op, ev_neg, ev_tst, ev_and, ev_or, ev_not, ev_andV, ev_orV, ev_notV, ev_if, ev_chn, ev_nil, ev_cons, ev_tup, ev_lst, ev_new, ev_call, ev_callF, ev_callK, ev_met, ev_sl, ev_some, ev_none, ev_rev, ev_yes, ev_sq, ev_next, ev_drop, ev_ret, ev_ifs, ev_set, ev_par2, ev_par3, ev_asg, ev_nm, List.getElem?_cons_zero, List.getElem?_cons_succ, List.set_cons_zero, List.set_cons_succ, bind_ok, lift_ok, List.length_cons, List.length_nil, Nat.reduceAdd, Nat.reduceLeDiff, ↓reduceIte, if_true, if_false, Bool.false_eq_true, mXf, List.map_cons, List.map_nil, List.zip_cons_cons, List.zip_nil_right, and_self, List.mem_singleton, lk, str_ne, e, ge_ii, hi', decide_false, goneM]
theorem tryM_good (T : St L m nk hr A) {s : Int} (h0 : 0 ≤ s) (h1 : s ≤ 10 ^ 30) (hm : m < 40) {x0 x5 x7 x8 x9 : Option D} : ∃ nk' A', tryM [x0, some (.ref 1), some (.ref 2), some (.ref hr), some (.int m), x5, some (.int s), x7, x8, x9, none, none, none] A
    = .nx [x0, some (.ref 1), some (.ref 2), some (.ref hr), some (.int (m + 1)), x5, some (.int s), some (.int (m + 1)), x8, x9, none, none, none] A' ∧ St (L ++ [(m + 1, s)]) (m + 1) nk' hr A' := by
  have h6 := T.h6
  have few := T.ok.few
  obtain ⟨A1, e1, T1, F1⟩ := begin_ok T.snp T.ok h0 hm
  have here1 : A1[hr]? = some (.lst (L.map entD)) := (F1.2 hr (.inr h6)).trans T.here
  have mt : mMethK "Snapshots" "begin" 1 2 [0, 1] beginX (mVar 2) (mCons (mVar 6) (mNil)) [x0, some (.ref 1), some (.ref 2), some (.ref hr), some (.int m), x5, some (.int s), x7, x8, x9, none, none, none] A = .ok (.int (m + 1)) A1 :=
    (methK_run (ds := [.int s]) rfl T.snp.ins rfl rfl rfl rfl).trans e1
  have ap : fApp hr [entD (m + 1, s)] A1 = .ok .non (A1.set hr (.lst ((L ++ [(m + 1, s)]).map entD))) := by
    have l : (L.map entD).length < 16777216 := by rw [List.length_map]; omega
    simp only [fApp, here1, l, if_true, List.map_append, List.map_cons, List.map_nil]
  have P := Put.set (o := .lst ((L ++ [(m + 1, s)]).map entD)) here1
  obtain ⟨hq, Lh, sh, q1, q2, q3, q4, q5⟩ := T.hs
  refine ⟨addN nk L m s, A1.set hr (.lst ((L ++ [(m + 1, s)]).map entD)), ?_, ⟨hq, Lh, sh, ?_, ?_, q3, q4, q5⟩, T1.keep fun n a b => P.2.2 n (by omega), ok_add T.ok h0 h1 hm, P.2.1, h6⟩
  · unfold tryM tryB
    refine try_nx ?_
    refine (seq_nx (ρ1 := [x0, some (.ref 1), some (.ref 2), some (.ref hr), some (.int m), x5, some (.int s), some (.int (m + 1)), x8, x9, none, none, none]) (A1 := A1) ?_).trans ?_
    · simp only [ev_var, ev_K, ev_op, ev_neg, ev_tst, ev_and, ev_or, ev_not, ev_andV, ev_orV, ev_notV, ev_if, ev_chn, ev_nil, ev_cons, ev_tup, ev_lst, ev_new, ev_call, ev_callF, ev_callK, ev_met, ev_sl, ev_some, ev_none, ev_rev, ev_yes, ev_sq, ev_next, ev_drop, ev_ret, ev_ifs, ev_set, ev_par2, ev_par3, ev_asg, ev_nm, List.getElem?_cons_zero, List.getElem?_cons_succ, List.set_cons_zero, List.set_cons_succ, bind_ok, lift_ok, List.length_cons, List.length_nil, Nat.reduceAdd, Nat.reduceLeDiff, ↓reduceIte, if_true, if_false, Bool.false_eq_true, ev_raise, and_self, List.map_cons, List.map_nil, List.replicate, List.cons_append, List.nil_append, Nat.reduceSub, mt]
    refine (seq_nx (ρ1 := [x0, some (.ref 1), some (.ref 2), some (.ref hr), some (.int (m + 1)), x5, some (.int s), some (.int (m + 1)), x8, x9, none, none, none]) (A1 := A1) ?_).trans ?_
    · simp only [ev_var, ev_K, ev_op, ev_neg, ev_tst, ev_and, ev_or, ev_not, ev_andV, ev_orV, ev_notV, ev_if, ev_chn, ev_nil, ev_cons, ev_tup, ev_lst, ev_new, ev_call, ev_callF, ev_callK, ev_met, ev_sl, ev_some, ev_none, ev_rev, ev_yes, ev_sq, ev_next, ev_drop, ev_ret, ev_ifs, ev_set, ev_par2, ev_par3, ev_asg, ev_nm, List.getElem?_cons_zero, List.getElem?_cons_succ, List.set_cons_zero, List.set_cons_succ, bind_ok, lift_ok, List.length_cons, List.length_nil, Nat.reduceAdd, Nat.reduceLeDiff, ↓reduceIte, if_true, if_false, Bool.false_eq_true, ev_raise, and_self, List.map_cons, List.map_nil, List.replicate, List.cons_append, List.nil_append, Nat.reduceSub, add_ii]
    have ap' : fApp hr [.tup [.int (m + 1), .int s]] A1 = .ok .non (A1.set hr (.lst ((L ++ [(m + 1, s)]).map entD))) := ap
    refine (seq_nx (ρ1 := [x0, some (.ref 1), some (.ref 2), some (.ref hr), some (.int (m + 1)), x5, some (.int s), some (.int (m + 1)), x8, x9, none, none, none]) (A1 := A1.set hr (.lst ((L ++ [(m + 1, s)]).map entD))) ?_).trans ?_
    · simp only [ev_var, ev_K, ev_op, ev_neg, ev_tst, ev_and, ev_or, ev_not, ev_andV, ev_orV, ev_notV, ev_if, ev_chn, ev_nil, ev_cons, ev_tup, ev_lst, ev_new, ev_call, ev_callF, ev_callK, ev_met, ev_sl, ev_some, ev_none, ev_rev, ev_yes, ev_sq, ev_next, ev_drop, ev_ret, ev_ifs, ev_set, ev_par2, ev_par3, ev_asg, ev_nm, List.getElem?_cons_zero, List.getElem?_cons_succ, List.set_cons_zero, List.set_cons_succ, bind_ok, lift_ok, List.length_cons, List.length_nil, Nat.reduceAdd, Nat.reduceLeDiff, ↓reduceIte, if_true, if_false, Bool.false_eq_true, ev_raise, and_self, List.map_cons, List.map_nil, List.replicate, List.cons_append, List.nil_append, Nat.reduceSub, here1, ap']
    generalize A1.set hr (.lst ((L ++ [(m + 1, s)]).map entD)) = A2
    obtain ⟨y, ry⟩ := repr_one (A := A2) (thing_int (i := m + 1) (by omega))
    have e := int_run (x := .int s) (A := A2) (t := "int") rfl
    have e2 : (isB "int" "int" && !isB "int" "bool") = true := rfl
    rw [e2] at e
    have hs' : ¬ s < 0 := by omega
    simp only [ev_var, ev_K, ev_op, ev_neg, ev_tst, ev_and, ev_or, ev_not, ev_andV, ev_orV, ev_notV, ev_if, ev_chn, ev_nil, ev_cons, ev_tup, ev_lst, ev_new, ev_call, ev_callF, ev_callK, ev_met, ev_sl, ev_some, ev_none, ev_rev, ev_yes, ev_sq, ev_next, ev_drop, ev_ret, ev_ifs, ev_set, ev_par2, ev_par3, ev_asg, ev_nm, List.getElem?_cons_zero, List.getElem?_cons_succ, List.set_cons_zero, List.set_cons_succ, bind_ok, lift_ok, List.length_cons, List.length_nil, Nat.reduceAdd, Nat.reduceLeDiff, ↓reduceIte, if_true, if_false, Bool.false_eq_true, ev_raise, and_self, List.map_cons, List.map_nil, List.replicate, List.cons_append, List.nil_append, Nat.reduceSub, ry, str_ne, e, lt_ii, hs', decide_false, Bool.not_true]
  · exact (P.2.2 1 (by omega)).trans ((F1.2 1 (.inl (by decide))).trans q1)
  · exact (P.2.2 0 (by omega)).trans ((F1.2 0 (.inl (by decide))).trans q2)
end
end K18
end
section
set_option maxHeartbeats 1000000
namespace K18
open PySem PySem.Spec PyProof.Rows L2 DM
section
variable {L : List Ent} {m : Int} {nk : List (Key × D)} {A : AH} {hr : Nat}
/-! ### closing -/
noncomputable def numE : ME := mCallF 2 (pickM dcardM) (mCons (mVar 1) (mCons (mOp fAdd (mLc false (mSq (mVar 3)) (.tp [.nm 11, .nm 12]) (mYes) (mVar 11) [11, 12]) (mLst (mCons (mK (.int 0)) (mCons (mOp fAdd (mVar 4) (mK (.int 1))) (mCons (mK .non) (mCons (mK (.bl true)) (mCons (mK (.str "1")) (mCons (mNeg (mK (.int 1))) (mCons (mCallF 2 dcardM (mCons (mVar 1) (mCons (mOp fAdd (mVar 4) (mK (.int 1))) (mNil)))) (mNil)))))))))) (mNil)))
theorem numE_ok (T : St L m nk hr A) {x0 x5 x6 x7 x8 x9 : Option D} : ∃ x A', numE [x0, some (.ref 1), some (.ref 2), some (.ref hr), some (.int m), x5, x6, x7, x8, x9, none, none, none] A = .ok x A' ∧ Drawn 1 0 A A' ∧ Thing x := by
  have few := T.ok.few
  have most := T.ok.most
  have h6 := T.h6
  obtain ⟨v, A1, e1, v0, v1, d1⟩ := dcard_ok (k := m + 1) T.hs (by omega) (by omega)
  obtain ⟨ys, hys⟩ : ∃ ys : List D, ys = (L.map (·.1)).map D.int ++ [.int 0, .int (m + 1), .non, .bl true, .str "1", .int (-1), .int v] := ⟨_, rfl⟩
  have yl : ys.length = L.length + 7 := by rw [hys]; simp
  obtain ⟨i, hi, A2, e2, d2⟩ := dpick_ok (xs := ys) d1.2.1 (by omega) (by omega)
  refine ⟨ys[i], A2, ?_, d1.trans d2, ?_⟩
  · have c1 : compGo (.sq (.ref hr)) (L.map entD) (.tp [.nm 11, .nm 12]) mYes (mVar 11) [x0, some (.ref 1), some (.ref 2), some (.ref hr), some (.int m), x5, x6, x7, x8, x9, none, none, none] (L.map entD) [] A = .ok ((L.map (·.1)).map D.int) A := by
      rw [comp_pure (p := fun _ => true) (f := fun d => match d with | .tup [x, _] => x | d => d) (by simp [itemsOf, seqOf, T.here]) _ _ fun x hx => ?_]
      · rw [filter_true, List.nil_append, List.map_map, List.map_map]
        rfl
      · obtain ⟨p, _, rfl⟩ := List.mem_map.mp hx
        refine ⟨_, bind_pair, rfl, fun _ => ?_⟩
        simp only [ev_var, ev_K, ev_op, ev_neg, ev_tst, ev_and, ev_or, ev_not, ev_andV, ev_orV, ev_notV, ev_if, ev_chn, ev_nil, ev_cons, ev_tup, ev_lst, ev_new, ev_call, ev_callF, ev_callK, ev_met, ev_sl, ev_some, ev_none, ev_rev, ev_yes, ev_sq, ev_next, ev_drop, ev_ret, ev_ifs, ev_set, ev_par2, ev_par3, ev_asg, ev_nm, List.getElem?_cons_zero, List.getElem?_cons_succ, List.set_cons_zero, List.set_cons_succ, bind_ok, lift_ok, List.length_cons, List.length_nil, Nat.reduceAdd, Nat.reduceLeDiff, ↓reduceIte, if_true, if_false, Bool.false_eq_true, ev_raise, and_self, List.map_cons, List.map_nil, List.replicate, List.cons_append, List.nil_append, Nat.reduceSub]
        rfl
    have l16 : (L.map entD).length ≤ 16777216 := by rw [List.length_map]; omega
    have ad : fAdd (.lst ((L.map (·.1)).map D.int)) (.lst [.int 0, .int (m + 1), .non, .bl true, .str "1", .int (-1), .int v]) A1 = .ok (.lst ys) A1 := by
      rw [hys]
      simp [fAdd]
      omega
    unfold numE
    simp only [ev_var, ev_K, ev_op, ev_neg, ev_tst, ev_and, ev_or, ev_not, ev_andV, ev_orV, ev_notV, ev_if, ev_chn, ev_nil, ev_cons, ev_tup, ev_lst, ev_new, ev_call, ev_callF, ev_callK, ev_met, ev_sl, ev_some, ev_none, ev_rev, ev_yes, ev_sq, ev_next, ev_drop, ev_ret, ev_ifs, ev_set, ev_par2, ev_par3, ev_asg, ev_nm, List.getElem?_cons_zero, List.getElem?_cons_succ, List.set_cons_zero, List.set_cons_succ, bind_ok, lift_ok, List.length_cons, List.length_nil, Nat.reduceAdd, Nat.reduceLeDiff, ↓reduceIte, if_true, if_false, Bool.false_eq_true, ev_raise, and_self, List.map_cons, List.map_nil, List.replicate, List.cons_append, List.nil_append, Nat.reduceSub, ev_lc, seqOf, itemsOf, T.here, l16, wipeD, List.foldl_cons, List.foldl_nil, c1, add_ii, e1, ad]
    exact e2
  · have hm : ys[i] ∈ ys := List.getElem_mem _
    generalize ys[i] = y at hm
    rw [hys] at hm
    rcases List.mem_append.mp hm with hm | hm
    · obtain ⟨z, hz, rfl⟩ := List.mem_map.mp hm
      obtain ⟨p, hp, rfl⟩ := List.mem_map.mp hz
      have := T.ok.lo p hp
      exact thing_int (by omega)
    · simp only [List.mem_cons, List.not_mem_nil, or_false] at hm
      rcases hm with rfl | rfl | rfl | rfl | rfl | rfl | rfl
      · exact thing_int (by decide)
      · exact thing_int (by omega)
      · exact thing_non
      · exact thing_bl
      · exact thing_one
      · exact thing_int (by decide)
      · exact thing_int (by omega)
def stampsOf (L : List Ent) (x : D) : List Int := match askOf L x with
  | some s => [s]
  | none => []
theorem find_filter (O : Ok L m nk) {n : Int} : (L.filter fun p => decide (p.1 = n)).map (·.2) = (match stOf L n with | some s => [s] | none => []) := by
  have up := O.up
  clear O
  unfold stOf
  induction L with
  | nil => rfl
  | cons p L ih =>
    rw [List.map_cons, List.pairwise_cons] at up
    by_cases h : p.1 = n
    · have z : L.filter (fun p => decide (p.1 = n)) = [] := by
        rw [List.filter_eq_nil_iff]
        intro q hq
        have := up.1 q.1 (List.mem_map_of_mem hq)
        simp; omega
      rw [List.filter_cons_of_pos (by simpa using h), z, List.find?_cons]
      simp [h]
    · rw [List.filter_cons_of_neg (by simpa using h), ih up.2, List.find?_cons]
      simp [h]
theorem stamps_run (T : St L m nk hr A) {x : D} (hx : Thing x) {x0 x1 x2 x4 x5 x6 x8 x9 : Option D} : compGo (.sq (.ref hr)) (L.map entD) (.tp [.nm 11, .nm 12]) (mAnd (mTst (mCallF 1 m_is_integer (mCons (mVar 7) (mNil)))) (mTst (mOp (fEq false) (mVar 11) (mVar 7)))) (mVar 12) [x0, x1, x2, some (.ref hr), x4, x5, x6, some x, x8, x9, none, none, none] (L.map entD) [] A
    = .ok ((stampsOf L x).map D.int) A := by
  have hit : itemsOf A (.sq (.ref hr)) = some (L.map entD) := by simp [itemsOf, seqOf, T.here]
  obtain ⟨t, ht⟩ := hx.ty A
  have e := int_run ht
  by_cases hi : ∃ n, x = .int n
  · obtain ⟨n, rfl⟩ := hi
    cases ht
    have e2 : (isB "int" "int" && !isB "int" "bool") = true := rfl
    rw [e2] at e
    rw [comp_pure (p := fun d => match d with | .tup [.int a, _] => decide (a = n) | _ => true) (f := fun d => match d with | .tup [_, x] => x | d => d) hit _ _ fun y hy => ?_]
    · have := find_filter T.ok (n := n)
      have e3 : stampsOf L (.int n) = (L.filter fun p => decide (p.1 = n)).map (·.2) := by rw [this]; rfl
      rw [e3, List.nil_append, List.filter_map, List.map_map, List.map_map]
      rfl
    · obtain ⟨p, _, rfl⟩ := List.mem_map.mp hy
      refine ⟨_, bind_pair, ?_, fun _ => ?_⟩
      · simp only [ev_var, ev_K, ev_op, ev_neg, ev_tst, ev_and, ev_or, ev_not, ev_andV, ev_orV, ev_notV, ev_if, ev_chn, ev_nil, ev_cons, ev_tup, ev_lst, ev_new, ev_call, ev_callF, ev_callK, ev_met, ev_sl, ev_some, ev_none, ev_rev, ev_yes, ev_sq, ev_next, ev_drop, ev_ret, ev_ifs, ev_set, ev_par2, ev_par3, ev_asg, ev_nm, List.getElem?_cons_zero, List.getElem?_cons_succ, List.set_cons_zero, List.set_cons_succ, bind_ok, lift_ok, List.length_cons, List.length_nil, Nat.reduceAdd, Nat.reduceLeDiff, ↓reduceIte, if_true, if_false, Bool.false_eq_true, ev_raise, and_self, List.map_cons, List.map_nil, List.replicate, List.cons_append, List.nil_append, Nat.reduceSub, e, eq_ii]
        rfl
      · simp only [ev_var, ev_K, ev_op, ev_neg, ev_tst, ev_and, ev_or, ev_not, ev_andV, ev_orV, ev_notV, ev_if, ev_chn, ev_nil, ev_cons, ev_tup, ev_lst, ev_new, ev_call, ev_callF, ev_callK, ev_met, ev_sl, ev_some, ev_none, ev_rev, ev_yes, ev_sq, ev_next, ev_drop, ev_ret, ev_ifs, ev_set, ev_par2, ev_par3, ev_asg, ev_nm, List.getElem?_cons_zero, List.getElem?_cons_succ, List.set_cons_zero, List.set_cons_succ, bind_ok, lift_ok, List.length_cons, List.length_nil, Nat.reduceAdd, Nat.reduceLeDiff, ↓reduceIte, if_true, if_false, Bool.false_eq_true, ev_raise, and_self, List.map_cons, List.map_nil, List.replicate, List.cons_append, List.nil_append, Nat.reduceSub]
        rfl
  · have e2 : (isB t "int" && !isB t "bool") = false := by
      cases x with
      | int n => exact absurd ⟨n, rfl⟩ hi
      | ref k => exact absurd rfl (hx.no k)
      | _ => simp only [tyName] at ht <;> first | (cases ht; done) | (cases ht; rfl)
    rw [e2] at e
    have e3 : stampsOf L x = [] := by
      cases x with
      | int n => exact absurd ⟨n, rfl⟩ hi
      | _ => rfl
    rw [comp_pure (p := fun _ => false) (f := fun d => d) hit _ _ fun y hy => ?_]
    · rw [e3]
      simp
    · obtain ⟨p, _, rfl⟩ := List.mem_map.mp hy
      refine ⟨_, bind_pair, ?_, fun z => nomatch z⟩
      simp only [ev_var, ev_K, ev_op, ev_neg, ev_tst, ev_and, ev_or, ev_not, ev_andV, ev_orV, ev_notV, ev_if, ev_chn, ev_nil, ev_cons, ev_tup, ev_lst, ev_new, ev_call, ev_callF, ev_callK, ev_met, ev_sl, ev_some, ev_none, ev_rev, ev_yes, ev_sq, ev_next, ev_drop, ev_ret, ev_ifs, ev_set, ev_par2, ev_par3, ev_asg, ev_nm, List.getElem?_cons_zero, List.getElem?_cons_succ, List.set_cons_zero, List.set_cons_succ, bind_ok, lift_ok, List.length_cons, List.length_nil, Nat.reduceAdd, Nat.reduceLeDiff, ↓reduceIte, if_true, if_false, Bool.false_eq_true, ev_raise, and_self, List.map_cons, List.map_nil, List.replicate, List.cons_append, List.nil_append, Nat.reduceSub, e]
def restOf (L : List Ent) (x : D) : List Ent := match x with
  | .int n => if stOf L n = none then L else drop1 L n
  | _ => L
theorem rest_run {A : AH} (here : A[hr]? = some (.lst (L.map entD))) {x : D} {x0 x1 x2 x4 x5 x6 x9 : Option D} : compGo (.sq (.ref hr)) (L.map entD) (.tp [.nm 11, .nm 12]) (mOr (mTst (mOp (fEq false) (mVar 8) (mLst (mNil)))) (mTst (mOp (fEq true) (mVar 11) (mVar 7)))) (mTup (mCons (mVar 11) (mCons (mVar 12) (mNil)))) [x0, x1, x2, some (.ref hr), x4, x5, x6, some x, some (.lst ((stampsOf L x).map D.int)), x9, none, none, none] (L.map entD) [] A
    = .ok ((restOf L x).map entD) A := by
  have hit : itemsOf A (.sq (.ref hr)) = some (L.map entD) := by simp [itemsOf, seqOf, here]
  have eqn : fEq false (.lst ((stampsOf L x).map D.int)) (.lst []) A = .ok (.bl (stampsOf L x).isEmpty) A := by
    have h1 : toPyA A (.lst ((stampsOf L x).map D.int)) = some (.list ((stampsOf L x).map PyData.int)) := toPyA_of (by rw [toPy, toPys_ints]; rfl)
    rw [eq_pyS h1 (toPyA_of (d := .lst []) (q := .list []) rfl) rfl (shaped_lints _) (by decide +kernel)]
    cases stampsOf L x with
    | nil => rfl
    | cons a r => rfl
  by_cases hz : stampsOf L x = []
  · have e3 : restOf L x = L := by
      cases x with
      | int n =>
        unfold stampsOf askOf at hz
        unfold restOf
        cases h : stOf L n with
        | none => show (if stOf L n = none then L else drop1 L n) = L; rw [if_pos h]
        | some s => simp [h] at hz
      | _ => rfl
    rw [hz] at eqn ⊢
    rw [comp_pure (p := fun _ => true) (f := fun d => d) hit _ _ fun y hy => ?_]
    · rw [filter_true, List.map_id', e3]
      rfl
    · obtain ⟨p, _, rfl⟩ := List.mem_map.mp hy
      refine ⟨_, bind_pair, ?_, fun _ => ?_⟩
      · have eqn' : fEq false (.lst []) (.lst []) A = .ok (.bl true) A := eqn
        simp only [ev_var, ev_K, ev_op, ev_neg, ev_tst, ev_and, ev_or, ev_not, ev_andV, ev_orV, ev_notV, ev_if, ev_chn, ev_nil, ev_cons, ev_tup, ev_lst, ev_new, ev_call, ev_callF, ev_callK, ev_met, ev_sl, ev_some, ev_none, ev_rev, ev_yes, ev_sq, ev_next, ev_drop, ev_ret, ev_ifs, ev_set, ev_par2, ev_par3, ev_asg, ev_nm, List.getElem?_cons_zero, List.getElem?_cons_succ, List.set_cons_zero, List.set_cons_succ, bind_ok, lift_ok, List.length_cons, List.length_nil, Nat.reduceAdd, Nat.reduceLeDiff, ↓reduceIte, if_true, if_false, Bool.false_eq_true, ev_raise, and_self, List.map_cons, List.map_nil, List.replicate, List.cons_append, List.nil_append, Nat.reduceSub, eqn', Nat.zero_le]
      · simp only [ev_var, ev_K, ev_op, ev_neg, ev_tst, ev_and, ev_or, ev_not, ev_andV, ev_orV, ev_notV, ev_if, ev_chn, ev_nil, ev_cons, ev_tup, ev_lst, ev_new, ev_call, ev_callF, ev_callK, ev_met, ev_sl, ev_some, ev_none, ev_rev, ev_yes, ev_sq, ev_next, ev_drop, ev_ret, ev_ifs, ev_set, ev_par2, ev_par3, ev_asg, ev_nm, List.getElem?_cons_zero, List.getElem?_cons_succ, List.set_cons_zero, List.set_cons_succ, bind_ok, lift_ok, List.length_cons, List.length_nil, Nat.reduceAdd, Nat.reduceLeDiff, ↓reduceIte, if_true, if_false, Bool.false_eq_true, ev_raise, and_self, List.map_cons, List.map_nil, List.replicate, List.cons_append, List.nil_append, Nat.reduceSub]
        rfl
  · obtain ⟨n, s, rfl, hs⟩ : ∃ n s, x = .int n ∧ stOf L n = some s := by
      unfold stampsOf at hz
      cases x with
      | int n =>
        cases h : stOf L n with
        | none => exact absurd (by simp [askOf, h]) hz
        | some s => exact ⟨n, s, rfl, h⟩
      | _ => exact absurd rfl hz
    have e3 : restOf L (.int n) = drop1 L n := by
      unfold restOf
      simp [hs]
    have ne : (stampsOf L (.int n)).isEmpty = false := by simpa using hz
    rw [ne] at eqn
    rw [comp_pure (p := fun d => match d with | .tup [.int a, _] => !decide (a = n) | _ => true) (f := fun d => d) hit _ _ fun y hy => ?_]
    · rw [e3, List.map_id', List.nil_append, List.filter_map]
      congr 2
      unfold drop1
      apply List.filter_congr
      intro p _
      simp [entD]
    · obtain ⟨p, _, rfl⟩ := List.mem_map.mp hy
      refine ⟨_, bind_pair, ?_, fun _ => ?_⟩
      · simp only [ev_var, ev_K, ev_op, ev_neg, ev_tst, ev_and, ev_or, ev_not, ev_andV, ev_orV, ev_notV, ev_if, ev_chn, ev_nil, ev_cons, ev_tup, ev_lst, ev_new, ev_call, ev_callF, ev_callK, ev_met, ev_sl, ev_some, ev_none, ev_rev, ev_yes, ev_sq, ev_next, ev_drop, ev_ret, ev_ifs, ev_set, ev_par2, ev_par3, ev_asg, ev_nm, List.getElem?_cons_zero, List.getElem?_cons_succ, List.set_cons_zero, List.set_cons_succ, bind_ok, lift_ok, List.length_cons, List.length_nil, Nat.reduceAdd, Nat.reduceLeDiff, ↓reduceIte, if_true, if_false, Bool.false_eq_true, ev_raise, and_self, List.map_cons, List.map_nil, List.replicate, List.cons_append, List.nil_append, Nat.reduceSub, eqn, ne_ii, Nat.zero_le]
        rfl
      · simp only [ev_var, ev_K, ev_op, ev_neg, ev_tst, ev_and, ev_or, ev_not, ev_andV, ev_orV, ev_notV, ev_if, ev_chn, ev_nil, ev_cons, ev_tup, ev_lst, ev_new, ev_call, ev_callF, ev_callK, ev_met, ev_sl, ev_some, ev_none, ev_rev, ev_yes, ev_sq, ev_next, ev_drop, ev_ret, ev_ifs, ev_set, ev_par2, ev_par3, ev_asg, ev_nm, List.getElem?_cons_zero, List.getElem?_cons_succ, List.set_cons_zero, List.set_cons_succ, bind_ok, lift_ok, List.length_cons, List.length_nil, Nat.reduceAdd, Nat.reduceLeDiff, ↓reduceIte, if_true, if_false, Bool.false_eq_true, ev_raise, and_self, List.map_cons, List.map_nil, List.replicate, List.cons_append, List.nil_append, Nat.reduceSub]
        rfl
def dueOf (L : List Ent) (x : D) : D := match askOf L x with
  | some s => .tup [.int s, .str "told"]
  | none => .tup [x, .str "refused"]
noncomputable def branchB : MS := mSeq (mSet 7 numE) (mSeq (mSet 8 (mLc false (mSq (mVar 3)) (.tp [.nm 11, .nm 12]) (mAnd (mTst (mCallF 1 m_is_integer (mCons (mVar 7) (mNil)))) (mTst (mOp (fEq false) (mVar 11) (mVar 7)))) (mVar 12) [11, 12])) (mSeq (mSet 9 (mIf (mTst (mOp (fEq true) (mVar 8) (mLst (mNil)))) (mTup (mCons (mOp fIx (mVar 8) (mK (.int 0))) (mCons (mK (.str "told")) (mNil)))) (mTup (mCons (mVar 7) (mCons (mK (.str "refused")) (mNil)))))) (mSeq (mIfS (mOr (mTst (mOp (fEq true) (mCall fRepr (mCons (mCallF 3 closedX (mCons (mVar 2) (mCons (mVar 7) (mCons (mK (.str "ask")) (mNil))))) (mNil))) (mCall fRepr (mCons (mVar 9) (mNil))))) (mTst (mOp (fEq true) (mCall fRepr (mCons (mCallF 3 closedX (mCons (mVar 2) (mCons (mVar 7) (mCons (mK (.str "close")) (mNil))))) (mNil))) (mCall fRepr (mCons (mVar 9) (mNil)))))) (mRet (mK (.bl false))) (mNext)) (mSet 3 (mLc true (mSq (mVar 3)) (.tp [.nm 11, .nm 12]) (mOr (mTst (mOp (fEq false) (mVar 8) (mLst (mNil)))) (mTst (mOp (fEq true) (mVar 11) (mVar 7)))) (mTup (mCons (mVar 11) (mCons (mVar 12) (mNil)))) [11, 12])))))
/-- asked, then closed -/
theorem closing (T : St L m nk hr A) {x : D} (hx : Thing x) : ∃ nk' A', closedX [.ref 2, x, .str "ask"] A = .ok (dueOf L x) A ∧ closedX [.ref 2, x, .str "close"] A = .ok (dueOf L x) A' ∧ HS 1 0 A' ∧ Snp (restOf L x) m nk' A' ∧ Ok (restOf L x) m nk' ∧ A'[hr]? = some (.lst (L.map entD)) ∧ ∀ A, ∃ y, fRepr [dueOf L x] A = .ok (.str y) A := by
  have h6 := T.h6
  obtain ⟨t, ht⟩ := hx.ty A
  by_cases h : askOf L x = none
  · have e3 : restOf L x = L := by
      cases x with
      | int n =>
        unfold restOf
        exact if_pos h
      | _ => rfl
    have ed : dueOf L x = .tup [x, .str "refused"] := by unfold dueOf; rw [h]
    rw [e3, ed]
    exact ⟨nk, A, closed_none T.snp ht h hx.no (.inl rfl), closed_none T.snp ht h hx.no (.inr rfl), T.hs, T.snp, T.ok, T.here, fun A => repr_pair hx (by decide +kernel) (by decide +kernel) (by decide +kernel)⟩
  · obtain ⟨n, s, rfl, hs⟩ : ∃ n s, x = .int n ∧ stOf L n = some s := by
      cases x with
      | int n =>
        cases h2 : stOf L n with
        | none => exact absurd h2 h
        | some s => exact ⟨n, s, rfl, h2⟩
      | _ => exact absurd rfl h
    have e3 : restOf L (.int n) = drop1 L n := by
      unfold restOf
      simp [hs]
    have ed : dueOf L (.int n) = .tup [.int s, .str "told"] := by
      unfold dueOf
      rw [show askOf L (.int n) = some s from hs]
    obtain ⟨A', c1, c2, F⟩ := close_told T.snp T.ok hs
    have sm := T.ok.lo _ (stOf_mem hs)
    obtain ⟨hq, Lh, sh, q1, q2, q3, q4, q5⟩ := T.hs
    rw [e3, ed]
    exact ⟨_, A', ask_told T.snp hs, c1, ⟨hq, Lh, sh, (F.2 1 (.inl (by decide))).trans q1, (F.2 0 (.inl (by decide))).trans q2, q3, q4, q5⟩, c2, ok_drop T.ok (stOf_mem hs), (F.2 hr (.inr h6)).trans T.here, fun A => repr_pair (thing_int (by omega)) (by decide +kernel) (by decide +kernel) (by decide +kernel)⟩
theorem branchB_ok (T : St L m nk hr A) {x0 x5 x6 x7 x8 x9 : Option D} : ∃ L' nk' hr' y7 y8 y9 A', branchB [x0, some (.ref 1), some (.ref 2), some (.ref hr), some (.int m), x5, x6, x7, x8, x9, none, none, none] A
    = .nx [x0, some (.ref 1), some (.ref 2), some (.ref hr'), some (.int m), x5, x6, y7, y8, y9, none, none, none] A' ∧ St L' m nk' hr' A' := by
  have few := T.ok.few
  have most := T.ok.most
  obtain ⟨x, A1, e1, d1, hx⟩ := numE_ok T (x0 := x0) (x5 := x5) (x6 := x6) (x7 := x7) (x8 := x8) (x9 := x9)
  have T1 := T.drawn d1
  obtain ⟨nk', A2, c1, c2, hs2, T2, O2, here2, rp⟩ := closing T1 hx
  have l16 : (L.map entD).length ≤ 16777216 := by rw [List.length_map]; omega
  have h6 := T.h6
  have hl : hr < A2.length := (List.getElem?_eq_some_iff.mp here2).1
  refine ⟨restOf L x, nk', A2.length, some x, some (.lst ((stampsOf L x).map D.int)), some (dueOf L x), A2 ++ [.lst ((restOf L x).map entD)], ?_, ?_⟩
  · unfold branchB
    refine (seq_nx (ρ1 := [x0, some (.ref 1), some (.ref 2), some (.ref hr), some (.int m), x5, x6, some x, x8, x9, none, none, none]) (A1 := A1) ?_).trans ?_
    · rw [ev_set, e1]
      rfl
    refine (seq_nx (ρ1 := [x0, some (.ref 1), some (.ref 2), some (.ref hr), some (.int m), x5, x6, some x, some (.lst ((stampsOf L x).map D.int)), x9, none, none, none]) (A1 := A1) ?_).trans ?_
    · simp only [ev_var, ev_K, ev_op, ev_neg, ev_tst, ev_and, ev_or, ev_not, ev_andV, ev_orV, ev_notV, ev_if, ev_chn, ev_nil, ev_cons, ev_tup, ev_lst, ev_new, ev_call, ev_callF, ev_callK, ev_met, ev_sl, ev_some, ev_none, ev_rev, ev_yes, ev_sq, ev_next, ev_drop, ev_ret, ev_ifs, ev_set, ev_par2, ev_par3, ev_asg, ev_nm, List.getElem?_cons_zero, List.getElem?_cons_succ, List.set_cons_zero, List.set_cons_succ, bind_ok, lift_ok, List.length_cons, List.length_nil, Nat.reduceAdd, Nat.reduceLeDiff, ↓reduceIte, if_true, if_false, Bool.false_eq_true, ev_raise, and_self, List.map_cons, List.map_nil, List.replicate, List.cons_append, List.nil_append, Nat.reduceSub, ev_lc, seqOf, itemsOf, T1.here, l16, wipeD, List.foldl_cons, List.foldl_nil, stamps_run T1 hx]
    refine (seq_nx (ρ1 := [x0, some (.ref 1), some (.ref 2), some (.ref hr), some (.int m), x5, x6, some x, some (.lst ((stampsOf L x).map D.int)), some (dueOf L x), none, none, none]) (A1 := A1) ?_).trans ?_
    · unfold stampsOf dueOf
      cases h : askOf L x with
      | none =>
        have eqn : fEq true (.lst []) (.lst []) A1 = .ok (.bl false) A1 := eq_pyS (toPyA_of (d := .lst []) (q := .list []) rfl) (toPyA_of (d := .lst []) (q := .list []) rfl) rfl (by decide +kernel) (by decide +kernel)
        simp only [ev_var, ev_K, ev_op, ev_neg, ev_tst, ev_and, ev_or, ev_not, ev_andV, ev_orV, ev_notV, ev_if, ev_chn, ev_nil, ev_cons, ev_tup, ev_lst, ev_new, ev_call, ev_callF, ev_callK, ev_met, ev_sl, ev_some, ev_none, ev_rev, ev_yes, ev_sq, ev_next, ev_drop, ev_ret, ev_ifs, ev_set, ev_par2, ev_par3, ev_asg, ev_nm, List.getElem?_cons_zero, List.getElem?_cons_succ, List.set_cons_zero, List.set_cons_succ, bind_ok, lift_ok, List.length_cons, List.length_nil, Nat.reduceAdd, Nat.reduceLeDiff, ↓reduceIte, if_true, if_false, Bool.false_eq_true, ev_raise, and_self, List.map_cons, List.map_nil, List.replicate, List.cons_append, List.nil_append, Nat.reduceSub, eqn, Nat.zero_le]
      | some s =>
        have eqn : fEq true (.lst [.int s]) (.lst []) A1 = .ok (.bl true) A1 := eq_pyS (toPyA_of (d := .lst [.int s]) (q := .list [.int s]) rfl) (toPyA_of (d := .lst []) (q := .list []) rfl) rfl (shaped_lints [s]) (by decide +kernel)
        have ix : fIx (.lst [.int s]) (.int 0) A1 = .ok (.int s) A1 := rfl
        simp only [ev_var, ev_K, ev_op, ev_neg, ev_tst, ev_and, ev_or, ev_not, ev_andV, ev_orV, ev_notV, ev_if, ev_chn, ev_nil, ev_cons, ev_tup, ev_lst, ev_new, ev_call, ev_callF, ev_callK, ev_met, ev_sl, ev_some, ev_none, ev_rev, ev_yes, ev_sq, ev_next, ev_drop, ev_ret, ev_ifs, ev_set, ev_par2, ev_par3, ev_asg, ev_nm, List.getElem?_cons_zero, List.getElem?_cons_succ, List.set_cons_zero, List.set_cons_succ, bind_ok, lift_ok, List.length_cons, List.length_nil, Nat.reduceAdd, Nat.reduceLeDiff, ↓reduceIte, if_true, if_false, Bool.false_eq_true, ev_raise, and_self, List.map_cons, List.map_nil, List.replicate, List.cons_append, List.nil_append, Nat.reduceSub, eqn, ix, Nat.zero_le]
    obtain ⟨y1, r1⟩ := rp A1
    obtain ⟨y2, r2⟩ := rp A2
    refine (seq_nx (ρ1 := [x0, some (.ref 1), some (.ref 2), some (.ref hr), some (.int m), x5, x6, some x, some (.lst ((stampsOf L x).map D.int)), some (dueOf L x), none, none, none]) (A1 := A2) ?_).trans ?_
    · have same : y2 = y1 := by
        have h1 := r1
        have h2 := r2
        unfold fRepr at h1 h2
        have hp : toPyA A1 (dueOf L x) = toPyA A2 (dueOf L x) := by
          have : ∃ q, toPy (dueOf L x) = some q := by
            obtain ⟨q, e, _⟩ := hx.py
            unfold dueOf
            cases askOf L x with
            | none => exact ⟨.tuple [q, .str "refused"], by simp [toPy, toPys, e]⟩
            | some s => exact ⟨.tuple [.int s, .str "told"], by simp [toPy, toPys]⟩
          obtain ⟨q, e⟩ := this
          rw [toPyA_of e, toPyA_of e]
        simp only at h1 h2
        rw [hp] at h1
        split at h1
        · rename_i q hq
          rw [hq] at h2
          simp only at h2
          split at h1
          · rename_i hc
            rw [if_pos hc] at h2
            cases h1
            cases h2
            rfl
          · cases h1
        · cases h1
      subst same
      simp only [ev_var, ev_K, ev_op, ev_neg, ev_tst, ev_and, ev_or, ev_not, ev_andV, ev_orV, ev_notV, ev_if, ev_chn, ev_nil, ev_cons, ev_tup, ev_lst, ev_new, ev_call, ev_callF, ev_callK, ev_met, ev_sl, ev_some, ev_none, ev_rev, ev_yes, ev_sq, ev_next, ev_drop, ev_ret, ev_ifs, ev_set, ev_par2, ev_par3, ev_asg, ev_nm, List.getElem?_cons_zero, List.getElem?_cons_succ, List.set_cons_zero, List.set_cons_succ, bind_ok, lift_ok, List.length_cons, List.length_nil, Nat.reduceAdd, Nat.reduceLeDiff, ↓reduceIte, if_true, if_false, Bool.false_eq_true, ev_raise, and_self, List.map_cons, List.map_nil, List.replicate, List.cons_append, List.nil_append, Nat.reduceSub, c1, c2, r1, r2, str_ne]
    · simp only [ev_var, ev_K, ev_op, ev_neg, ev_tst, ev_and, ev_or, ev_not, ev_andV, ev_orV, ev_notV, ev_if, ev_chn, ev_nil, ev_cons, ev_tup, ev_lst, ev_new, ev_call, ev_callF, ev_callK, ev_met, ev_sl, ev_some, ev_none, ev_rev, ev_yes, ev_sq, ev_next, ev_drop, ev_ret, ev_ifs, ev_set, ev_par2, ev_par3, ev_asg, ev_nm, List.getElem?_cons_zero, List.getElem?_cons_succ, List.set_cons_zero, List.set_cons_succ, bind_ok, lift_ok, List.length_cons, List.length_nil, Nat.reduceAdd, Nat.reduceLeDiff, ↓reduceIte, if_true, if_false, Bool.false_eq_true, ev_raise, and_self, List.map_cons, List.map_nil, List.replicate, List.cons_append, List.nil_append, Nat.reduceSub, ev_lc, seqOf, itemsOf, here2, l16, wipeD, List.foldl_cons, List.foldl_nil, rest_run here2]
  · obtain ⟨hq, Lh, sh, q1, q2, q3, q4, q5⟩ := hs2
    exact ⟨⟨hq, Lh, sh, by rw [List.getElem?_append_left (by omega)]; exact q1, by rw [List.getElem?_append_left (by omega)]; exact q2, q3, q4, q5⟩, T2.keep fun n a b => List.getElem?_append_left (by omega), O2, by rw [List.getElem?_append_right (Nat.le_refl _)]; simp, by omega⟩
end
end K18
end
section
set_option maxHeartbeats 1000000
namespace K18
open PySem PySem.Spec PyProof.Rows L2 DM
/-! ### the law -/
noncomputable def turnM : MS := mSeq (mIfS (mTst (mOp fLt (mCallF 2 dcardM (mCons (mVar 1) (mCons (mK (.int 5)) (mNil)))) (mK (.int 3)))) (mSeq (mSet 6 stampE) tryM) branchB) (mIfS (mNot (mTst (mCallF 3 lookedX (mCons (mVar 1) (mCons (mVar 2) (mCons (mVar 3) (mNil))))))) (mRet (mK (.bl false))) (mNext))
theorem turn_ok {L : List Ent} {m : Int} {nk : List (Key × D)} {A : AH} {hr : Nat} (T : St L m nk hr A) (hm : m < 40) {x0 x5 x6 x7 x8 x9 : Option D} : ∃ L' m' nk' hr' y6 y7 y8 y9 A', turnM [x0, some (.ref 1), some (.ref 2), some (.ref hr), some (.int m), x5, x6, x7, x8, x9, none, none, none] A
    = .nx [x0, some (.ref 1), some (.ref 2), some (.ref hr'), some (.int m'), x5, y6, y7, y8, y9, none, none, none] A' ∧ St L' m' nk' hr' A' ∧ m' ≤ m + 1 := by
  obtain ⟨v, A1, e1, v0, v1, d1⟩ := dcard_ok (k := 5) T.hs (by decide) (by decide)
  have T1 := T.drawn d1
  obtain ⟨L', m', nk', hr', y6, y7, y8, y9, A2, s2, T2, le⟩ : ∃ L' m' nk' hr' y6 y7 y8 y9 A2, (mIfS (mTst (mOp fLt (mCallF 2 dcardM (mCons (mVar 1) (mCons (mK (.int 5)) (mNil)))) (mK (.int 3)))) (mSeq (mSet 6 stampE) tryM) branchB) [x0, some (.ref 1), some (.ref 2), some (.ref hr), some (.int m), x5, x6, x7, x8, x9, none, none, none] A
      = .nx [x0, some (.ref 1), some (.ref 2), some (.ref hr'), some (.int m'), x5, y6, y7, y8, y9, none, none, none] A2 ∧ St L' m' nk' hr' A2 ∧ m' ≤ m + 1 := by
    by_cases h : v < 3
    · have t1 : mTst (mOp fLt (mCallF 2 dcardM (mCons (mVar 1) (mCons (mK (.int 5)) (mNil)))) (mK (.int 3))) [x0, some (.ref 1), some (.ref 2), some (.ref hr), some (.int m), x5, x6, x7, x8, x9, none, none, none] A = .ok true A1 := by
        simp only [ev_var, ev_K, ev_op, ev_neg, ev_tst, ev_and, ev_or, ev_not, ev_andV, ev_orV, ev_notV, ev_if, ev_chn, ev_nil, ev_cons, ev_tup, ev_lst, ev_new, ev_call, ev_callF, ev_callK, ev_met, ev_sl, ev_some, ev_none, ev_rev, ev_yes, ev_sq, ev_next, ev_drop, ev_ret, ev_ifs, ev_set, ev_par2, ev_par3, ev_asg, ev_nm, List.getElem?_cons_zero, List.getElem?_cons_succ, List.set_cons_zero, List.set_cons_succ, bind_ok, lift_ok, List.length_cons, List.length_nil, Nat.reduceAdd, Nat.reduceLeDiff, ↓reduceIte, if_true, if_false, Bool.false_eq_true, ev_raise, and_self, List.map_cons, List.map_nil, List.replicate, List.cons_append, List.nil_append, Nat.reduceSub, e1, lt_ii, h, decide_true]
      obtain ⟨x, A2, e2, d2, hx⟩ := stampE_ok T1 (ρ := [x0, some (.ref 1), some (.ref 2), some (.ref hr), some (.int m), x5, x6, x7, x8, x9, none, none, none]) rfl
      have T2 := T1.drawn d2
      have s1 : mSet 6 stampE [x0, some (.ref 1), some (.ref 2), some (.ref hr), some (.int m), x5, x6, x7, x8, x9, none, none, none] A1 = .nx [x0, some (.ref 1), some (.ref 2), some (.ref hr), some (.int m), x5, some x, x7, x8, x9, none, none, none] A2 := by
        rw [ev_set, e2]
        rfl
      rcases hx with ⟨s, rfl, h0, h1⟩ | hb
      · obtain ⟨nk', A3, e3, T3⟩ := tryM_good T2 h0 h1 hm (x0 := x0) (x5 := x5) (x7 := x7) (x8 := x8) (x9 := x9)
        refine ⟨_, _, nk', hr, some (.int s), some (.int (m + 1)), x8, x9, A3, ?_, T3, Int.le_refl _⟩
        rw [ev_ifs, t1]
        exact (seq_nx s1).trans e3
      · refine ⟨L, m, nk, hr, some x, x7, x8, x9, A2, ?_, T2, by omega⟩
        rw [ev_ifs, t1]
        exact (seq_nx s1).trans (tryM_bad T2 hb)
    · have t1 : mTst (mOp fLt (mCallF 2 dcardM (mCons (mVar 1) (mCons (mK (.int 5)) (mNil)))) (mK (.int 3))) [x0, some (.ref 1), some (.ref 2), some (.ref hr), some (.int m), x5, x6, x7, x8, x9, none, none, none] A = .ok false A1 := by
        simp only [ev_var, ev_K, ev_op, ev_neg, ev_tst, ev_and, ev_or, ev_not, ev_andV, ev_orV, ev_notV, ev_if, ev_chn, ev_nil, ev_cons, ev_tup, ev_lst, ev_new, ev_call, ev_callF, ev_callK, ev_met, ev_sl, ev_some, ev_none, ev_rev, ev_yes, ev_sq, ev_next, ev_drop, ev_ret, ev_ifs, ev_set, ev_par2, ev_par3, ev_asg, ev_nm, List.getElem?_cons_zero, List.getElem?_cons_succ, List.set_cons_zero, List.set_cons_succ, bind_ok, lift_ok, List.length_cons, List.length_nil, Nat.reduceAdd, Nat.reduceLeDiff, ↓reduceIte, if_true, if_false, Bool.false_eq_true, ev_raise, and_self, List.map_cons, List.map_nil, List.replicate, List.cons_append, List.nil_append, Nat.reduceSub, e1, lt_ii, h, decide_false]
      obtain ⟨L', nk', hr', y7, y8, y9, A2, e2, T2⟩ := branchB_ok T1 (x0 := x0) (x5 := x5) (x6 := x6) (x7 := x7) (x8 := x8) (x9 := x9)
      refine ⟨L', m, nk', hr', x6, y7, y8, y9, A2, ?_, T2, by omega⟩
      rw [ev_ifs, t1]
      exact e2
  obtain ⟨A3, e3, d3⟩ := looked_ok T2.hs T2.snp T2.ok T2.here T2.h6
  refine ⟨L', m', nk', hr', y6, y7, y8, y9, A3, ?_, T2.drawn d3, le⟩
  unfold turnM
  refine (seq_nx s2).trans ?_
  simp only [ev_var, ev_K, ev_op, ev_neg, ev_tst, ev_and, ev_or, ev_not, ev_andV, ev_orV, ev_notV, ev_if, ev_chn, ev_nil, ev_cons, ev_tup, ev_lst, ev_new, ev_call, ev_callF, ev_callK, ev_met, ev_sl, ev_some, ev_none, ev_rev, ev_yes, ev_sq, ev_next, ev_drop, ev_ret, ev_ifs, ev_set, ev_par2, ev_par3, ev_asg, ev_nm, List.getElem?_cons_zero, List.getElem?_cons_succ, List.set_cons_zero, List.set_cons_succ, bind_ok, lift_ok, List.length_cons, List.length_nil, Nat.reduceAdd, Nat.reduceLeDiff, ↓reduceIte, if_true, if_false, Bool.false_eq_true, ev_raise, and_self, List.map_cons, List.map_nil, List.replicate, List.cons_append, List.nil_append, Nat.reduceSub, e3, Bool.not_true]
theorem turns_go {iv : ItV} {all : List D} (hit : ∀ A, itemsOf A iv = some all) {x0 : Option D} : ∀ (xs : List D) {L : List Ent} {m : Int} {nk : List (Key × D)} {A : AH} {hr : Nat} {x5 x6 x7 x8 x9 : Option D}, St L m nk hr A → m + xs.length ≤ 40 →
    ∃ ρ A', forGo iv all (.nm 5) turnM xs [x0, some (.ref 1), some (.ref 2), some (.ref hr), some (.int m), x5, x6, x7, x8, x9, none, none, none] A = .nx ρ A'
  | [], L, m, nk, A, hr, x5, x6, x7, x8, x9, T, hl => ⟨_, _, for_nil (hit A)⟩
  | x :: xs, L, m, nk, A, hr, x5, x6, x7, x8, x9, T, hl => by
    rw [List.length_cons] at hl
    obtain ⟨L', m', nk', hr', y6, y7, y8, y9, A', e, T', le⟩ := turn_ok T (by omega) (x0 := x0) (x5 := some x) (x6 := x6) (x7 := x7) (x8 := x8) (x9 := x9)
    obtain ⟨ρ, A2, e2⟩ := turns_go hit (x0 := x0) xs T' (x5 := some x) (x6 := y6) (x7 := y7) (x8 := y8) (x9 := y9) (by omega)
    exact ⟨ρ, A2, (for_nx (hit A) rfl e).trans e2⟩
noncomputable abbrev lawX : List D → AH → Res D := m_law dealM m_Snapshots__init dcardM (pickM dcardM) lookedX beginX m_is_integer closedX
theorem law_holds (ns : List Int) (hl : ns.length ≤ 63) : ∃ AE, lawX [.lst (ns.map D.int)] [] = .ok (.bl true) AE := by
  obtain ⟨h, q, A1, e1, hs1, l1, hh, hq, k1⟩ := deal_ok (A := []) (ns := ns) (b := 0) (by decide) (by decide) hl
  have h1 : h = 1 := hh
  have q0 : q = 0 := hq
  subst h1 q0
  obtain ⟨o0, o1, rfl⟩ : ∃ o0 o1, A1 = [o0, o1] := by
    match A1, l1 with
    | [a, b], _ => exact ⟨a, b, rfl⟩
  have mk : mMake "Snapshots" 1 m_Snapshots__init mNil [some (.lst (ns.map D.int)), some (.ref 1), none, none, none, none, none, none, none, none, none, none, none] [o0, o1] = .ok (.ref 2) [o0, o1, .ins "Snapshots" (snapF 0), .dk [], .lst [], .dk []] := by
    refine make_run (ds := []) (A1 := [o0, o1]) rfl rfl ?_
    unfold m_Snapshots__init
    refine fun_nx (ρ1 := [some (.ref 2)]) ?_
    refine (seq_nx (setF_run (k := 2) (C := "Snapshots") (fs := []) (y := .int 0) rfl rfl rfl (by decide))).trans ?_
    refine (seq_nx (setF_run (k := 2) (C := "Snapshots") (fs := [("last", .int 0)]) (y := .ref 3) rfl rfl rfl (by decide))).trans ?_
    refine (seq_nx (setF_run (k := 2) (C := "Snapshots") (fs := [("last", .int 0), ("told", .ref 3)]) (y := .ref 4) rfl rfl rfl (by decide))).trans ?_
    exact setF_run (k := 2) (C := "Snapshots") (fs := [("last", .int 0), ("told", .ref 3), ("places", .ref 4)]) (y := .ref 5) (A2 := [o0, o1, .ins "Snapshots" [("last", .int 0), ("told", .ref 3), ("places", .ref 4)], .dk [], .lst [], .dk []]) rfl rfl rfl (by decide)
  have T0 : St [] 0 [] 6 [o0, o1, .ins "Snapshots" (snapF 0), .dk [], .lst [], .dk [], .lst []] := by
    obtain ⟨hq, Lh, sh, q1, q2, q3, q4, q5⟩ := hs1
    exact ⟨⟨hq, Lh, sh, q1, q2, q3, q4, q5⟩, ⟨rfl, rfl, rfl, rfl⟩, ⟨List.Pairwise.nil, (fun p hp => nomatch hp), Int.le_refl _, by decide, fun s => rfl, Int.le_refl _⟩, rfl, Nat.le_refl _⟩
  generalize hA2 : ([o0, o1, .ins "Snapshots" (snapF 0), .dk [], .lst [], .dk [], .lst []] : AH) = A2 at T0
  obtain ⟨v, A3, e3, v0, v1, d3⟩ := dcard_ok (k := 21) T0.hs (by decide) (by decide)
  have T3 := T0.drawn d3
  obtain ⟨ρ, A4, e4⟩ := turns_go (iv := .rng 0 (10 + v)) (all := (List.range (10 + v - 0).toNat).map fun i => D.int (0 + (i : Nat))) (fun A => rfl) (x0 := some (.lst (ns.map D.int))) ((List.range (10 + v - 0).toNat).map fun i => D.int (0 + (i : Nat))) T3 (x5 := none) (x6 := none) (x7 := none) (x8 := none) (x9 := none) (by rw [List.length_map, List.length_range]; omega)
  refine ⟨A4, ?_⟩
  unfold lawX m_law ms_law
  refine fun_rt ?_
  refine (seq_nx (ρ1 := [some (.lst (ns.map D.int)), some (.ref 1), none, none, none, none, none, none, none, none, none, none, none]) (A1 := [o0, o1]) ?_).trans ?_
  · simp only [ev_var, ev_K, ev_op, ev_neg, ev_tst, ev_and, ev_or, ev_not, ev_andV, ev_orV, ev_notV, ev_if, ev_chn, ev_nil, ev_cons, ev_tup, ev_lst, ev_new, ev_call, ev_callF, ev_callK, ev_met, ev_sl, ev_some, ev_none, ev_rev, ev_yes, ev_sq, ev_next, ev_drop, ev_ret, ev_ifs, ev_set, ev_par2, ev_par3, ev_asg, ev_nm, List.getElem?_cons_zero, List.getElem?_cons_succ, List.set_cons_zero, List.set_cons_succ, bind_ok, lift_ok, List.length_cons, List.length_nil, Nat.reduceAdd, Nat.reduceLeDiff, ↓reduceIte, if_true, if_false, Bool.false_eq_true, ev_raise, and_self, List.map_cons, List.map_nil, List.replicate, List.cons_append, List.nil_append, Nat.reduceSub, e1]
  refine (seq_nx (ρ1 := [some (.lst (ns.map D.int)), some (.ref 1), some (.ref 2), some (.ref 6), some (.int 0), none, none, none, none, none, none, none, none]) (A1 := A2) ?_).trans ?_
  · rw [ev_par3]
    have ar : (mCons (mMake "Snapshots" 1 m_Snapshots__init mNil) (mCons (mNew (mNil)) (mCons (mK (.int 0)) (mNil)))) [some (.lst (ns.map D.int)), some (.ref 1), none, none, none, none, none, none, none, none, none, none, none] [o0, o1] = .ok [.ref 2, .ref 6, .int 0] A2 := by
      rw [← hA2]
      simp only [ev_cons, mk, bind_ok, ev_new, ev_nil, List.length_nil, Nat.zero_le, if_true, ev_K]
      rfl
    rw [ar]
    rfl
  refine (seq_nx (ρ1 := ρ) (A1 := A4) ?_).trans ?_
  · have r1 : mR1 (mCons (mOp fAdd (mK (.int 10)) (mCallF 2 dcardM (mCons (mVar 1) (mCons (mK (.int 21)) (mNil))))) (mNil)) [some (.lst (ns.map D.int)), some (.ref 1), some (.ref 2), some (.ref 6), some (.int 0), none, none, none, none, none, none, none, none] A2 = .ok (.rng 0 (10 + v)) A3 := by
      refine r1_at (j := 10 + v) ?_ (by omega)
      simp only [ev_var, ev_K, ev_op, ev_neg, ev_tst, ev_and, ev_or, ev_not, ev_andV, ev_orV, ev_notV, ev_if, ev_chn, ev_nil, ev_cons, ev_tup, ev_lst, ev_new, ev_call, ev_callF, ev_callK, ev_met, ev_sl, ev_some, ev_none, ev_rev, ev_yes, ev_sq, ev_next, ev_drop, ev_ret, ev_ifs, ev_set, ev_par2, ev_par3, ev_asg, ev_nm, List.getElem?_cons_zero, List.getElem?_cons_succ, List.set_cons_zero, List.set_cons_succ, bind_ok, lift_ok, List.length_cons, List.length_nil, Nat.reduceAdd, Nat.reduceLeDiff, ↓reduceIte, if_true, if_false, Bool.false_eq_true, ev_raise, and_self, List.map_cons, List.map_nil, List.replicate, List.cons_append, List.nil_append, Nat.reduceSub, e3, add_ii]
    rw [ev_for, r1]
    simp only [lift_ok, itemsOf]
    exact e4
  · simp only [ev_var, ev_K, ev_op, ev_neg, ev_tst, ev_and, ev_or, ev_not, ev_andV, ev_orV, ev_notV, ev_if, ev_chn, ev_nil, ev_cons, ev_tup, ev_lst, ev_new, ev_call, ev_callF, ev_callK, ev_met, ev_sl, ev_some, ev_none, ev_rev, ev_yes, ev_sq, ev_next, ev_drop, ev_ret, ev_ifs, ev_set, ev_par2, ev_par3, ev_asg, ev_nm, List.getElem?_cons_zero, List.getElem?_cons_succ, List.set_cons_zero, List.set_cons_succ, bind_ok, lift_ok, List.length_cons, List.length_nil, Nat.reduceAdd, Nat.reduceLeDiff, ↓reduceIte, if_true, if_false, Bool.false_eq_true]
theorem law_true {P : Program} {w : World} {K : PySem.W.Frag} {mg : Str → Option Value} {base : Heap} {ad : Nat → Addr} {fd : Nat → FuncData} {tb : Nat → Addr × Addr} (T : Tx P K mg ad fd tb) (ns : List Int) (hl : ns.length ≤ 63) (hb : ∀ z ∈ ns, Builtin.Int.intBits z ≤ 1048576) :
    ∃ (mf : List D → AH → Res D) (AE : AH), mf [.lst (ns.map D.int)] (tabs0 []) = .ok (.bl true) AE ∧ FnD P w K mg base 5 (ad 16) (fd 16) ["_law_script"] mf := by
  obtain ⟨AE, e⟩ := law_holds ns hl
  refine ⟨_, AE, e, ?_⟩
  have gi := w_is_integer (P := P) (w := w) (base := base) T
  have gn := w_is_number T gi
  have ini := w_Snapshots__init (P := P) (w := w) (base := base) T
  have gb := w_Snapshots__lives_below (P := P) (w := w) (base := base) T
  have gbe := w_Snapshots__begin T gn gb
  have gs := w_Snapshots__stamp_of T gi
  have gc := w_Snapshots__close T gs
  have glv := w_Snapshots__live (P := P) (w := w) (base := base) T
  have gho := w_Snapshots__holders (P := P) (w := w) (base := base) T
  have gla := w_Snapshots__last_within T gb
  have gde := w__law_deal (P := P) (w := w) (base := base) T
  have gdr := w__law_draw (P := P) (w := w) (base := base) T
  have gpi := w__law_pick T gdr
  have gwh := w__law_whole (P := P) (w := w) (base := base) T
  have hwh := h__law_whole (P := P) (w := w) (base := base) T
  have gcl := w__law_closed T gc gs
  have glo := w__law_looked T gdr glv gho gla
  exact w_law T gde ini gdr gpi glo gbe gwh gcl hwh
end K18
end
set_option maxHeartbeats 4000000
namespace K18
open PySem PySem.Spec PyProof.Rows L2 DM
theorem law_end {l : PySem.W.OpenLaw} {q : Program} {w : World} {K : PySem.W.Frag} {h : Heap} {mg : Str → Option Value} {fa : Addr} (X : K.In h) (G : h.Ns mainGlobals mg) (hfa : mg "law" = some (.ref fa)) {f0 f1 f2 f3 f4 f5 f6 f7 f8 f9 f10 f11 f12 f13 f14 f15 f16 f17 f18 f19 f21 f22 f23 : Addr}
    {oc0 kV0 dc0 pm0 cd0 ct0 : Value} {od0 an0 : Option Addr} {sl0 : Array (Option Value)}
    (a0 : PySem.W.nsIn K mainGlobals "is_integer" = some (some (.ref f0)))
    (l0 : K.lookup f0 = some ⟨oc0, od0, .func (PySem.W.fnOf "is_integer" "is_integer" (defArgs x_is_integer) (defBody x_is_integer) (defScope x_is_integer) .none kV0 dc0 pm0 an0 cd0 ct0), sl0⟩)
    (c0 : PySem.W.codeIn K cd0 "is_integer" = true)
    (k0 : PySem.W.keepIn K (.ref f0) = true)
    {oc1 kV1 dc1 pm1 cd1 ct1 : Value} {od1 an1 : Option Addr} {sl1 : Array (Option Value)}
    (a1 : PySem.W.nsIn K mainGlobals "is_number" = some (some (.ref f1)))
    (l1 : K.lookup f1 = some ⟨oc1, od1, .func (PySem.W.fnOf "is_number" "is_number" (defArgs x_is_number) (defBody x_is_number) (defScope x_is_number) .none kV1 dc1 pm1 an1 cd1 ct1), sl1⟩)
    (c1 : PySem.W.codeIn K cd1 "is_number" = true)
    (k1 : PySem.W.keepIn K (.ref f1) = true)
    {oc2 kV2 dc2 pm2 cd2 ct2 : Value} {od2 an2 : Option Addr} {sl2 : Array (Option Value)}
    (a2 : PySem.W.findIn K (.ref f23) "__init__" = some (some (.ref f2)))
    (b2 : PySem.W.isFn K (.ref f2) = true)
    (l2 : K.lookup f2 = some ⟨oc2, od2, .func (PySem.W.fnOf "__init__" "Snapshots.__init__" (defArgs x_Snapshots__init) (defBody x_Snapshots__init) (defScope x_Snapshots__init) .none kV2 dc2 pm2 an2 cd2 ct2), sl2⟩)
    (c2 : PySem.W.codeIn K cd2 "Snapshots.__init__" = true)
    (k2 : PySem.W.keepIn K (.ref f2) = true)
    {oc3 kV3 dc3 pm3 cd3 ct3 : Value} {od3 an3 : Option Addr} {sl3 : Array (Option Value)}
    (a3 : PySem.W.findIn K (.ref f23) "begin" = some (some (.ref f3)))
    (b3 : PySem.W.isFn K (.ref f3) = true)
    (l3 : K.lookup f3 = some ⟨oc3, od3, .func (PySem.W.fnOf "begin" "Snapshots.begin" (defArgs x_Snapshots__begin) (defBody x_Snapshots__begin) (defScope x_Snapshots__begin) .none kV3 dc3 pm3 an3 cd3 ct3), sl3⟩)
    (c3 : PySem.W.codeIn K cd3 "Snapshots.begin" = true)
    (k3 : PySem.W.keepIn K (.ref f3) = true)
    {oc4 kV4 dc4 pm4 cd4 ct4 : Value} {od4 an4 : Option Addr} {sl4 : Array (Option Value)}
    (a4 : PySem.W.findIn K (.ref f23) "lives_below" = some (some (.ref f4)))
    (b4 : PySem.W.isFn K (.ref f4) = true)
    (l4 : K.lookup f4 = some ⟨oc4, od4, .func (PySem.W.fnOf "lives_below" "Snapshots.lives_below" (defArgs x_Snapshots__lives_below) (defBody x_Snapshots__lives_below) (defScope x_Snapshots__lives_below) .none kV4 dc4 pm4 an4 cd4 ct4), sl4⟩)
    (c4 : PySem.W.codeIn K cd4 "Snapshots.lives_below" = true)
    (k4 : PySem.W.keepIn K (.ref f4) = true)
    {oc5 kV5 dc5 pm5 cd5 ct5 : Value} {od5 an5 : Option Addr} {sl5 : Array (Option Value)}
    (a5 : PySem.W.findIn K (.ref f23) "stamp_of" = some (some (.ref f5)))
    (b5 : PySem.W.isFn K (.ref f5) = true)
    (l5 : K.lookup f5 = some ⟨oc5, od5, .func (PySem.W.fnOf "stamp_of" "Snapshots.stamp_of" (defArgs x_Snapshots__stamp_of) (defBody x_Snapshots__stamp_of) (defScope x_Snapshots__stamp_of) .none kV5 dc5 pm5 an5 cd5 ct5), sl5⟩)
    (c5 : PySem.W.codeIn K cd5 "Snapshots.stamp_of" = true)
    (k5 : PySem.W.keepIn K (.ref f5) = true)
    {oc6 kV6 dc6 pm6 cd6 ct6 : Value} {od6 an6 : Option Addr} {sl6 : Array (Option Value)}
    (a6 : PySem.W.findIn K (.ref f23) "close" = some (some (.ref f6)))
    (b6 : PySem.W.isFn K (.ref f6) = true)
    (l6 : K.lookup f6 = some ⟨oc6, od6, .func (PySem.W.fnOf "close" "Snapshots.close" (defArgs x_Snapshots__close) (defBody x_Snapshots__close) (defScope x_Snapshots__close) .none kV6 dc6 pm6 an6 cd6 ct6), sl6⟩)
    (c6 : PySem.W.codeIn K cd6 "Snapshots.close" = true)
    (k6 : PySem.W.keepIn K (.ref f6) = true)
    {oc7 kV7 dc7 pm7 cd7 ct7 : Value} {od7 an7 : Option Addr} {sl7 : Array (Option Value)}
    (a7 : PySem.W.findIn K (.ref f23) "live" = some (some (.ref f7)))
    (b7 : PySem.W.isFn K (.ref f7) = true)
    (l7 : K.lookup f7 = some ⟨oc7, od7, .func (PySem.W.fnOf "live" "Snapshots.live" (defArgs x_Snapshots__live) (defBody x_Snapshots__live) (defScope x_Snapshots__live) .none kV7 dc7 pm7 an7 cd7 ct7), sl7⟩)
    (c7 : PySem.W.codeIn K cd7 "Snapshots.live" = true)
    (k7 : PySem.W.keepIn K (.ref f7) = true)
    {oc8 kV8 dc8 pm8 cd8 ct8 : Value} {od8 an8 : Option Addr} {sl8 : Array (Option Value)}
    (a8 : PySem.W.findIn K (.ref f23) "holders" = some (some (.ref f8)))
    (b8 : PySem.W.isFn K (.ref f8) = true)
    (l8 : K.lookup f8 = some ⟨oc8, od8, .func (PySem.W.fnOf "holders" "Snapshots.holders" (defArgs x_Snapshots__holders) (defBody x_Snapshots__holders) (defScope x_Snapshots__holders) .none kV8 dc8 pm8 an8 cd8 ct8), sl8⟩)
    (c8 : PySem.W.codeIn K cd8 "Snapshots.holders" = true)
    (k8 : PySem.W.keepIn K (.ref f8) = true)
    {oc9 kV9 dc9 pm9 cd9 ct9 : Value} {od9 an9 : Option Addr} {sl9 : Array (Option Value)}
    (a9 : PySem.W.findIn K (.ref f23) "last_within" = some (some (.ref f9)))
    (b9 : PySem.W.isFn K (.ref f9) = true)
    (l9 : K.lookup f9 = some ⟨oc9, od9, .func (PySem.W.fnOf "last_within" "Snapshots.last_within" (defArgs x_Snapshots__last_within) (defBody x_Snapshots__last_within) (defScope x_Snapshots__last_within) .none kV9 dc9 pm9 an9 cd9 ct9), sl9⟩)
    (c9 : PySem.W.codeIn K cd9 "Snapshots.last_within" = true)
    (k9 : PySem.W.keepIn K (.ref f9) = true)
    {oc10 kV10 dc10 pm10 cd10 ct10 : Value} {od10 an10 : Option Addr} {sl10 : Array (Option Value)}
    (a10 : PySem.W.nsIn K mainGlobals "_law_deal" = some (some (.ref f10)))
    (l10 : K.lookup f10 = some ⟨oc10, od10, .func (PySem.W.fnOf "_law_deal" "_law_deal" (defArgs x__law_deal) (defBody x__law_deal) (defScope x__law_deal) .none kV10 dc10 pm10 an10 cd10 ct10), sl10⟩)
    (c10 : PySem.W.codeIn K cd10 "_law_deal" = true)
    (k10 : PySem.W.keepIn K (.ref f10) = true)
    {oc11 kV11 dc11 pm11 cd11 ct11 : Value} {od11 an11 : Option Addr} {sl11 : Array (Option Value)}
    (a11 : PySem.W.nsIn K mainGlobals "_law_draw" = some (some (.ref f11)))
    (l11 : K.lookup f11 = some ⟨oc11, od11, .func (PySem.W.fnOf "_law_draw" "_law_draw" (defArgs x__law_draw) (defBody x__law_draw) (defScope x__law_draw) .none kV11 dc11 pm11 an11 cd11 ct11), sl11⟩)
    (c11 : PySem.W.codeIn K cd11 "_law_draw" = true)
    (k11 : PySem.W.keepIn K (.ref f11) = true)
    {oc12 kV12 dc12 pm12 cd12 ct12 : Value} {od12 an12 : Option Addr} {sl12 : Array (Option Value)}
    (a12 : PySem.W.nsIn K mainGlobals "_law_pick" = some (some (.ref f12)))
    (l12 : K.lookup f12 = some ⟨oc12, od12, .func (PySem.W.fnOf "_law_pick" "_law_pick" (defArgs x__law_pick) (defBody x__law_pick) (defScope x__law_pick) .none kV12 dc12 pm12 an12 cd12 ct12), sl12⟩)
    (c12 : PySem.W.codeIn K cd12 "_law_pick" = true)
    (k12 : PySem.W.keepIn K (.ref f12) = true)
    {oc13 kV13 dc13 pm13 cd13 ct13 : Value} {od13 an13 : Option Addr} {sl13 : Array (Option Value)}
    (a13 : PySem.W.nsIn K mainGlobals "_law_whole" = some (some (.ref f13)))
    (l13 : K.lookup f13 = some ⟨oc13, od13, .func (PySem.W.fnOf "_law_whole" "_law_whole" (defArgs x__law_whole) (defBody x__law_whole) (defScope x__law_whole) .none kV13 dc13 pm13 an13 cd13 ct13), sl13⟩)
    (c13 : PySem.W.codeIn K cd13 "_law_whole" = true)
    (k13 : PySem.W.keepIn K (.ref f13) = true)
    {oc14 kV14 dc14 pm14 cd14 ct14 : Value} {od14 an14 : Option Addr} {sl14 : Array (Option Value)}
    (a14 : PySem.W.nsIn K mainGlobals "_law_closed" = some (some (.ref f14)))
    (l14 : K.lookup f14 = some ⟨oc14, od14, .func (PySem.W.fnOf "_law_closed" "_law_closed" (defArgs x__law_closed) (defBody x__law_closed) (defScope x__law_closed) .none kV14 dc14 pm14 an14 cd14 ct14), sl14⟩)
    (c14 : PySem.W.codeIn K cd14 "_law_closed" = true)
    (k14 : PySem.W.keepIn K (.ref f14) = true)
    {oc15 kV15 dc15 pm15 cd15 ct15 : Value} {od15 an15 : Option Addr} {sl15 : Array (Option Value)}
    (a15 : PySem.W.nsIn K mainGlobals "_law_looked" = some (some (.ref f15)))
    (l15 : K.lookup f15 = some ⟨oc15, od15, .func (PySem.W.fnOf "_law_looked" "_law_looked" (defArgs x__law_looked) (defBody x__law_looked) (defScope x__law_looked) .none kV15 dc15 pm15 an15 cd15 ct15), sl15⟩)
    (c15 : PySem.W.codeIn K cd15 "_law_looked" = true)
    (k15 : PySem.W.keepIn K (.ref f15) = true)
    {oc16 kV16 dc16 pm16 cd16 ct16 : Value} {od16 an16 : Option Addr} {sl16 : Array (Option Value)}
    (a16 : PySem.W.nsIn K mainGlobals "law" = some (some (.ref f16)))
    (l16 : K.lookup f16 = some ⟨oc16, od16, .func (PySem.W.fnOf "law" "law" (defArgs x_law) (defBody x_law) (defScope x_law) .none kV16 dc16 pm16 an16 cd16 ct16), sl16⟩)
    (c16 : PySem.W.codeIn K cd16 "law" = true)
    (k16 : PySem.W.keepIn K (.ref f16) = true)
    (ca23 : PySem.W.nsIn K mainGlobals "Snapshots" = some (some (.ref f23)))
    (cb23 : PySem.W.plainGet K f23 Str.empty = true)
    (cx23 : PySem.W.hasDictIn K f23 = true)
    (cy23 : PySem.W.plainOver K f23 = true)
    (ce23 : PySem.W.findIn K (.ref f23) "__setattr__" = some (some (.builtin "object.__setattr__")))
    (cf23 : PySem.W.makesIn K f23 = true)
    (cg23 : PySem.W.keepIn K (.ref f23) = true)
    (cn23_last : PySem.W.findIn K (.ref f23) "last" = some none)
    (cn23_numbers : PySem.W.findIn K (.ref f23) "numbers" = some none)
    (cn23_places : PySem.W.findIn K (.ref f23) "places" = some none)
    (cn23_told : PySem.W.findIn K (.ref f23) "told" = some none)
    (sp : PySem.W.specialIn K (.builtin "object.__class__") "__get__" = some (some (.builtin "getset_descriptor.__get__")))
    (tp : PySem.W.takesIn K (.builtin "object.__class__") = some true)
    (tq : PySem.W.nsIn K cStatics "thirdparty.any" = some none)
    (tr : (l.prog.main.scope.names.lookup ("super" : Str)).isSome = false)
    (ea17 : PySem.W.nsIn K mainGlobals "StoreError" = some (some (.ref f17)))
    (eb17 : PySem.W.findIn K (.ref f17) "__getattribute__" = some (some (.builtin "BaseException.__getattribute__")))
    (ec17 : PySem.W.findIn K (.ref f17) "__getattr__" = some none)
    (ed17 : PySem.W.subIn K (.ref f17) (.type "BaseException") = some true)
    (ee17 : PySem.W.hasDictIn K f17 = true)
    (ef17 : PySem.W.findIn K (.ref f17) "__class__" = some (some (.builtin "object.__class__")))
    (eg17 : PySem.W.mroIn K f17 (.type "object") = some true)
    (eh17 : PySem.W.typeIn K (.ref f17) = some (.type "type"))
    (ei17 : PySem.W.keepIn K (.ref f17) = true)
    (ej17 : PySem.W.subIn K (.ref f17) (.ref f17) = some true)
    (ea18 : PySem.W.nsIn K mainGlobals "InvalidSize" = some (some (.ref f18)))
    (eb18 : PySem.W.findIn K (.ref f18) "__getattribute__" = some (some (.builtin "BaseException.__getattribute__")))
    (ec18 : PySem.W.findIn K (.ref f18) "__getattr__" = some none)
    (ed18 : PySem.W.subIn K (.ref f18) (.type "BaseException") = some true)
    (ee18 : PySem.W.hasDictIn K f18 = true)
    (ef18 : PySem.W.findIn K (.ref f18) "__class__" = some (some (.builtin "object.__class__")))
    (eg18 : PySem.W.mroIn K f18 (.type "object") = some true)
    (eh18 : PySem.W.typeIn K (.ref f18) = some (.type "type"))
    (ei18 : PySem.W.keepIn K (.ref f18) = true)
    (ej18 : PySem.W.subIn K (.ref f18) (.ref f18) = some true)
    (ea19 : PySem.W.nsIn K mainGlobals "NoName" = some (some (.ref f19)))
    (eb19 : PySem.W.findIn K (.ref f19) "__getattribute__" = some (some (.builtin "BaseException.__getattribute__")))
    (ec19 : PySem.W.findIn K (.ref f19) "__getattr__" = some none)
    (ed19 : PySem.W.subIn K (.ref f19) (.type "BaseException") = some true)
    (ee19 : PySem.W.hasDictIn K f19 = true)
    (ef19 : PySem.W.findIn K (.ref f19) "__class__" = some (some (.builtin "object.__class__")))
    (eg19 : PySem.W.mroIn K f19 (.type "object") = some true)
    (eh19 : PySem.W.typeIn K (.ref f19) = some (.type "type"))
    (ei19 : PySem.W.keepIn K (.ref f19) = true)
    (ej19 : PySem.W.subIn K (.ref f19) (.ref f19) = some true)
    (en18_word : PySem.W.findIn K (.ref f18) "word" = some none)
    (en19_name : PySem.W.findIn K (.ref f19) "name" = some none)
    (eu18_18 : PySem.W.subIn K (.ref f18) (.ref f18) = some true)
    (eu18_19 : PySem.W.subIn K (.ref f18) (.ref f19) = some false)
    (eu19_18 : PySem.W.subIn K (.ref f19) (.ref f18) = some false)
    (eu19_19 : PySem.W.subIn K (.ref f19) (.ref f19) = some true)
    (et19_KeyError : PySem.W.subIn K (.ref f19) (.type "KeyError") = some true)
    {nm18 qn18 : Str} {N18 : Addr} {bs18 bm18 : List Value} {sn18 : List Str} {sb18 : List Value} {ab18 : Bool} {cl18 : Option Bool} {dd18 : Option Addr} {ka18 kb18 kc18 kd18 ke18 : Option Value}
    {oc18 kV18 dc18 pm18 ct18 ccl18 cel18 : Value} {od18 an18 cdd18 cld18 : Option Addr} {sl18 ccs18 csl18 : Array (Option Value)} {qual18 file18 : Str} {cda18 cc18 : Addr} {vs18 : Array Value} {tf18 : Tok}
    (xa18 : K.lookup f18 = some (excClassObj nm18 qn18 f18 N18 bs18 bm18 true sn18 sb18 ab18 cl18 dd18 ka18 kb18 kc18 kd18 ke18 "Exception.__new__"))
    (xb18 : ErE.Line [.type "Exception", .type "BaseException", .type "object"] bm18)
    (xc18 : PySem.W.findIn K (.ref f18) "__setattr__" = some (some (.builtin "object.__setattr__")))
    (xd18 : PySem.W.findIn K (.ref f18) "__init__" = some (some (.ref f21)))
    (xe18 : PySem.W.typeIn K (.ref f21) = some (.type "function"))
    (xf18 : PySem.W.ks_superIn K f18 f18 "__init__" = some (some (.builtin "Exception.__init__")))
    (xg18 : PySem.W.subIn K (.ref f18) (.type "Exception") = some true)
    (xh18 : K.lookup f21 = some ⟨oc18, od18, .func (PySem.W.ksFn "__init__" qual18 (defArgs (methAt x_InvalidSize 0)) (defBody (methAt x_InvalidSize 0)) (defScope (methAt x_InvalidSize 0)) .none kV18 dc18 pm18 an18 (.ref cda18) ct18 cc18), sl18⟩)
    (xi18 : PySem.W.codeIn K (.ref cda18) qual18 = true)
    (xj18 : K.lookup cda18 = some ⟨ccl18, cdd18, .fields vs18, ccs18⟩)
    (xk18 : vs18[2]? = some (.str file18 tf18))
    (xl18 : ((l.prog.main.file : Str) == file18) = true)
    (xm18 : K.lookup cc18 = some ⟨cel18, cld18, .cell (some (.ref f18)), csl18⟩)
    {nm19 qn19 : Str} {N19 : Addr} {bs19 bm19 : List Value} {sn19 : List Str} {sb19 : List Value} {ab19 : Bool} {cl19 : Option Bool} {dd19 : Option Addr} {ka19 kb19 kc19 kd19 ke19 : Option Value}
    {oc19 kV19 dc19 pm19 ct19 ccl19 cel19 : Value} {od19 an19 cdd19 cld19 : Option Addr} {sl19 ccs19 csl19 : Array (Option Value)} {qual19 file19 : Str} {cda19 cc19 : Addr} {vs19 : Array Value} {tf19 : Tok}
    (xa19 : K.lookup f19 = some (excClassObj nm19 qn19 f19 N19 bs19 bm19 true sn19 sb19 ab19 cl19 dd19 ka19 kb19 kc19 kd19 ke19 "LookupError.__new__"))
    (xb19 : ErE.Line [.type "KeyError", .type "LookupError", .type "Exception", .type "BaseException", .type "object"] bm19)
    (xc19 : PySem.W.findIn K (.ref f19) "__setattr__" = some (some (.builtin "object.__setattr__")))
    (xd19 : PySem.W.findIn K (.ref f19) "__init__" = some (some (.ref f22)))
    (xe19 : PySem.W.typeIn K (.ref f22) = some (.type "function"))
    (xf19 : PySem.W.ks_superIn K f19 f19 "__init__" = some (some (.builtin "KeyError.__init__")))
    (xg19 : PySem.W.subIn K (.ref f19) (.type "KeyError") = some true)
    (xh19 : K.lookup f22 = some ⟨oc19, od19, .func (PySem.W.ksFn "__init__" qual19 (defArgs (methAt x_NoName 0)) (defBody (methAt x_NoName 0)) (defScope (methAt x_NoName 0)) .none kV19 dc19 pm19 an19 (.ref cda19) ct19 cc19), sl19⟩)
    (xi19 : PySem.W.codeIn K (.ref cda19) qual19 = true)
    (xj19 : K.lookup cda19 = some ⟨ccl19, cdd19, .fields vs19, ccs19⟩)
    (xk19 : vs19[2]? = some (.str file19 tf19))
    (xl19 : ((l.prog.main.file : Str) == file19) = true)
    (xm19 : K.lookup cc19 = some ⟨cel19, cld19, .cell (some (.ref f19)), csl19⟩)
    (z0 : PySem.W.nsIn K mainGlobals "KeyError" = some none)
    (z1 : PySem.W.nsIn K mainGlobals "abs" = some none)
    (z2 : PySem.W.nsIn K mainGlobals "bool" = some none)
    (z3 : PySem.W.nsIn K mainGlobals "int" = some none)
    (z4 : PySem.W.nsIn K mainGlobals "isinstance" = some none)
    (z5 : PySem.W.nsIn K mainGlobals "len" = some none)
    (z6 : PySem.W.nsIn K mainGlobals "range" = some none)
    (z7 : PySem.W.nsIn K mainGlobals "repr" = some none)
    (z8 : PySem.W.nsIn K mainGlobals "set" = some none)
    (z9 : PySem.W.nsIn K mainGlobals "sorted" = some none)
    (z10 : PySem.W.nsIn K mainGlobals "super" = some none)
    (z11 : PySem.W.nsIn K mainGlobals "tuple" = some none)
    : ∃ (fd : FuncData) (cs : Tabs0), (∀ p ∈ cs, ∃ (y : Str) (e : DefRec), (recsOf q).find? (fun e => e.name == y) = some e ∧ PySem.W.tabIn K y = some (p.1, p.2.1)) ∧ (∀ p ∈ cs, K.lookup p.2.1 = none) ∧ (cs.map (·.2.1)).Nodup ∧
        (∀ (s : Shared) (u : Value), BindsTo s fd ⟨[u], []⟩ [("_law_script", u)]) ∧ ∀ base : Heap, K.In base → base.Ns mainGlobals mg → (∀ p ∈ cs, LamX.TabB base mg p.1 p.2.1) → ∀ ns : List Int, ns.length ≤ 63 → (∀ z ∈ ns, Builtin.Int.intBits z ≤ 1048576) →
        ∃ (mf : List D → AH → Res D) (AE : AH), mf [.lst (ns.map D.int)] (tabs0 cs) = .ok (.bl true) AE ∧ FnD l.prog w K mg base 5 fa fd ["_law_script"] mf := by
  have e := hfa.symm.trans (PySem.W.mg_of X G a16)
  cases e
  have T := tx_mk (P := l.prog) X G a0 l0 c0 k0 a1 l1 c1 k1 a2 b2 l2 c2 k2 a3 b3 l3 c3 k3 a4 b4 l4 c4 k4 a5 b5 l5 c5 k5 a6 b6 l6 c6 k6 a7 b7 l7 c7 k7 a8 b8 l8 c8 k8 a9 b9 l9 c9 k9 a10 l10 c10 k10 a11 l11 c11 k11 a12 l12 c12 k12 a13 l13 c13 k13 a14 l14 c14 k14 a15 l15 c15 k15 a16 l16 c16 k16 ca23 cb23 cx23 cy23 ce23 cf23 cg23 cn23_last cn23_numbers cn23_places cn23_told sp tp tq tr ea17 eb17 ec17 ed17 ee17 ef17 eg17 eh17 ei17 ej17 ea18 eb18 ec18 ed18 ee18 ef18 eg18 eh18 ei18 ej18 ea19 eb19 ec19 ed19 ee19 ef19 eg19 eh19 ei19 ej19 en18_word en19_name eu18_18 eu18_19 eu19_18 eu19_19 et19_KeyError xa18 xb18 xc18 xd18 xe18 xf18 xg18 xh18 xi18 xj18 xk18 xl18 xm18 xa19 xb19 xc19 xd19 xe19 xf19 xg19 xh19 xi19 xj19 xk19 xl19 xm19 z0 z1 z2 z3 z4 z5 z6 z7 z8 z9 z10 z11
  exact ⟨_, [], fun p hp => (nomatch hp), fun p hp => (nomatch hp), List.nodup_nil, fun s u => .of_eq rfl, fun base _ _ _ ns hl hb => law_true T ns hl hb⟩
end K18
open PySem PySem.W PyProof.Rows
set_option maxHeartbeats 0 in
theorem PySem.Challenge.cw_spelledways_k18_who_looks_at_which_stamp_holds : PySem.Challenge.rw_spelledways_k18_who_looks_at_which_stamp.Holds := by
  w_on; o_law; k_head; (case hw => w_witness2)
  k_fill
  refine DM.law_walk (l := PySem.Challenge.rw_spelledways_k18_who_looks_at_which_stamp) (n := 63) (k := 5) (x := "_law_script") rfl (by decide) rfl ⟨rfl, by decide, by decide⟩ (fun w h Y => by first | exact PySem.W.kIn_of Y | exact PySem.W.km_in_of Y) ?F
  case F =>
    intro w mg fa h KX G hmg
    refine' K18.law_end KX G hmg ?a0 ?l0 ?c0 ?k0 ?a1 ?l1 ?c1 ?k1 ?a2 ?b2 ?l2 ?c2 ?k2 ?a3 ?b3 ?l3 ?c3 ?k3 ?a4 ?b4 ?l4 ?c4 ?k4 ?a5 ?b5 ?l5 ?c5 ?k5 ?a6 ?b6 ?l6 ?c6 ?k6 ?a7 ?b7 ?l7 ?c7 ?k7 ?a8 ?b8 ?l8 ?c8 ?k8 ?a9 ?b9 ?l9 ?c9 ?k9 ?a10 ?l10 ?c10 ?k10 ?a11 ?l11 ?c11 ?k11 ?a12 ?l12 ?c12 ?k12 ?a13 ?l13 ?c13 ?k13 ?a14 ?l14 ?c14 ?k14 ?a15 ?l15 ?c15 ?k15 ?a16 ?l16 ?c16 ?k16 ?ca23 ?cb23 ?cx23 ?cy23 ?ce23 ?cf23 ?cg23 ?cn23_last ?cn23_numbers ?cn23_places ?cn23_told ?sp ?tp ?tq ?tr ?ea17 ?eb17 ?ec17 ?ed17 ?ee17 ?ef17 ?eg17 ?eh17 ?ei17 ?ej17 ?ea18 ?eb18 ?ec18 ?ed18 ?ee18 ?ef18 ?eg18 ?eh18 ?ei18 ?ej18 ?ea19 ?eb19 ?ec19 ?ed19 ?ee19 ?ef19 ?eg19 ?eh19 ?ei19 ?ej19 ?en18_word ?en19_name ?eu18_18 ?eu18_19 ?eu19_18 ?eu19_19 ?et19_KeyError ?xa18 ?xb18 ?xc18 ?xd18 ?xe18 ?xf18 ?xg18 ?xh18 ?xi18 ?xj18 ?xk18 ?xl18 ?xm18 ?xa19 ?xb19 ?xc19 ?xd19 ?xe19 ?xf19 ?xg19 ?xh19 ?xi19 ?xj19 ?xk19 ?xl19 ?xm19 ?z0 ?z1 ?z2 ?z3 ?z4 ?z5 ?z6 ?z7 ?z8 ?z9 ?z10 ?z11
    (case ca23 => k_is); (case cb23 => k_is); (case cx23 => k_is); (case cy23 => k_is); (case ce23 => k_is); (case cf23 => k_is); (case cg23 => k_is); (case cn23_last => k_is); (case cn23_numbers => k_is); (case cn23_places => k_is); (case cn23_told => k_is); (case a0 => k_is); (case l0 => k_is); (case c0 => k_is); (case k0 => k_is); (case a1 => k_is); (case l1 => k_is); (case c1 => k_is); (case k1 => k_is); (case a2 => k_is); (case b2 => k_is); (case l2 => k_is); (case c2 => k_is); (case k2 => k_is); (case a3 => k_is); (case b3 => k_is); (case l3 => k_is); (case c3 => k_is); (case k3 => k_is); (case a4 => k_is); (case b4 => k_is); (case l4 => k_is); (case c4 => k_is); (case k4 => k_is); (case a5 => k_is); (case b5 => k_is); (case l5 => k_is); (case c5 => k_is); (case k5 => k_is); (case a6 => k_is); (case b6 => k_is); (case l6 => k_is); (case c6 => k_is); (case k6 => k_is); (case a7 => k_is); (case b7 => k_is); (case l7 => k_is); (case c7 => k_is); (case k7 => k_is); (case a8 => k_is); (case b8 => k_is); (case l8 => k_is); (case c8 => k_is); (case k8 => k_is); (case a9 => k_is); (case b9 => k_is); (case l9 => k_is); (case c9 => k_is); (case k9 => k_is); (case a10 => k_is); (case l10 => k_is); (case c10 => k_is); (case k10 => k_is); (case a11 => k_is); (case l11 => k_is); (case c11 => k_is); (case k11 => k_is); (case a12 => k_is); (case l12 => k_is); (case c12 => k_is); (case k12 => k_is); (case a13 => k_is); (case l13 => k_is); (case c13 => k_is); (case k13 => k_is); (case a14 => k_is); (case l14 => k_is); (case c14 => k_is); (case k14 => k_is); (case a15 => k_is); (case l15 => k_is); (case c15 => k_is); (case k15 => k_is); (case a16 => k_is); (case l16 => k_is); (case c16 => k_is); (case k16 => k_is); (case sp => k_is); (case tp => k_is); (case tq => k_is); (case tr => rfl); (case ea17 => k_is); (case eb17 => k_is); (case ec17 => k_is); (case ed17 => k_is); (case ee17 => k_is); (case ef17 => k_is); (case eg17 => k_is); (case eh17 => k_is); (case ei17 => k_is); (case ej17 => k_is); (case ea18 => k_is); (case eb18 => k_is); (case ec18 => k_is); (case ed18 => k_is); (case ee18 => k_is); (case ef18 => k_is); (case eg18 => k_is); (case eh18 => k_is); (case ei18 => k_is); (case ej18 => k_is); (case ea19 => k_is); (case eb19 => k_is); (case ec19 => k_is); (case ed19 => k_is); (case ee19 => k_is); (case ef19 => k_is); (case eg19 => k_is); (case eh19 => k_is); (case ei19 => k_is); (case ej19 => k_is); (case en18_word => k_is); (case en19_name => k_is); (case eu18_18 => k_is); (case eu18_19 => k_is); (case eu19_18 => k_is); (case eu19_19 => k_is); (case et19_KeyError => k_is); (case xa18 => k_is); (case xb18 => first | exact .tail | exact .own .tail | exact .own (.own .tail)); (case xc18 => k_is); (case xd18 => k_is); (case xe18 => k_is); (case xf18 => ks_is); (case xg18 => k_is); (case xh18 => k_is); (case xi18 => k_is); (case xj18 => k_is); (case xk18 => rfl); (case xl18 => first | rfl | decide +kernel); (case xm18 => k_is); (case xa19 => k_is); (case xb19 => first | exact .tail | exact .own .tail | exact .own (.own .tail)); (case xc19 => k_is); (case xd19 => k_is); (case xe19 => k_is); (case xf19 => ks_is); (case xg19 => k_is); (case xh19 => k_is); (case xi19 => k_is); (case xj19 => k_is); (case xk19 => rfl); (case xl19 => first | rfl | decide +kernel); (case xm19 => k_is); (case z0 => k_is); (case z1 => k_is); (case z2 => k_is); (case z3 => k_is); (case z4 => k_is); (case z5 => k_is); (case z6 => k_is); (case z7 => k_is); (case z8 => k_is); (case z9 => k_is); (case z10 => k_is); (case z11 => k_is)
