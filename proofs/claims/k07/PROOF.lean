import PyProof.Rows.All
import Wide.All
import OpenK.AllK
import Wide.FinOn
import HandS.ForMost
import HandS.ForExc
import HandS.TupAny
import HandS.Wide
import HandS.Style
import HandS.Deep
import PySem.Challenge.RW_spelledways_k07_whole_frames_changed_any
set_option Elab.async false
set_option linter.all false
set_option maxRecDepth 100000
section
set_option maxHeartbeats 2000000
namespace DM
open PySem PySem.Spec PyProof.Rows L2

/-- data: tuples (and lists that nobody changes) by value, changing objects by number -/
inductive D where
  | non | bl (b : Bool) | int (i : Int) | str (x : Str) | ty (n : String) | abs (a : Addr)
  | tup (xs : List D) | lst (xs : List D) | ref (n : Nat)
/-- a changing object -/
inductive AO where
  | lst (xs : List D)
abbrev AH := List AO
inductive Res (α : Type) where
  | ok (a : α) (A : AH) | exc (C : Addr) (fs : List (Str × D)) (A : AH) | no
def Res.bind {α β : Type} (r : Res α) (k : α → AH → Res β) : Res β := match r with
  | .ok a A => k a A
  | .exc C fs A => .exc C fs A
  | .no => .no
@[simp] theorem bind_ok {α β : Type} (a : α) (A : AH) (k : α → AH → Res β) : Res.bind (.ok a A) k = k a A := rfl
@[simp] theorem bind_exc {α β : Type} (C : Addr) (fs : List (Str × D)) (A : AH) (k : α → AH → Res β) : Res.bind (.exc C fs A) k = .exc C fs A := rfl
@[simp] theorem bind_no {α β : Type} (k : α → AH → Res β) : Res.bind .no k = .no := rfl
abbrev Env := List (Option D)
abbrev ME := Env → AH → Res D
abbrev MT := Env → AH → Res Bool
abbrev MA := Env → AH → Res (List D)
inductive SRes where
  | nx (ρ : Env) (A : AH) | rt (d : D) (A : AH) | bk (ρ : Env) (A : AH) | ct (ρ : Env) (A : AH) | exc (C : Addr) (fs : List (Str × D)) (ρ : Env) (A : AH) | no
abbrev MS := Env → AH → SRes

/-! ### what stands for what -/
/-- the numbered objects' addresses; those of lists that are being made -/
abbrev Mp := List Addr × List Addr
def Out (m : Mp) (a : Addr) : Prop := a ∉ m.1 ∧ a ∉ m.2
def SqT' (K : PySem.W.Frag) (m : Mp) (H : Hp) (a : Addr) (vs : List V) : Prop :=
  (Rd H a (.tup vs) ∧ Out m a) ∨ ∃ (o : Obj) (its : Array Value) (n : Nat), K.lookup a = some o ∧ o.cls = .type "tuple" ∧ o.data = .seq its n ∧ its.size ≤ sizeLine ∧ Vals vs its.toList
def SqL' (K : PySem.W.Frag) (m : Mp) (H : Hp) (a : Addr) (vs : List V) : Prop :=
  (Rd H a (.lst vs) ∧ Out m a) ∨ ∃ (o : Obj) (its : Array Value) (n : Nat), K.lookup a = some o ∧ o.cls = .type "list" ∧ o.dict = none ∧ o.data = .seq its n ∧ its.size ≤ sizeLine ∧ Vals vs its.toList
theorem SqT'.sq {K : PySem.W.Frag} {m : Mp} {H : Hp} {a : Addr} {vs : List V} (h : SqT' K m H a vs) : SqT K H a vs := h.elim (fun x => .inl x.1) .inr
theorem SqL'.sq {K : PySem.W.Frag} {m : Mp} {H : Hp} {a : Addr} {vs : List V} (h : SqL' K m H a vs) : SqL K H a vs := h.elim (fun x => .inl x.1) .inr
mutual
inductive RD (K : PySem.W.Frag) (m : Mp) (H : Hp) : D → V → Prop
  | non : RD K m H .non .non
  | bl (b : Bool) : RD K m H (.bl b) (.bl b)
  | int (i : Int) : RD K m H (.int i) (.int i)
  | str (x : Str) : RD K m H (.str x) (.str x)
  | ty (n : String) : RD K m H (.ty n) (.ty n)
  | abs (a : Addr) : RD K m H (.abs a) (.ref a)
  | tup {a : Addr} {vs : List V} {xs : List D} : SqT' K m H a vs → RDs K m H xs vs → RD K m H (.tup xs) (.ref a)
  | lst {a : Addr} {vs : List V} {xs : List D} : SqL' K m H a vs → RDs K m H xs vs → RD K m H (.lst xs) (.ref a)
  | ref {n : Nat} {a : Addr} : m.1[n]? = some a → RD K m H (.ref n) (.ref a)
inductive RDs (K : PySem.W.Frag) (m : Mp) (H : Hp) : List D → List V → Prop
  | nil : RDs K m H [] []
  | cons {x : D} {xs : List D} {v : V} {vs : List V} : RD K m H x v → RDs K m H xs vs → RDs K m H (x :: xs) (v :: vs)
end
structure Ext (m : Mp) (H : Hp) (m' : Mp) (H' : Hp) : Prop where
  pre : ∃ l, m'.1 = m.1 ++ l
  sub : ∀ p ∈ m.2, p ∈ m'.2
  pvs : ∀ p ∈ m'.2, p ∈ m.2 ∨ p ∈ m.1 ∨ H p = none
  new : ∀ p ∈ m'.1, p ∈ m.1 ∨ H p = none
  keep : ∀ p o, H p = some o → p ∉ m.1 → H' p = some o
theorem Ext.refl (m : Mp) (H : Hp) : Ext m H m H := ⟨⟨[], (List.append_nil m.1).symm⟩, fun _ h => h, fun _ h => .inl h, fun _ h => .inl h, fun _ _ h _ => h⟩
theorem Ext.none {m m1 : Mp} {H H1 : Hp} (a : Ext m H m1 H1) {p : Addr} (hm : p ∉ m.1) (z : H1 p = none) : H p = none := by
  cases q : H p with
  | none => rfl
  | some o =>
    have := a.keep p o q hm
    rw [z] at this; cases this
theorem Ext.trans {m m1 m2 : Mp} {H H1 H2 : Hp} (a : Ext m H m1 H1) (b : Ext m1 H1 m2 H2) : Ext m H m2 H2 := by
  have out : ∀ p o, H p = some o → p ∉ m.1 → p ∉ m1.1 := fun p o h hn hm => by
    rcases a.new p hm with z | z
    · exact hn z
    · rw [z] at h; cases h
  refine ⟨?_, fun p h => b.sub p (a.sub p h), fun p hp => ?_, fun p hp => ?_, fun p o h hn => b.keep p o (a.keep p o h hn) (out p o h hn)⟩
  · obtain ⟨l, h1⟩ := a.pre
    obtain ⟨l2, h2⟩ := b.pre
    exact ⟨l ++ l2, by rw [h2, h1, List.append_assoc]⟩
  · by_cases hm : p ∈ m.1
    · exact .inr (.inl hm)
    · rcases b.pvs p hp with z | z | z
      · exact a.pvs p z
      · rcases a.new p z with y | y
        · exact .inr (.inl y)
        · exact .inr (.inr y)
      · exact .inr (.inr (a.none hm z))
  · by_cases hm : p ∈ m.1
    · exact .inl hm
    · rcases b.new p hp with z | z
      · exact a.new p z
      · exact .inr (a.none hm z)
theorem Ext.get {m m' : Mp} {H H' : Hp} (e : Ext m H m' H') {n : Nat} {a : Addr} (h : m.1[n]? = some a) : m'.1[n]? = some a := by
  obtain ⟨l, h0⟩ := e.pre
  obtain ⟨h1, h2⟩ := List.getElem?_eq_some_iff.mp h
  rw [h0, List.getElem?_append_left h1]; exact h
theorem Ext.out {m m' : Mp} {H H' : Hp} (e : Ext m H m' H') {a : Addr} {o : HO} (q : H a = some o) (hn : Out m a) : H' a = some o ∧ Out m' a := by
  refine ⟨e.keep a o q hn.1, fun hm => ?_, fun hm => ?_⟩
  · rcases e.new a hm with z | z
    · exact hn.1 z
    · rw [z] at q; cases q
  · rcases e.pvs a hm with z | z | z
    · exact hn.2 z
    · exact hn.1 z
    · rw [z] at q; cases q
theorem Ext.sqT {K : PySem.W.Frag} {m m' : Mp} {H H' : Hp} (e : Ext m H m' H') {a : Addr} {vs : List V} (h : SqT' K m H a vs) : SqT' K m' H' a vs := by
  rcases h with ⟨r, hn⟩ | h
  · refine .inl ?_
    rcases r with r | ⟨o, r⟩
    · exact ⟨.inl (e.out r hn).1, (e.out r hn).2⟩
    · exact ⟨.inr ⟨o, (e.out r hn).1⟩, (e.out r hn).2⟩
  · exact .inr h
theorem Ext.sqL {K : PySem.W.Frag} {m m' : Mp} {H H' : Hp} (e : Ext m H m' H') {a : Addr} {vs : List V} (h : SqL' K m H a vs) : SqL' K m' H' a vs := by
  rcases h with ⟨r, hn⟩ | h
  · refine .inl ?_
    rcases r with r | ⟨o, r⟩
    · exact ⟨.inl (e.out r hn).1, (e.out r hn).2⟩
    · exact ⟨.inr ⟨o, (e.out r hn).1⟩, (e.out r hn).2⟩
  · exact .inr h
mutual
theorem RD.mono {K : PySem.W.Frag} {m m' : Mp} {H H' : Hp} (e : Ext m H m' H') : ∀ (d : D) (v : V), RD K m H d v → RD K m' H' d v
  | .non, _, h => by cases h; exact .non
  | .bl b, _, h => by cases h; exact .bl b
  | .int i, _, h => by cases h; exact .int i
  | .str x, _, h => by cases h; exact .str x
  | .ty x, _, h => by cases h; exact .ty x
  | .abs x, _, h => by cases h; exact .abs x
  | .ref n, _, h => by cases h with | ref h => exact .ref (e.get h)
  | .tup xs, _, h => by cases h with | tup h r => exact .tup (e.sqT h) (RDs.mono e xs _ r)
  | .lst xs, _, h => by cases h with | lst h r => exact .lst (e.sqL h) (RDs.mono e xs _ r)
theorem RDs.mono {K : PySem.W.Frag} {m m' : Mp} {H H' : Hp} (e : Ext m H m' H') : ∀ (ds : List D) (vs : List V), RDs K m H ds vs → RDs K m' H' ds vs
  | [], _, h => by cases h; exact .nil
  | d :: ds, _, h => by cases h with | cons h r => exact .cons (RD.mono e d _ h) (RDs.mono e ds _ r)
end
theorem RDs.length {K : PySem.W.Frag} {m : Mp} {H : Hp} : ∀ {ds : List D} {vs : List V}, RDs K m H ds vs → ds.length = vs.length
  | [], _, h => by cases h; rfl
  | d :: ds, _, h => by cases h with | cons h r => rw [List.length_cons, List.length_cons, RDs.length r]
theorem RDs.get {K : PySem.W.Frag} {m : Mp} {H : Hp} : ∀ {ds : List D} {vs : List V} {i : Nat} {d : D}, RDs K m H ds vs → ds[i]? = some d → ∃ v, vs[i]? = some v ∧ RD K m H d v
  | [], _, _, _, _, e => by simp at e
  | d :: ds, _, 0, x, h, e => by cases h with | cons h r => (simp at e; subst e; exact ⟨_, rfl, h⟩)
  | d :: ds, _, i + 1, x, h, e => by
    cases h with
    | cons h r =>
      obtain ⟨v, h1, h2⟩ := RDs.get (i := i) (d := x) r (by simpa using e)
      exact ⟨v, by simpa using h1, h2⟩
theorem RDs.get' {K : PySem.W.Frag} {m : Mp} {H : Hp} {ds : List D} {vs : List V} {i : Nat} {v : V} (h : RDs K m H ds vs) (e : vs[i]? = some v) : ∃ d, ds[i]? = some d ∧ RD K m H d v := by
  obtain ⟨h1, _⟩ := List.getElem?_eq_some_iff.mp e
  have hl := h.length
  have q : ds[i]? = some ds[i] := List.getElem?_eq_getElem (by omega)
  obtain ⟨w, e2, r⟩ := h.get q
  rw [e] at e2; cases e2
  exact ⟨_, q, r⟩
theorem RDs.append {K : PySem.W.Frag} {m : Mp} {H : Hp} : ∀ {ds es : List D} {vs ws : List V}, RDs K m H ds vs → RDs K m H es ws → RDs K m H (ds ++ es) (vs ++ ws)
  | [], _, _, _, h, q => by cases h; exact q
  | d :: ds, _, _, _, h, q => by cases h with | cons h r => exact .cons h (RDs.append r q)
theorem RDs.take {K : PySem.W.Frag} {m : Mp} {H : Hp} : ∀ {ds : List D} {vs : List V} (n : Nat), RDs K m H ds vs → RDs K m H (ds.take n) (vs.take n)
  | _, _, 0, _ => by simp; exact .nil
  | [], _, n + 1, h => by cases h; exact .nil
  | d :: ds, _, n + 1, h => by cases h with | cons h r => exact .cons h (RDs.take n r)
theorem RDs.drop {K : PySem.W.Frag} {m : Mp} {H : Hp} : ∀ {ds : List D} {vs : List V} (n : Nat), RDs K m H ds vs → RDs K m H (ds.drop n) (vs.drop n)
  | _, _, 0, h => h
  | [], _, n + 1, h => by cases h; exact .nil
  | d :: ds, _, n + 1, h => by cases h with | cons h r => exact RDs.drop n r
theorem RDs.set {K : PySem.W.Frag} {m : Mp} {H : Hp} {d : D} {v : V} (q : RD K m H d v) : ∀ {ds : List D} {vs : List V} (n : Nat), RDs K m H ds vs → RDs K m H (ds.set n d) (vs.set n v)
  | [], _, n, h => by cases h; exact .nil
  | _ :: ds, _, 0, h => by cases h with | cons h r => exact .cons q r
  | _ :: ds, _, n + 1, h => by cases h with | cons h r => exact .cons h (RDs.set q n r)

def RFs (K : PySem.W.Frag) (m : Mp) (H : Hp) (fs : List (Str × D)) (gs : List (Str × V)) : Prop := fs.map (·.1) = gs.map (·.1) ∧ RDs K m H (fs.map (·.2)) (gs.map (·.2))
def ObjR (K : PySem.W.Frag) (m : Mp) (H : Hp) : AO → Addr → Prop
  | .lst xs, a => ∃ vs, H a = some (.lst vs) ∧ RDs K m H xs vs
structure Rel (K : PySem.W.Frag) (m : Mp) (A : AH) (H : Hp) : Prop where
  len : m.1.length = A.length
  nd : m.1.Nodup
  pv : ∀ p ∈ m.2, H p ≠ none
  obj : ∀ (n : Nat) (o : AO), A[n]? = some o → ∃ a, m.1[n]? = some a ∧ ObjR K m H o a
/-- slots -/
def REnv (K : PySem.W.Frag) (m : Mp) (H : Hp) (ρ : Env) (σ : L2.St) : Prop := ρ.length = σ.length ∧ ∀ (i : Nat) (d : D), ρ[i]? = some (some d) → ∃ v, σ[i]? = some (some v) ∧ RD K m H d v
theorem REnv.mono {K : PySem.W.Frag} {m m' : Mp} {H H' : Hp} {ρ : Env} {σ : L2.St} (e : Ext m H m' H') (h : REnv K m H ρ σ) : REnv K m' H' ρ σ :=
  ⟨h.1, fun i d q => let ⟨v, h1, h2⟩ := h.2 i d q; ⟨v, h1, RD.mono e _ _ h2⟩⟩
theorem REnv.set {K : PySem.W.Frag} {m : Mp} {H : Hp} {ρ : Env} {σ : L2.St} {d : D} {v : V} (h : REnv K m H ρ σ) (r : RD K m H d v) (i : Nat) : REnv K m H (ρ.set i (some d)) (σ.set i (some v)) := by
  refine ⟨by rw [List.length_set, List.length_set]; exact h.1, fun j e q => ?_⟩
  by_cases hj : i = j
  · subst hj
    by_cases hl : i < ρ.length
    · rw [List.getElem?_set_self hl] at q
      cases q
      exact ⟨v, List.getElem?_set_self (by rw [← h.1]; exact hl), r⟩
    · rw [List.getElem?_eq_none (by simpa using hl)] at q; cases q
  · rw [List.getElem?_set_ne hj] at q ⊢
    exact h.2 j e q
theorem REnv.unset {K : PySem.W.Frag} {m : Mp} {H : Hp} {ρ : Env} {σ : L2.St} (h : REnv K m H ρ σ) (i : Nat) (x : Option V) : REnv K m H (ρ.set i none) (σ.set i x) := by
  refine ⟨by rw [List.length_set, List.length_set]; exact h.1, fun j e q => ?_⟩
  by_cases hj : i = j
  · subst hj
    by_cases hl : i < ρ.length
    · rw [List.getElem?_set_self hl] at q; cases q
    · rw [List.getElem?_eq_none (by simpa using hl)] at q; cases q
  · rw [List.getElem?_set_ne hj] at q ⊢
    exact h.2 j e q

/-! ### what follows -/
def Post {α β : Type} (K : PySem.W.Frag) (R : Mp → Hp → α → β → Prop) (W : WX) (σ : L2.St) (m : Mp) (H : Hp) (r : Res α) (Q : β → Hp → Prop) : Prop := match r with
  | .ok d A' => ∀ m' H' v, Ext m H m' H' → Rel K m' A' H' → R m' H' d v → Q v H'
  | .exc C fs A' => ∀ m' H' dx gs, Ext m H m' H' → Rel K m' A' H' → H' dx = some (.xd gs) → RFs K m' H' fs gs → W (.ref C) (some dx) σ H'
  | .no => False
def PostS (K : PySem.W.Frag) (W : WX) (m : Mp) (H : Hp) (r : SRes) (D : Ends) : Prop := match r with
  | .nx ρ A' => ∀ m' H' σ', Ext m H m' H' → Rel K m' A' H' → REnv K m' H' ρ σ' → D.nx σ' H'
  | .bk ρ A' => ∀ m' H' σ', Ext m H m' H' → Rel K m' A' H' → REnv K m' H' ρ σ' → D.bk σ' H'
  | .ct ρ A' => ∀ m' H' σ', Ext m H m' H' → Rel K m' A' H' → REnv K m' H' ρ σ' → D.ct σ' H'
  | .rt d A' => ∀ m' H' v, Ext m H m' H' → Rel K m' A' H' → RD K m' H' d v → D.rt v H'
  | .exc C fs ρ A' => ∀ m' H' dx gs σ', Ext m H m' H' → Rel K m' A' H' → REnv K m' H' ρ σ' → H' dx = some (.xd gs) → RFs K m' H' fs gs → W (.ref C) (some dx) σ' H'
  | .no => False
section
variable {K : PySem.W.Frag} {W : WX} {σ : L2.St} {m m' m1 : Mp} {H H' H1 : Hp} {α β γ δ : Type}
theorem Post.mono {R : Mp → Hp → α → β → Prop} {r : Res α} {Q : β → Hp → Prop} (e : Ext m H m1 H1) (h : Post K R W σ m H r Q) : Post K R W σ m1 H1 r Q := by
  cases r with
  | ok d A' => exact fun m' H' v e' => h m' H' v (e.trans e')
  | exc C fs A' => exact fun m' H' dx gs e' => h m' H' dx gs (e.trans e')
  | no => exact h
theorem PostS.mono {r : SRes} {D : Ends} (e : Ext m H m1 H1) (h : PostS K W m H r D) : PostS K W m1 H1 r D := by
  cases r with
  | nx ρ A' => exact fun m' H' v e' => h m' H' v (e.trans e')
  | bk ρ A' => exact fun m' H' v e' => h m' H' v (e.trans e')
  | ct ρ A' => exact fun m' H' v e' => h m' H' v (e.trans e')
  | rt d A' => exact fun m' H' v e' => h m' H' v (e.trans e')
  | exc C fs ρ A' => exact fun m' H' dx gs σ' e' => h m' H' dx gs σ' (e.trans e')
  | no => exact h
theorem Post.imp {R : Mp → Hp → α → β → Prop} {r : Res α} {Q Q' : β → Hp → Prop} (h : Post K R W σ m H r Q) (q : ∀ v H', Q v H' → Q' v H') : Post K R W σ m H r Q' := by
  cases r with
  | ok d A' => exact fun m' H' v e R' r' => q _ _ (h m' H' v e R' r')
  | exc C fs A' => exact h
  | no => exact h
theorem Post.bind {R : Mp → Hp → α → β → Prop} {R2 : Mp → Hp → γ → δ → Prop} {r : Res α} {k : α → AH → Res γ} {Q : δ → Hp → Prop} (h : Post K R2 W σ m H (r.bind k) Q) :
    Post K R W σ m H r fun v H1 => ∃ m1 A1 d, Ext m H m1 H1 ∧ Rel K m1 A1 H1 ∧ R m1 H1 d v ∧ Post K R2 W σ m1 H1 (k d A1) Q := by
  cases r with
  | ok d A' => exact fun m' H' v e R' r' => ⟨m', A', d, e, R', r', Post.mono e h⟩
  | exc C fs A' => exact h
  | no => exact h
end

/-! ### judgements -/
def tE (K : PySem.W.Frag) (W : WX) (me : ME) : TE := fun σ H Q => ∃ m A ρ, Rel K m A H ∧ REnv K m H ρ σ ∧ Post K (RD K) W σ m H (me ρ A) Q
def tT (K : PySem.W.Frag) (W : WX) (me : MT) : TT := fun σ H Q => ∃ m A ρ, Rel K m A H ∧ REnv K m H ρ σ ∧ Post K (fun _ _ a b => a = b) W σ m H (me ρ A) Q
def tA (K : PySem.W.Frag) (W : WX) (me : MA) : TA := fun σ H Q => ∃ m A ρ, Rel K m A H ∧ REnv K m H ρ σ ∧ Post K (RDs K) W σ m H (me ρ A) Q
def tS (K : PySem.W.Frag) (W : WX) (ms : MS) : TS := fun D σ H => ∃ m A ρ, Rel K m A H ∧ REnv K m H ρ σ ∧ PostS K W m H (ms ρ A) D
abbrev DE (X : Cx) (W : WX) (e : Expr) (me : ME) : Prop := PE X e (tE X.K W me)
abbrev DT (X : Cx) (W : WX) (e : Expr) (me : MT) : Prop := PT X e (tT X.K W me)
abbrev DW (X : Cx) (W : WX) (e : Expr) (me : MT) : Prop := PW X e (tT X.K W me)
abbrev DA (X : Cx) (W : WX) (es : List Expr) (me : MA) : Prop := PA X es (tA X.K W me)
abbrev DS (X : Cx) (W : WX) (st : Stmt) (ms : MS) : Prop := PS X st (tS X.K W ms)
abbrev DSs (X : Cx) (W : WX) (st : List Stmt) (ms : MS) : Prop := PSs X st (tS X.K W ms)
theorem PEi {X : Cx} {e : Expr} {t t' : TE} (h : PE X e t) (q : ∀ σ H Q, t' σ H Q → t σ H Q) : PE X e t' := ⟨fun pins s σ H Q I w => h.run pins s σ H Q I (q σ H Q w)⟩
theorem PTi {X : Cx} {e : Expr} {t t' : TT} (h : PT X e t) (q : ∀ σ H Q, t' σ H Q → t σ H Q) : PT X e t' := ⟨fun pins s σ H Q I w => h.run pins s σ H Q I (q σ H Q w)⟩
theorem PWi {X : Cx} {e : Expr} {t t' : TT} (h : PW X e t) (q : ∀ σ H Q, t' σ H Q → t σ H Q) : PW X e t' := ⟨fun wh pins s σ H Q I w => h.run wh pins s σ H Q I (q σ H Q w)⟩
theorem PAi {X : Cx} {e : List Expr} {t t' : TA} (h : PA X e t) (q : ∀ σ H Q, t' σ H Q → t σ H Q) : PA X e t' := ⟨fun pos pins s σ H Q I w => h.run pos pins s σ H Q I (q σ H Q w)⟩
theorem PSi {X : Cx} {e : Stmt} {t t' : TS} (h : PS X e t) (q : ∀ D σ H, t' D σ H → t D σ H) : PS X e t' := ⟨fun pins s σ H D I w => h.run pins s σ H D I (q D σ H w)⟩
theorem PSsi {X : Cx} {e : List Stmt} {t t' : TS} (h : PSs X e t) (q : ∀ D σ H, t' D σ H → t D σ H) : PSs X e t' := ⟨fun pins s σ H D I w => h.run pins s σ H D I (q D σ H w)⟩

section
variable {K : PySem.W.Frag} {W : WX} {σ : L2.St} {m : Mp} {A : AH} {ρ : Env} {H : Hp} {α β γ : Type}
/-- first an expression, then k -/
theorem tE.bind {R2 : Mp → Hp → γ → β → Prop} {me : ME} {k : D → AH → Res γ} {Q : β → Hp → Prop} {T : V → Hp → Prop} (R : Rel K m A H) (E : REnv K m H ρ σ) (h : Post K R2 W σ m H ((me ρ A).bind k) Q)
    (q : ∀ m1 A1 d v H1, Ext m H m1 H1 → Rel K m1 A1 H1 → REnv K m1 H1 ρ σ → RD K m1 H1 d v → Post K R2 W σ m1 H1 (k d A1) Q → T v H1) : tE K W me σ H T :=
  ⟨m, A, ρ, R, E, Post.imp (Post.bind h) fun v H1 ⟨m1, A1, d, e, R1, r, p⟩ => q m1 A1 d v H1 e R1 (E.mono e) r p⟩
theorem tT.bind {R2 : Mp → Hp → γ → β → Prop} {me : MT} {k : Bool → AH → Res γ} {Q : β → Hp → Prop} {T : Bool → Hp → Prop} (R : Rel K m A H) (E : REnv K m H ρ σ) (h : Post K R2 W σ m H ((me ρ A).bind k) Q)
    (q : ∀ m1 A1 b H1, Ext m H m1 H1 → Rel K m1 A1 H1 → REnv K m1 H1 ρ σ → Post K R2 W σ m1 H1 (k b A1) Q → T b H1) : tT K W me σ H T :=
  ⟨m, A, ρ, R, E, Post.imp (Post.bind (R := fun _ _ a b => a = b) h) fun v H1 ⟨m1, A1, d, e, R1, r, p⟩ => by subst r; exact q m1 A1 _ H1 e R1 (E.mono e) p⟩
theorem tA.bind {R2 : Mp → Hp → γ → β → Prop} {me : MA} {k : List D → AH → Res γ} {Q : β → Hp → Prop} {T : List V → Hp → Prop} (R : Rel K m A H) (E : REnv K m H ρ σ) (h : Post K R2 W σ m H ((me ρ A).bind k) Q)
    (q : ∀ m1 A1 ds vs H1, Ext m H m1 H1 → Rel K m1 A1 H1 → REnv K m1 H1 ρ σ → RDs K m1 H1 ds vs → Post K R2 W σ m1 H1 (k ds A1) Q → T vs H1) : tA K W me σ H T :=
  ⟨m, A, ρ, R, E, Post.imp (Post.bind h) fun v H1 ⟨m1, A1, d, e, R1, r, p⟩ => q m1 A1 d v H1 e R1 (E.mono e) r p⟩
/-- the end: a value, nothing changed -/
theorem Post.here {R : Mp → Hp → α → β → Prop} {d : α} {v : β} {Q : β → Hp → Prop} (R1 : Rel K m A H) (r : R m H d v) (h : Post K R W σ m H (.ok d A) Q) : Q v H := h m H v (Ext.refl m H) R1 r
end
end DM
end
section
set_option maxHeartbeats 2000000
namespace DM
open PySem PySem.Spec PyProof.Rows L2
section
variable {X : Cx} {W : WX} {a b c e : Expr} {es : List Expr} {ma mb mc me : ME} {pos p : Pos}
/-! ### names, constants -/
def mVar (i : Nat) : ME := fun ρ A => match ρ[i]? with | some (some d) => .ok d A | _ => .no
def mK (d : D) : ME := fun _ A => .ok d A
theorem d_var (i : Nat) {x : Str} (hN : X.N[i]? = some x := by rfl) (hv : Vis X.env.scope x := by first | exact Or.inl rfl | exact Or.inr (Or.inl rfl) | exact Or.inr (Or.inr rfl)) (hd : (x == ("__debug__" : Str)) = false := by decide)
    (hcd : (x == ("__classdict__" : Str)) = false := by decide) : DE X W (.Name x pos) (mVar i) := PEi (pe_var hN hv hd hcd) fun σ H Q ⟨m, A, ρ, R, E, h⟩ => by
  unfold mVar at h
  split at h
  · rename_i d hd
    obtain ⟨v, h1, h2⟩ := E.2 i d hd
    exact ⟨v, h1, Post.here R h2 h⟩
  · exact h.elim
theorem d_int {i : Int} {j : Nat} : DE X W (.Constant (.int i) j pos) (mK (.int i)) := PEi pe_int fun σ H Q ⟨m, A, ρ, R, E, h⟩ => Post.here R (.int i) h
theorem d_bl {i : Bool} {j : Nat} : DE X W (.Constant (.bool i) j pos) (mK (.bl i)) := PEi pe_bl fun σ H Q ⟨m, A, ρ, R, E, h⟩ => Post.here R (.bl i) h
theorem d_non {j : Nat} : DE X W (.Constant .none j pos) (mK .non) := PEi pe_non fun σ H Q ⟨m, A, ρ, R, E, h⟩ => Post.here R .non h
theorem d_str {i : Str} {j : Nat} : DE X W (.Constant (.str i) j pos) (mK (.str i)) := PEi pe_str fun σ H Q ⟨m, A, ρ, R, E, h⟩ => Post.here R (.str i) h
/-- a module's number, text .. -/
theorem d_glob {x : Str} {d : D} {v : V} {u : Value} (hg : Gl X x) (hm : X.mg x = some u) (r : RelV v u) (q : ∀ m H, RD X.K m H d v) (hd : (x == ("__debug__" : Str)) = false := by decide) : DE X W (.Name x pos) (mK d) :=
  PEi (pe_glob hg hm r hd) fun σ H Q ⟨m, A, ρ, R, E, h⟩ => Post.here R (q m H) h

theorem d_gint {x : Str} {i : Int} {t : Tok} (hm : X.mg x = some (.int i t)) (hg : Gl X x := by rfl) (hd : (x == ("__debug__" : Str)) = false := by decide) : DE X W (.Name x pos) (mK (.int i)) := d_glob hg hm (v := .int i) ⟨t, rfl⟩ (fun _ _ => .int i) hd
/-! ### two-place operations -/
def OpD (K : PySem.W.Frag) (f : D → D → AH → Res D) (r : R2) : Prop :=
  ∀ (W : WX) (σ : L2.St) (m : Mp) (A : AH) (H : Hp) (x y : V) (d e : D) (Q : VK), Rel K m A H → RD K m H d x → RD K m H e y → Post K (RD K) W σ m H (f d e A) Q → r x y H Q
def mOp (f : D → D → AH → Res D) (ma mb : ME) : ME := fun ρ A => (ma ρ A).bind fun x A1 => (mb ρ A1).bind fun y A2 => f x y A2
theorem tOpD {K : PySem.W.Frag} {f : D → D → AH → Res D} {r : R2} (hf : OpD K f r) {σ : L2.St} {H : Hp} {Q : VK} (h : tE K W (mOp f ma mb) σ H Q) : tOp r (tE K W ma) (tE K W mb) σ H Q := by
  obtain ⟨m, A, ρ, R, E, h⟩ := h
  exact tE.bind R E h fun m1 A1 d v H1 e1 R1 E1 r1 h1 => tE.bind R1 E1 h1 fun m2 A2 d2 v2 H2 e2 R2 E2 r2 h2 => hf W σ m2 A2 H2 v v2 d d2 Q R2 (RD.mono e2 _ _ r1) r2 h2
theorem d_op {op : Operator} {f : D → D → AH → Res D} {r : R2} (ho : OpR X (binaryOp op) r) (hf : OpD X.K f r) (ha : DE X W a ma) (hb : DE X W b mb) : DE X W (.BinOp a op b pos) (mOp f ma mb) :=
  PEi (pe_op ho ha hb) fun _ _ _ h => tOpD hf h
theorem OpD.or1 {K : PySem.W.Frag} {f : D → D → AH → Res D} {r r' : R2} (h : OpD K f r) : OpD K f (fun x y H Q => r x y H Q ∨ r' x y H Q) := fun W σ m A H x y d e Q R a b q => .inl (h W σ m A H x y d e Q R a b q)
/-- ints in -/
def fI (C : Int → Int → Prop) [∀ i j, Decidable (C i j)] (g : Int → Int → D) : D → D → AH → Res D := fun d e A => match d, e with
  | .int i, .int j => if C i j then .ok (g i j) A else .no
  | _, _ => .no
theorem fI_ok {K : PySem.W.Frag} {C C' : Int → Int → Prop} [∀ i j, Decidable (C i j)] {g : Int → Int → D} {g' : Int → Int → V} (hC : ∀ i j, C i j → C' i j) (hg : ∀ m H i j, RD K m H (g i j) (g' i j)) : OpD K (fI C g) (rI C' g') := by
  intro W σ m A H x y d e Q R hx hy h
  unfold fI at h
  split at h
  · rename_i i j
    cases hx; cases hy
    split at h
    · rename_i hc
      exact ⟨i, j, rfl, rfl, hC i j hc, Post.here R (hg m H i j) h⟩
    · exact h.elim
  · exact h.elim
def fI0 (g : Int → Int → D) : D → D → AH → Res D := fun d e A => match d, e with
  | .int i, .int j => .ok (g i j) A
  | _, _ => .no
theorem fI0_ok {K : PySem.W.Frag} {g : Int → Int → D} {g' : Int → Int → V} (hg : ∀ m H i j, RD K m H (g i j) (g' i j)) : OpD K (fI0 g) (rI0 g') := by
  intro W σ m A H x y d e Q R hx hy h
  unfold fI0 at h
  split at h
  · rename_i i j
    cases hx; cases hy
    exact ⟨i, j, rfl, rfl, Post.here R (hg m H i j) h⟩
  · exact h.elim
instance (i j : Int) : Decidable (CMul i j) := by unfold CMul; infer_instance
instance (i j : Int) : Decidable (CPow i j) := by unfold CPow; infer_instance
instance (i j : Int) : Decidable (CDiv i j) := by unfold CDiv; infer_instance
def fSub : D → D → AH → Res D := fI0 fun i j => .int (i - j)
def fMul : D → D → AH → Res D := fI CMul fun i j => .int (i * j)
def fDiv : D → D → AH → Res D := fI CDiv fun i j => .int (i / j)
def fMod : D → D → AH → Res D := fI (fun _ j => 0 < j) fun i j => .int (i % j)
def fPow : D → D → AH → Res D := fI CPow fun i j => .int (i ^ j.toNat)
def fShr : D → D → AH → Res D := fI (fun _ j => 0 ≤ j) fun i j => .int (i / 2 ^ j.toNat)
def fShl : D → D → AH → Res D := fI CPow fun i j => .int (i * 2 ^ j.toNat)
def fAnd : D → D → AH → Res D := fI0 fun i j => .int (Builtin.bitAnd i j)
theorem d_sub (ha : DE X W a ma) (hb : DE X W b mb) : DE X W (.BinOp a .Sub b pos) (mOp fSub ma mb) := d_op op_sub (fI0_ok fun _ _ _ _ => .int _) ha hb
theorem d_mul (ha : DE X W a ma) (hb : DE X W b mb) : DE X W (.BinOp a .Mult b pos) (mOp fMul ma mb) := d_op op_mul (fI_ok (fun _ _ h => h) fun _ _ _ _ => .int _) ha hb
theorem d_div (ha : DE X W a ma) (hb : DE X W b mb) : DE X W (.BinOp a .FloorDiv b pos) (mOp fDiv ma mb) := d_op op_fdiv (fI_ok (fun _ _ h => h) fun _ _ _ _ => .int _) ha hb
theorem d_mod (ha : DE X W a ma) (hb : DE X W b mb) : DE X W (.BinOp a .Mod b pos) (mOp fMod ma mb) := d_op op_mod (fI_ok (fun _ _ h => h) fun _ _ _ _ => .int _) ha hb
theorem d_pow (ha : DE X W a ma) (hb : DE X W b mb) : DE X W (.BinOp a .Pow b pos) (mOp fPow ma mb) := d_op op_pow (fI_ok (fun _ _ h => h) fun _ _ _ _ => .int _) ha hb
theorem d_shr (ha : DE X W a ma) (hb : DE X W b mb) : DE X W (.BinOp a .RShift b pos) (mOp fShr ma mb) := d_op op_shr (fI_ok (fun _ _ h => h) fun _ _ _ _ => .int _) ha hb
theorem d_shl (ha : DE X W a ma) (hb : DE X W b mb) : DE X W (.BinOp a .LShift b pos) (mOp fShl ma mb) := d_op op_shl (fI_ok (fun _ _ h => h) fun _ _ _ _ => .int _) ha hb
theorem d_and (ha : DE X W a ma) (hb : DE X W b mb) : DE X W (.BinOp a .BitAnd b pos) (mOp fAnd ma mb) := d_op op_and (fI0_ok fun _ _ _ _ => .int _) ha hb

/-! ### a new object that is a value -/
theorem Rel.there {K : PySem.W.Frag} {m : Mp} {A : AH} {H : Hp} (R : Rel K m A H) {q : Addr} (hq : q ∈ m.1) : ∃ (n : Nat) (o : AO), m.1[n]? = some q ∧ A[n]? = some o ∧ ObjR K m H o q := by
  obtain ⟨n, hn, e⟩ := List.mem_iff_getElem.mp hq
  have hA : A[n]? = some (A[n]'(by rw [← R.len]; exact hn)) := List.getElem?_eq_getElem _
  obtain ⟨a, h1, h2⟩ := R.obj n _ hA
  have h0 : m.1[n]? = some q := by rw [List.getElem?_eq_getElem hn, e]
  rw [h0] at h1; cases h1
  exact ⟨n, _, h0, hA, h2⟩
theorem ObjR.held {K : PySem.W.Frag} {m : Mp} {H : Hp} {o : AO} {q : Addr} (h : ObjR K m H o q) : H q ≠ none := by
  cases o with
  | lst xs => obtain ⟨vs, e, _⟩ := h; rw [e]; exact fun z => nomatch z
theorem ObjR.keep {K : PySem.W.Frag} {m m' : Mp} {H H' : Hp} (e : Ext m H m' H') {o : AO} {q : Addr} (hq : H' q = H q) (h : ObjR K m H o q) : ObjR K m' H' o q := by
  cases o with
  | lst xs => obtain ⟨vs, e1, r⟩ := h; exact ⟨vs, hq.trans e1, RDs.mono e _ _ r⟩
theorem Rel.out {K : PySem.W.Frag} {m : Mp} {A : AH} {H : Hp} (R : Rel K m A H) {q : Addr} (h : H q = none) : Out m q := ⟨fun hq => by
  obtain ⟨n, o, _, _, r⟩ := R.there hq
  exact r.held h, fun hq => R.pv q hq h⟩
theorem held_keep {H H' : Hp} (k : ∀ p o, H p = some o → H' p = some o) {q : Addr} (h : H q ≠ none) : H' q ≠ none := by
  cases z : H q with
  | none => exact absurd z h
  | some u => rw [k q u z]; exact fun y => nomatch y
/-- the numbered objects as they were, something else new -/
theorem Rel.beside {K : PySem.W.Frag} {m : Mp} {A : AH} {H H' : Hp} (R : Rel K m A H) (k : ∀ p o, H p = some o → H' p = some o) : Rel K m A H' ∧ Ext m H m H' := by
  have e : Ext m H m H' := ⟨⟨[], (List.append_nil m.1).symm⟩, fun _ h => h, fun _ h => .inl h, fun _ h => .inl h, fun p o h _ => k p o h⟩
  refine ⟨⟨R.len, R.nd, fun p hp => held_keep k (R.pv p hp), fun n o hn => ?_⟩, e⟩
  obtain ⟨q, h1, h2⟩ := R.obj n o hn
  refine ⟨q, h1, h2.keep e ?_⟩
  cases z : H q with
  | none => exact absurd z h2.held
  | some u => exact k q u z
theorem Rel.new {K : PySem.W.Frag} {m : Mp} {A : AH} {H : Hp} (R : Rel K m A H) {q : Addr} (h : H q = none) (o : HO) : Rel K m A (upd H q o) ∧ Ext m H m (upd H q o) :=
  R.beside fun p u z => by rw [upd_ne (ne_of_none z h)]; exact z
/-- one of them changed -/
theorem Rel.write {K : PySem.W.Frag} {m : Mp} {A : AH} {H H' : Hp} (R : Rel K m A H) {n : Nat} {q : Addr} {o : AO} (hn : m.1[n]? = some q) (k : ∀ p u, p ≠ q → H p = some u → H' p = some u) (ho : Ext m H m H' → ObjR K m H' o q) : Rel K m (A.set n o) H' ∧ Ext m H m H' := by
  have hm : q ∈ m.1 := List.mem_of_getElem? hn
  have e : Ext m H m H' := ⟨⟨[], (List.append_nil m.1).symm⟩, fun _ h => h, fun _ h => .inl h, fun _ h => .inl h, fun p u h hp => k p u (fun z => hp (by rw [z]; exact hm)) h⟩
  refine ⟨⟨by rw [List.length_set]; exact R.len, R.nd, fun p hp z => ?_, fun j u hj => ?_⟩, e⟩
  · by_cases hpq : p = q
    · subst hpq
      exact (ho e).held z
    · cases y : H p with
      | none => exact R.pv p hp y
      | some u => rw [k p u hpq y] at z; cases z
  · by_cases hjn : n = j
    · subst hjn
      have hl : n < A.length := by rw [← R.len]; exact (List.getElem?_eq_some_iff.mp hn).1
      rw [List.getElem?_set_self hl] at hj; cases hj
      exact ⟨q, hn, ho e⟩
    · rw [List.getElem?_set_ne hjn] at hj
      obtain ⟨p, h1, h2⟩ := R.obj j u hj
      refine ⟨p, h1, h2.keep e ?_⟩
      have hpq : p ≠ q := fun z => by
        subst z
        obtain ⟨l1, e1⟩ := List.getElem?_eq_some_iff.mp h1
        obtain ⟨l2, e2⟩ := List.getElem?_eq_some_iff.mp hn
        exact hjn ((List.getElem_inj R.nd).mp (e2.trans e1.symm))
      cases z : H p with
      | none => exact absurd z h2.held
      | some w => exact k p w hpq z
/-- a new one -/
theorem Rel.push {K : PySem.W.Frag} {m : Mp} {A : AH} {H H' : Hp} (R : Rel K m A H) {q : Addr} {o : AO} (h : H q = none) (k : ∀ p u, H p = some u → H' p = some u) (ho : Ext m H (m.1 ++ [q], m.2) H' → ObjR K (m.1 ++ [q], m.2) H' o q) : Rel K (m.1 ++ [q], m.2) (A ++ [o]) H' ∧ Ext m H (m.1 ++ [q], m.2) H' := by
  have e : Ext m H (m.1 ++ [q], m.2) H' := ⟨⟨[q], rfl⟩, fun _ h => h, fun _ h => .inl h, fun p hp => (List.mem_append.mp hp).elim .inl fun z => .inr (by rw [List.mem_singleton.mp z]; exact h), fun p u z _ => k p u z⟩
  refine ⟨⟨by rw [List.length_append, List.length_append, R.len]; rfl, List.nodup_append.mpr ⟨R.nd, by simp, fun x hx y hy z => (R.out h).1 (by rw [← List.mem_singleton.mp hy, ← z]; exact hx)⟩, fun p hp => held_keep k (R.pv p hp), fun n u hn => ?_⟩, e⟩
  by_cases hl : n < A.length
  · rw [List.getElem?_append_left hl] at hn
    obtain ⟨p, h1, h2⟩ := R.obj n u hn
    refine ⟨p, e.get h1, h2.keep e ?_⟩
    cases z : H p with
    | none => exact absurd z h2.held
    | some w => exact k p w z
  · rw [List.getElem?_append_right (by omega)] at hn
    have h0 : n - A.length = 0 := by
      have := (List.getElem?_eq_some_iff.mp hn).1
      simp at this; omega
    rw [h0] at hn
    cases hn
    refine ⟨q, ?_, ho e⟩
    show (m.1 ++ [q])[n]? = some q
    rw [List.getElem?_append_right (by rw [R.len]; omega), R.len, h0]; rfl
theorem tup_new {K : PySem.W.Frag} {m : Mp} {A : AH} {H : Hp} {σ : L2.St} {ds : List D} {vs : List V} {Q : VK} (R : Rel K m A H) (r : RDs K m H ds vs) (h : Post K (RD K) W σ m H (.ok (.tup ds) A) Q) : ∀ p, H p = none → Q (.ref p) (upd H p (.tup vs)) := fun p hp =>
  let ⟨R1, e1⟩ := R.new hp (.tup vs)
  h m _ _ e1 R1 (.tup (.inl ⟨.inl upd_same, R.out hp⟩) (RDs.mono e1 _ _ r))
theorem lst_new {K : PySem.W.Frag} {m : Mp} {A : AH} {H : Hp} {σ : L2.St} {ds : List D} {vs : List V} {Q : VK} (R : Rel K m A H) (r : RDs K m H ds vs) (h : Post K (RD K) W σ m H (.ok (.lst ds) A) Q) : ∀ p, H p = none → Q (.ref p) (upd H p (.lst vs)) := fun p hp =>
  let ⟨R1, e1⟩ := R.new hp (.lst vs)
  h m _ _ e1 R1 (.lst (.inl ⟨.inl upd_same, R.out hp⟩) (RDs.mono e1 _ _ r))
theorem ref_new {K : PySem.W.Frag} {m : Mp} {A : AH} {H : Hp} {σ : L2.St} {ds : List D} {vs : List V} {Q : VK} (R : Rel K m A H) (r : RDs K m H ds vs) (h : Post K (RD K) W σ m H (.ok (.ref A.length) (A ++ [.lst ds])) Q) : ∀ p, H p = none → Q (.ref p) (upd H p (.lst vs)) := fun p hp =>
  let ⟨R1, e1⟩ := R.push (H' := upd H p (.lst vs)) (o := .lst ds) hp (fun q u z => by rw [upd_ne (ne_of_none z hp)]; exact z) fun e => ⟨vs, upd_same, RDs.mono e _ _ r⟩
  h _ _ _ e1 R1 (.ref (by rw [← R.len]; simp))
/-! ### a + b -/
def fAdd : D → D → AH → Res D := fun d e A => match d, e with
  | .int i, .int j => .ok (.int (i + j)) A
  | .str x, .str y => if x.length + y.length ≤ 16777216 then .ok (.str (x ++ y)) A else .no
  | .tup xs, .tup ys => if xs.length + ys.length ≤ 16777216 then .ok (.tup (xs ++ ys)) A else .no
  | .lst xs, .lst ys => if xs.length + ys.length ≤ 16777216 then .ok (.lst (xs ++ ys)) A else .no
  | _, _ => .no
def rCatL (K : PySem.W.Frag) : R2 := fun x y H Q => ∃ l b xs zs, x = .ref l ∧ y = .ref b ∧ SqL K H l xs ∧ SqL K H b zs ∧ xs.length + zs.length ≤ sizeLine ∧ ∀ p, H p = none → Q (.ref p) (upd H p (.lst (xs ++ zs)))
theorem fAdd_ok {K : PySem.W.Frag} : OpD K fAdd (fun x y H Q => rI0 (fun i j => .int (i + j)) x y H Q ∨ (∃ i j, x = .str i ∧ y = .str j ∧ i.length + j.length ≤ sizeLine ∧ Q (.str (i ++ j)) H) ∨ rCatA K x y H Q ∨ rCatL K x y H Q) := by
  intro W σ m A H x y d e Q R hx hy h
  have sz : (sizeLine : Nat) = 16777216 := sizeLine_eq
  unfold fAdd at h
  split at h
  · rename_i i j
    cases hx; cases hy
    exact .inl ⟨i, j, rfl, rfl, Post.here R (.int _) h⟩
  · rename_i i j
    cases hx; cases hy
    split at h
    · rename_i hz
      exact .inr (.inl ⟨i, j, rfl, rfl, by rw [sz]; exact hz, Post.here R (.str _) h⟩)
    · exact h.elim
  · rename_i xs ys
    cases hx with
    | tup sx rx =>
      cases hy with
      | tup sy ry =>
        rename_i a vs b ws
        split at h
        · rename_i hz
          refine .inr (.inr (.inl ⟨a, b, vs, ws, rfl, rfl, sx.sq, sy.sq, by rw [sz, ← rx.length, ← ry.length]; exact hz, fun e0 => ?_, fun _ e0 => ?_, fun _ _ => tup_new R (rx.append ry) h⟩))
          · subst e0
            cases rx
            exact Post.here R (.tup sy ry) h
          · subst e0
            cases ry
            rw [List.append_nil] at h
            exact Post.here R (.tup sx rx) h
        · exact h.elim
  · rename_i xs ys
    cases hx with
    | lst sx rx =>
      cases hy with
      | lst sy ry =>
        rename_i a vs b ws
        split at h
        · rename_i hz
          exact .inr (.inr (.inr ⟨a, b, vs, ws, rfl, rfl, sx.sq, sy.sq, by rw [sz, ← rx.length, ← ry.length]; exact hz, lst_new R (rx.append ry) h⟩))
        · exact h.elim
  · exact h.elim
/-- two lists that are read, joined -/
theorem op_catL : OpR X (binaryOp .Add) (rCatL X.K) := by
  intro pins s σ H x y v u Q I rx ry h
  obtain ⟨l, b, xs, zs, rfl, rfl, hx, hz, hl, q⟩ := h
  cases rx; cases ry
  obtain ⟨i1, r1, ⟨o1, n1, g1, c1, d1, t1⟩, l1⟩ := I.list hx
  obtain ⟨i2, r2, ⟨o2, n2, g2, c2, d2, t2⟩, l2⟩ := I.list hz
  obtain ⟨oc1, od1, ot1, os1⟩ := o1
  obtain ⟨oc2, od2, ot2, os2⟩ := o2
  simp only at c1 d1 t1 c2 d2 t2
  subst c1 d1 t1 c2 d2 t2
  have e1 := r1.length
  have e2 := r2.length
  refine concat_meets ⟨_, g1, rfl⟩ ⟨_, g2, rfl⟩ noFill_list_add seq_list_add PySem.F.slot_list_add PySem.F.entry_list_add (PySem.F.args_list_add_2 _ _)
    (list_addW l b i1.toArray i2.toArray n1 n2 none none os1 os2 (by rw [List.size_toArray, List.size_toArray]; omega)) ⟨g1, g2, ?_⟩
  rw [show i1.toArray ++ i2.toArray = (i1 ++ i2).toArray by simp]
  exact ⟨.ref _, _, I.lnew (t' := s.toks) (r1.append r2) (by rw [List.length_append]; omega), rfl, q _ I.fresh⟩
end
end DM
end
section
set_option maxHeartbeats 2000000
namespace DM
open PySem PySem.Spec PyProof.Rows L2
/-! ### plain data -/
mutual
def toPy : D → Option PyData
  | .non => some .none
  | .bl b => some (.bool b)
  | .int i => some (.int i)
  | .str x => some (.str x)
  | .tup xs => (toPys xs).map .tuple
  | .lst xs => (toPys xs).map .list
  | .ty _ => none
  | .abs _ => none
  | .ref _ => none
def toPys : List D → Option (List PyData)
  | [] => some []
  | x :: xs => match toPy x, toPys xs with
    | some d, some ds => some (d :: ds)
    | _, _ => none
end
def toPyA (A : AH) (d : D) : Option PyData := match d with
  | .ref n => match A[n]? with
    | some (.lst xs) => (toPys xs).map .list
    | none => none
  | d => toPy d
mutual
theorem RD.dp {K : PySem.W.Frag} {m : Mp} {H : Hp} : ∀ (d : D) (v : V) (p : PyData), RD K m H d v → toPy d = some p → Dp K H v p
  | .non, _, _, h, e => by cases h; cases e; exact .non
  | .bl b, _, _, h, e => by cases h; cases e; exact .bl b
  | .int b, _, _, h, e => by cases h; cases e; exact .int b
  | .str b, _, _, h, e => by cases h; cases e; exact .str b
  | .tup xs, _, _, h, e => by
    cases h with
    | tup s r =>
      simp only [toPy, Option.map_eq_some_iff] at e
      obtain ⟨ds, e1, rfl⟩ := e
      exact .tup s.sq (RDs.dp xs _ ds r e1)
  | .lst xs, _, _, h, e => by
    cases h with
    | lst s r =>
      simp only [toPy, Option.map_eq_some_iff] at e
      obtain ⟨ds, e1, rfl⟩ := e
      exact .lst s.sq (RDs.dp xs _ ds r e1)
  | .ty _, _, _, _, e => by cases e
  | .abs _, _, _, _, e => by cases e
  | .ref _, _, _, _, e => by cases e
theorem RDs.dp {K : PySem.W.Frag} {m : Mp} {H : Hp} : ∀ (ds : List D) (vs : List V) (ps : List PyData), RDs K m H ds vs → toPys ds = some ps → DpAll K H vs ps
  | [], _, _, h, e => by cases h; cases e; exact .nil
  | d :: ds, _, _, h, e => by
    cases h with
    | cons h r =>
      unfold toPys at e
      split at e
      · rename_i p ps e1 e2
        cases e
        exact .cons (RD.dp d _ p h e1) (RDs.dp ds _ ps r e2)
      · cases e
end
theorem RD.dpA {K : PySem.W.Frag} {m : Mp} {A : AH} {H : Hp} {d : D} {v : V} {p : PyData} (R : Rel K m A H) (h : RD K m H d v) (e : toPyA A d = some p) : Dp K H v p := by
  cases d with
  | ref n =>
    cases h with
    | ref hm =>
      unfold toPyA at e
      simp only at e
      split at e
      · rename_i xs hA
        obtain ⟨q, h1, vs, h2, r⟩ := R.obj n _ hA
        rw [hm] at h1; cases h1
        simp only [Option.map_eq_some_iff] at e
        obtain ⟨ds, e1, rfl⟩ := e
        exact .lst (.inl (.inl h2)) (RDs.dp xs _ ds r e1)
      · cases e
  | _ => exact RD.dp _ _ p h e

section
variable {X : Cx} {W : WX} {a b c e : Expr} {es : List Expr} {ma mb mc me : ME} {mt mu : MT} {ms : MA} {pos p : Pos}
/-! ### comparisons -/
/-- == -/
def cEq (A : AH) (d e : D) : Option Bool := match d, e with
  | .int i, .int j => some (decide (i = j))
  | .str x, .str y => some (decide (x = y))
  | .bl x, .bl y => some (decide (x = y))
  | d, e => match toPyA A d, toPyA A e with
    | some p, some q => if SeqAt.shaped p = true ∧ SeqAt.shaped q = true then some (PyData.eqv p q) else none
    | _, _ => none
def fEq (neg : Bool) : D → D → AH → Res D := fun d e A => match cEq A d e with
  | some k => .ok (.bl (if neg then !k else k)) A
  | none => .no
theorem cEq_ok {K : PySem.W.Frag} {m : Mp} {A : AH} {H : Hp} {x y : V} {d e : D} {k : Bool} (R : Rel K m A H) (hx : RD K m H d x) (hy : RD K m H e y) (h : cEq A d e = some k) :
    (scal x y = true ∧ k = decide (x = y)) ∨ ∃ p q, Dp K H x p ∧ Dp K H y q ∧ SeqAt.shaped p = true ∧ SeqAt.shaped q = true ∧ k = PyData.eqv p q := by
  unfold cEq at h
  split at h
  · cases hx; cases hy
    cases h
    refine .inl ⟨rfl, ?_⟩
    simp
  · cases hx; cases hy
    cases h
    refine .inl ⟨rfl, ?_⟩
    simp
  · cases hx; cases hy
    cases h
    refine .inl ⟨rfl, ?_⟩
    simp
  · split at h
    · rename_i p q h1 h2
      split at h
      · rename_i hs
        cases h
        exact .inr ⟨p, q, RD.dpA R hx h1, RD.dpA R hy h2, hs.1, hs.2, rfl⟩
      · cases h
    · cases h
theorem fEq_ok {K : PySem.W.Frag} : OpD K (fEq false) (fun x y H Q => rEq x y H Q ∨ rEqD K x y H Q) := by
  intro W σ m A H x y d e Q R hx hy h
  unfold fEq at h
  split at h
  · rename_i k hk
    have q := Post.here R (.bl _) h
    rcases cEq_ok R hx hy hk with ⟨h1, rfl⟩ | ⟨p, q', h1, h2, h3, h4, rfl⟩
    · exact .inl ⟨h1, q⟩
    · exact .inr ⟨p, q', h1, h2, h3, h4, q⟩
  · exact h.elim
theorem fNe_ok {K : PySem.W.Frag} : OpD K (fEq true) (fun x y H Q => rNe x y H Q ∨ rNeD K x y H Q) := by
  intro W σ m A H x y d e Q R hx hy h
  unfold fEq at h
  split at h
  · rename_i k hk
    have q := Post.here R (.bl _) h
    rcases cEq_ok R hx hy hk with ⟨h1, rfl⟩ | ⟨p, q', h1, h2, h3, h4, rfl⟩
    · exact .inl ⟨h1, q⟩
    · exact .inr ⟨p, q', h1, h2, h3, h4, q⟩
  · exact h.elim
/-- is None -/
def isNon : D → Bool
  | .non => true
  | _ => false
def fIsN (neg : Bool) : D → D → AH → Res D := fun d e A => match e with
  | .non => .ok (.bl (if neg then !isNon d else isNon d)) A
  | _ => .no
theorem isNon_ok {K : PySem.W.Frag} {m : Mp} {H : Hp} {d : D} {x : V} (h : RD K m H d x) : isNon d = decide (x = .non) := by
  cases h <;> simp [isNon]
theorem fIsN_ok {K : PySem.W.Frag} : OpD K (fIsN false) (fun x y H Q => y = .non ∧ Q (.bl (decide (x = .non))) H) := by
  intro W σ m A H x y d e Q R hx hy h
  unfold fIsN at h
  split at h
  · cases hy
    rw [← isNon_ok hx]
    exact ⟨rfl, Post.here R (.bl _) h⟩
  · exact h.elim
theorem fNotN_ok {K : PySem.W.Frag} : OpD K (fIsN true) (fun x y H Q => y = .non ∧ Q (.bl (!decide (x = .non))) H) := by
  intro W σ m A H x y d e Q R hx hy h
  unfold fIsN at h
  split at h
  · cases hy
    rw [← isNon_ok hx]
    exact ⟨rfl, Post.here R (.bl _) h⟩
  · exact h.elim
/-- in, flat things -/
def flatD : D → Bool
  | .non => true
  | .bl _ => true
  | .int _ => true
  | .str _ => true
  | _ => false
def eqD : D → D → Bool
  | .non, .non => true
  | .bl a, .bl b => a == b
  | .bl a, .int b => (if a then 1 else 0) == b
  | .int a, .bl b => a == (if b then 1 else 0)
  | .int a, .int b => a == b
  | .str a, .str b => a == b
  | _, _ => false
theorem flat_ok {K : PySem.W.Frag} {m : Mp} {H : Hp} {d : D} {x : V} (h : RD K m H d x) : flatV x = flatD d := by cases h <;> rfl
theorem eq_ok {K : PySem.W.Frag} {m : Mp} {H : Hp} {d e : D} {x y : V} (h : RD K m H d x) (h' : RD K m H e y) : eqV x y = eqD d e := by cases h <;> cases h' <;> rfl
theorem flats_ok {K : PySem.W.Frag} {m : Mp} {H : Hp} : ∀ {ds : List D} {xs : List V}, RDs K m H ds xs → xs.all flatV = ds.all flatD
  | [], _, h => by cases h; rfl
  | d :: ds, _, h => by cases h with | cons h r => rw [List.all_cons, List.all_cons, flat_ok h, flats_ok r]
theorem ins_ok {K : PySem.W.Frag} {m : Mp} {H : Hp} {e : D} {y : V} (h' : RD K m H e y) : ∀ {ds : List D} {xs : List V}, RDs K m H ds xs → inV y xs = ds.any fun d => eqD d e
  | [], _, h => by cases h; rfl
  | d :: ds, _, h => by
    cases h with
    | cons h r =>
      have ih := ins_ok h' r
      unfold inV at ih ⊢
      rw [List.any_cons, List.any_cons, eq_ok h h', ih]
/-- the items of a list, a tuple -/
def seqOf (A : AH) (d : D) : Option (List D) := match d with
  | .tup xs => some xs
  | .lst xs => some xs
  | .ref n => match A[n]? with
    | some (.lst xs) => some xs
    | none => none
  | _ => none
theorem seqOf_ok {K : PySem.W.Frag} {m : Mp} {A : AH} {H : Hp} {d : D} {v : V} {xs : List D} (R : Rel K m A H) (h : RD K m H d v) (e : seqOf A d = some xs) :
    ∃ a vs, v = .ref a ∧ (SqL K H a vs ∨ SqT K H a vs) ∧ RDs K m H xs vs := by
  unfold seqOf at e
  split at e
  · cases e
    cases h with
    | tup s r => exact ⟨_, _, rfl, .inr s.sq, r⟩
  · cases e
    cases h with
    | lst s r => exact ⟨_, _, rfl, .inl s.sq, r⟩
  · split at e
    · rename_i hA
      cases e
      cases h with
      | ref hm =>
        obtain ⟨q, h1, vs, h2, r⟩ := R.obj _ _ hA
        rw [hm] at h1; cases h1
        exact ⟨_, vs, rfl, .inl (.inl (.inl h2)), r⟩
    · cases e
  · cases e
def fIn (neg : Bool) : D → D → AH → Res D := fun d e A => match seqOf A e with
  | some xs => if flatD d = true ∧ xs.all flatD = true then .ok (.bl (if neg then !(xs.any fun z => eqD z d) else xs.any fun z => eqD z d)) A else .no
  | none => .no
theorem fIn_ok {K : PySem.W.Frag} (neg : Bool) : OpD K (fIn neg) (rIn K neg) := by
  intro W σ m A H x y d e Q R hx hy h
  unfold fIn at h
  split at h
  · rename_i xs hs
    split at h
    · rename_i hf
      obtain ⟨q, vs, rfl, sq, r⟩ := seqOf_ok R hy hs
      refine ⟨q, vs, rfl, sq, (flat_ok hx).trans hf.1, (flats_ok r).trans hf.2, ?_⟩
      rw [ins_ok hx r]
      exact Post.here R (.bl _) h
    · exact h.elim
  · exact h.elim
def fLt : D → D → AH → Res D := fI0 fun i j => .bl (decide (i < j))
def fLe : D → D → AH → Res D := fI0 fun i j => .bl (decide (i ≤ j))
def fGt : D → D → AH → Res D := fI0 fun i j => .bl (decide (j < i))
def fGe : D → D → AH → Res D := fI0 fun i j => .bl (decide (j ≤ i))
theorem fCmp_ok {K : PySem.W.Frag} {g : Int → Int → Bool} : OpD K (fI0 fun i j => .bl (g i j)) (rI0 fun i j => .bl (g i j)) := fI0_ok fun _ _ _ _ => .bl _
/-- a value as a test: a bool -/
def mTst (me : ME) : MT := fun ρ A => (me ρ A).bind fun d A1 => match d with
  | .bl k => .ok k A1
  | _ => .no
theorem d_cmp {op : CmpOp} {f : D → D → AH → Res D} {r : R2} (ho : OpR X (compareOp op) r) (hf : OpD X.K f r) (ha : DE X W a ma) (hb : DE X W b mb) (hm : behindInMarks op b = false := by first | exact nomark _ | rfl) : DE X W (.Compare a [op] [b] pos) (mOp f ma mb) :=
  PEi (pe_cmpR ho ha hb hm) fun _ _ _ h => tOpD hf h
theorem tTstD {K : PySem.W.Frag} {t : TE} {σ : L2.St} {H : Hp} {Q : Bool → Hp → Prop} (ht : ∀ Q' : VK, tE K W me σ H Q' → t σ H Q') (h : tT K W (mTst me) σ H Q) : t σ H fun x H' => ∃ k, x = .bl k ∧ Q k H' := by
  obtain ⟨m, A, ρ, R, E, h⟩ := h
  refine ht _ (tE.bind R E h fun m1 A1 d v H1 e1 R1 E1 r1 h1 => ?_)
  split at h1
  · cases r1
    exact ⟨_, rfl, Post.here R1 rfl h1⟩
  · exact h1.elim
theorem t_cmp {op : CmpOp} {f : D → D → AH → Res D} {r : R2} (ho : OpR X (compareOp op) r) (hf : OpD X.K f r) (ha : DE X W a ma) (hb : DE X W b mb) (hm : behindInMarks op b = false := by first | exact nomark _ | rfl) : DT X W (.Compare a [op] [b] pos) (mTst (mOp f ma mb)) :=
  PTi (pt_cmpR ho ha hb hm) fun _ _ _ h => tTstD (fun _ q => tOpD hf q) h
/-- a < b < c -/
def mChn (f g : D → D → AH → Res D) (ma mb mc : ME) : ME := fun ρ A => (ma ρ A).bind fun x A1 => (mb ρ A1).bind fun y A2 => (f x y A2).bind fun z A3 => match z with
  | .bl true => (mc ρ A3).bind fun w A4 => g y w A4
  | .bl false => .ok (.bl false) A3
  | _ => .no
/-- tests -/
theorem t_val (ha : DE X W a ma) (he : ∀ whole, isTrue a X.env whole = (do let v ← whole; standAt a.pos; holding [v] (truthy v)) := by intro _; rfl) : DT X W a (mTst ma) :=
  PTi (pt_val ha he) fun _ _ _ h => tTstD (fun _ q => q) h
def mAnd (mt mu : MT) : MT := fun ρ A => (mt ρ A).bind fun k A1 => if k = true then mu ρ A1 else .ok false A1
def mOr (mt mu : MT) : MT := fun ρ A => (mt ρ A).bind fun k A1 => if k = true then .ok true A1 else mu ρ A1
def mNot (mt : MT) : MT := fun ρ A => (mt ρ A).bind fun k A1 => .ok (!k) A1
theorem w_and1 (ha : DT X W a mt) : DW X W (.BoolOp .And [a] pos) mt := pw_and1 ha
theorem w_or1 (ha : DT X W a mt) : DW X W (.BoolOp .Or [a] pos) mt := pw_or1 ha
theorem w_and (ha : DT X W a mt) (hb : DW X W (.BoolOp .And (b :: es) pos) mu) : DW X W (.BoolOp .And (a :: b :: es) pos) (mAnd mt mu) :=
  PWi (pw_and ha hb) fun σ H Q ⟨m, A, ρ, R, E, h⟩ => tT.bind R E h fun m1 A1 k H1 e1 R1 E1 h1 => by
    cases k with
    | true => exact ⟨m1, A1, ρ, R1, E1, h1⟩
    | false => exact Post.here R1 rfl h1
theorem w_or (ha : DT X W a mt) (hb : DW X W (.BoolOp .Or (b :: es) pos) mu) : DW X W (.BoolOp .Or (a :: b :: es) pos) (mOr mt mu) :=
  PWi (pw_or ha hb) fun σ H Q ⟨m, A, ρ, R, E, h⟩ => tT.bind R E h fun m1 A1 k H1 e1 R1 E1 h1 => by
    cases k with
    | false => exact ⟨m1, A1, ρ, R1, E1, h1⟩
    | true => exact Post.here R1 rfl h1
theorem t_not (ha : DT X W a mt) : DT X W (.UnaryOp .Not a pos) (mNot mt) :=
  PTi (pt_not ha) fun σ H Q ⟨m, A, ρ, R, E, h⟩ => tT.bind R E h fun m1 A1 k H1 e1 R1 E1 h1 => Post.here R1 rfl h1
/-- as values -/
def mAndV (ma mb : ME) : ME := fun ρ A => (ma ρ A).bind fun d A1 => match d with
  | .bl true => mb ρ A1
  | .bl false => .ok (.bl false) A1
  | _ => .no
def mOrV (ma mb : ME) : ME := fun ρ A => (ma ρ A).bind fun d A1 => match d with
  | .bl true => .ok (.bl true) A1
  | .bl false => mb ρ A1
  | _ => .no
def mNotV (ma : ME) : ME := fun ρ A => (ma ρ A).bind fun d A1 => match d with
  | .bl k => .ok (.bl (!k)) A1
  | _ => .no
theorem d_one {op : BoolOp} (h : DE X W a ma) : DE X W (.BoolOp op [a] pos) ma := pe_one h
theorem d_andV (ha : DE X W a ma) (hb : DE X W (.BoolOp .And (b :: es) pos) mb) : DE X W (.BoolOp .And (a :: b :: es) pos) (mAndV ma mb) :=
  PEi (pe_and ha hb) fun σ H Q ⟨m, A, ρ, R, E, h⟩ => tE.bind R E h fun m1 A1 d v H1 e1 R1 E1 r1 h1 => by
    split at h1
    · cases r1; exact ⟨true, rfl, m1, A1, ρ, R1, E1, h1⟩
    · cases r1; exact ⟨false, rfl, Post.here R1 (.bl _) h1⟩
    · exact h1.elim
theorem d_orV (ha : DE X W a ma) (hb : DE X W (.BoolOp .Or (b :: es) pos) mb) : DE X W (.BoolOp .Or (a :: b :: es) pos) (mOrV ma mb) :=
  PEi (pe_or ha hb) fun σ H Q ⟨m, A, ρ, R, E, h⟩ => tE.bind R E h fun m1 A1 d v H1 e1 R1 E1 r1 h1 => by
    split at h1
    · cases r1; exact ⟨true, rfl, Post.here R1 (.bl _) h1⟩
    · cases r1; exact ⟨false, rfl, m1, A1, ρ, R1, E1, h1⟩
    · exact h1.elim
theorem d_notV (ha : DE X W a ma) : DE X W (.UnaryOp .Not a pos) (mNotV ma) :=
  PEi (pe_not ha) fun σ H Q ⟨m, A, ρ, R, E, h⟩ => tE.bind R E h fun m1 A1 d v H1 e1 R1 E1 r1 h1 => by
    split at h1
    · cases r1; exact ⟨_, rfl, Post.here R1 (.bl _) h1⟩
    · exact h1.elim
def mIf (mt : MT) (ma mb : ME) : ME := fun ρ A => (mt ρ A).bind fun k A1 => if k = true then ma ρ A1 else mb ρ A1
theorem d_if (hc : DT X W c mt) (ha : DE X W a ma) (hb : DE X W b mb) : DE X W (.IfExp c a b pos) (mIf mt ma mb) :=
  PEi (pe_ifExp hc ha hb) fun σ H Q ⟨m, A, ρ, R, E, h⟩ => tT.bind R E h fun m1 A1 k H1 e1 R1 E1 h1 => by
    cases k with
    | true => exact ⟨m1, A1, ρ, R1, E1, h1⟩
    | false => exact ⟨m1, A1, ρ, R1, E1, h1⟩
/-- - a -/
def mNeg (ma : ME) : ME := fun ρ A => (ma ρ A).bind fun d A1 => match d with
  | .int i => .ok (.int (-i)) A1
  | _ => .no
theorem d_neg (ha : DE X W a ma) : DE X W (.UnaryOp .USub a pos) (mNeg ma) :=
  PEi (pe_un un_neg ha) fun σ H Q ⟨m, A, ρ, R, E, h⟩ => tE.bind R E h fun m1 A1 d v H1 e1 R1 E1 r1 h1 => by
    split at h1
    · cases r1; exact ⟨_, rfl, Post.here R1 (.int _) h1⟩
    · exact h1.elim
/-- the comparisons one writes -/
theorem d_add (ha : DE X W a ma) (hb : DE X W b mb) : DE X W (.BinOp a .Add b pos) (mOp fAdd ma mb) := d_op (op_add.or (op_add_str.or (op_catA.or op_catL))) fAdd_ok ha hb
theorem d_eq (hu : X.A.units + 64 < cLine) (ha : DE X W a ma) (hb : DE X W b mb) : DE X W (.Compare a [.Eq] [b] pos) (mOp (fEq false) ma mb) := d_cmp (op_eq.or (op_eqD hu)) fEq_ok ha hb
theorem d_ne (hu : X.A.units + 64 < cLine) (ha : DE X W a ma) (hb : DE X W b mb) : DE X W (.Compare a [.NotEq] [b] pos) (mOp (fEq true) ma mb) := d_cmp (op_ne.or (op_neD hu)) fNe_ok ha hb
theorem t_eq (hu : X.A.units + 64 < cLine) (ha : DE X W a ma) (hb : DE X W b mb) : DT X W (.Compare a [.Eq] [b] pos) (mTst (mOp (fEq false) ma mb)) := t_cmp (op_eq.or (op_eqD hu)) fEq_ok ha hb
theorem t_ne (hu : X.A.units + 64 < cLine) (ha : DE X W a ma) (hb : DE X W b mb) : DT X W (.Compare a [.NotEq] [b] pos) (mTst (mOp (fEq true) ma mb)) := t_cmp (op_ne.or (op_neD hu)) fNe_ok ha hb
theorem d_is (ha : DE X W a ma) (hb : DE X W b mb) : DE X W (.Compare a [.Is] [b] pos) (mOp (fIsN false) ma mb) := d_cmp op_isN fIsN_ok ha hb
theorem d_isnt (ha : DE X W a ma) (hb : DE X W b mb) : DE X W (.Compare a [.IsNot] [b] pos) (mOp (fIsN true) ma mb) := d_cmp op_notN fNotN_ok ha hb
theorem t_is (ha : DE X W a ma) (hb : DE X W b mb) : DT X W (.Compare a [.Is] [b] pos) (mTst (mOp (fIsN false) ma mb)) := t_cmp op_isN fIsN_ok ha hb
theorem t_isnt (ha : DE X W a ma) (hb : DE X W b mb) : DT X W (.Compare a [.IsNot] [b] pos) (mTst (mOp (fIsN true) ma mb)) := t_cmp op_notN fNotN_ok ha hb
theorem d_in (ha : DE X W a ma) (hb : DE X W b mb) (hm : behindInMarks .In b = false := by rfl) : DE X W (.Compare a [.In] [b] pos) (mOp (fIn false) ma mb) := d_cmp op_in_seq (fIn_ok false) ha hb hm
theorem d_nin (ha : DE X W a ma) (hb : DE X W b mb) (hm : behindInMarks .NotIn b = false := by rfl) : DE X W (.Compare a [.NotIn] [b] pos) (mOp (fIn true) ma mb) := d_cmp op_notIn_seq (fIn_ok true) ha hb hm
theorem t_in (ha : DE X W a ma) (hb : DE X W b mb) (hm : behindInMarks .In b = false := by rfl) : DT X W (.Compare a [.In] [b] pos) (mTst (mOp (fIn false) ma mb)) := t_cmp op_in_seq (fIn_ok false) ha hb hm
theorem t_nin (ha : DE X W a ma) (hb : DE X W b mb) (hm : behindInMarks .NotIn b = false := by rfl) : DT X W (.Compare a [.NotIn] [b] pos) (mTst (mOp (fIn true) ma mb)) := t_cmp op_notIn_seq (fIn_ok true) ha hb hm
theorem d_lt (ha : DE X W a ma) (hb : DE X W b mb) : DE X W (.Compare a [.Lt] [b] pos) (mOp fLt ma mb) := d_cmp op_lt fCmp_ok ha hb
theorem d_le (ha : DE X W a ma) (hb : DE X W b mb) : DE X W (.Compare a [.LtE] [b] pos) (mOp fLe ma mb) := d_cmp op_le fCmp_ok ha hb
theorem d_gt (ha : DE X W a ma) (hb : DE X W b mb) : DE X W (.Compare a [.Gt] [b] pos) (mOp fGt ma mb) := d_cmp op_gt fCmp_ok ha hb
theorem d_ge (ha : DE X W a ma) (hb : DE X W b mb) : DE X W (.Compare a [.GtE] [b] pos) (mOp fGe ma mb) := d_cmp op_ge fCmp_ok ha hb
theorem t_lt (ha : DE X W a ma) (hb : DE X W b mb) : DT X W (.Compare a [.Lt] [b] pos) (mTst (mOp fLt ma mb)) := t_cmp op_lt fCmp_ok ha hb
theorem t_le (ha : DE X W a ma) (hb : DE X W b mb) : DT X W (.Compare a [.LtE] [b] pos) (mTst (mOp fLe ma mb)) := t_cmp op_le fCmp_ok ha hb
theorem t_gt (ha : DE X W a ma) (hb : DE X W b mb) : DT X W (.Compare a [.Gt] [b] pos) (mTst (mOp fGt ma mb)) := t_cmp op_gt fCmp_ok ha hb
theorem t_ge (ha : DE X W a ma) (hb : DE X W b mb) : DT X W (.Compare a [.GtE] [b] pos) (mTst (mOp fGe ma mb)) := t_cmp op_ge fCmp_ok ha hb
/-- a chain of two orders of ints -/
theorem chnD {K : PySem.W.Frag} {f g : D → D → AH → Res D} {r r' : R2} (hf : OpD K f r) (hg : OpD K g r') {σ : L2.St} {H : Hp} {Q : VK} (h : tE K W (mChn f g ma mb mc) σ H Q) : tChain r r' (tE K W ma) (tE K W mb) (tE K W mc) σ H Q := by
  obtain ⟨m, A, ρ, R, E, h⟩ := h
  refine tE.bind R E h fun m1 A1 d v H1 e1 R1 E1 r1 h1 => tE.bind R1 E1 h1 fun m2 A2 d2 v2 H2 e2 R2 E2 r2 h2 => ?_
  refine hf W σ m2 A2 H2 v v2 d d2 _ R2 (RD.mono e2 _ _ r1) r2 (Post.imp (Post.bind (R := RD K) h2) fun z H3 ⟨m3, A3, dz, e3, R3, rz, h3⟩ => ?_)
  split at h3
  · cases rz
    refine ⟨true, rfl, ?_⟩
    rw [if_pos rfl]
    exact tE.bind R3 (E2.mono e3) h3 fun m4 A4 d4 v4 H4 e4 R4 E4 r4 h4 => hg W σ m4 A4 H4 v2 v4 d2 d4 Q R4 (RD.mono (e3.trans e4) _ _ r2) r4 h4
  · cases rz
    refine ⟨false, rfl, ?_⟩
    rw [if_neg (by decide)]
    exact Post.here R3 (.bl _) h3
  · exact h3.elim
theorem d_chn {op op' : CmpOp} {f g : D → D → AH → Res D} {r r' : R2} (ho : OpR X (compareOp op) r) (ho' : OpR X (compareOp op') r') (hf : OpD X.K f r) (hg : OpD X.K g r') (ha : DE X W a ma) (hb : DE X W b mb) (hc : DE X W c mc) (hm : lastMarks [op, op'] [b, c] = false := by with_unfolding_all rfl) :
    DE X W (.Compare a [op, op'] [b, c] pos) (mChn f g ma mb mc) := PEi (pe_chain ho ho' ha hb hc hm) fun _ _ _ h => chnD hf hg h
theorem t_chn {op op' : CmpOp} {f g : D → D → AH → Res D} {r r' : R2} (ho : OpR X (compareOp op) r) (ho' : OpR X (compareOp op') r') (hf : OpD X.K f r) (hg : OpD X.K g r') (ha : DE X W a ma) (hb : DE X W b mb) (hc : DE X W c mc) (hm : lastMarks [op, op'] [b, c] = false := by with_unfolding_all rfl) :
    DT X W (.Compare a [op, op'] [b, c] pos) (mTst (mChn f g ma mb mc)) := PTi (pt_chain ho ho' ha hb hc hm) fun _ _ _ h => tTstD (fun _ q => chnD hf hg q) h
end
end DM
end
section
set_option maxHeartbeats 2000000
namespace DM
open PySem PySem.Spec PyProof.Rows L2
section
variable {X : Cx} {W : WX} {a b c e tg : Expr} {es : List Expr} {ma mb mc me : ME} {mt mu : MT} {ms : MA} {pos p p2 : Pos}
/-! ### argument lists, displays -/
def mNil : MA := fun _ A => .ok [] A
def mCons (me : ME) (ms : MA) : MA := fun ρ A => (me ρ A).bind fun d A1 => (ms ρ A1).bind fun ds A2 => .ok (d :: ds) A2
theorem a_nil : DA X W [] mNil := PAi pa_nil fun σ H Q ⟨m, A, ρ, R, E, h⟩ => Post.here R .nil h
theorem a_cons (ha : DE X W e me) (hr : DA X W es ms) (hs : starEach (e :: es) X.env = (false, eval e X.env) :: starEach es X.env := by rfl) : DA X W (e :: es) (mCons me ms) :=
  PAi (pa_cons ha hr hs) fun σ H Q ⟨m, A, ρ, R, E, h⟩ => tE.bind R E h fun m1 A1 d v H1 e1 R1 E1 r1 h1 => tA.bind R1 E1 h1 fun m2 A2 ds vs H2 e2 R2 E2 r2 h2 => Post.here R2 (.cons (RD.mono e2 _ _ r1) r2) h2
def mTup (ms : MA) : ME := fun ρ A => (ms ρ A).bind fun ds A1 => if ds.length ≤ 1000 then .ok (.tup ds) A1 else .no
def mLst (ms : MA) : ME := fun ρ A => (ms ρ A).bind fun ds A1 => if ds.length ≤ 1000 then .ok (.lst ds) A1 else .no
/-- a list that will change -/
def mNew (ms : MA) : ME := fun ρ A => (ms ρ A).bind fun ds A1 => if ds.length ≤ 1000 then .ok (.ref A1.length) (A1 ++ [.lst ds]) else .no
theorem k1000 {ds : List D} {vs : List V} {K : PySem.W.Frag} {m : Mp} {H : Hp} (r : RDs K m H ds vs) (h : ds.length ≤ 1000) : vs.length ≤ sizeLine := by
  rw [← r.length, sizeLine_eq]; omega
theorem d_tup {x1 : Nat} (h : DA X W es ms) : DE X W (.Tuple es x1 pos) (mTup ms) :=
  PEi (pe_tup h) fun σ H Q ⟨m, A, ρ, R, E, h⟩ => tA.bind R E h fun m1 A1 ds vs H1 e1 R1 E1 r1 h1 => by
    split at h1
    · rename_i hz
      exact ⟨k1000 r1 hz, tup_new R1 r1 h1⟩
    · exact h1.elim
theorem d_lst (h : DA X W es ms) : DE X W (.List es pos) (mLst ms) :=
  PEi (pe_lst h) fun σ H Q ⟨m, A, ρ, R, E, h⟩ => tA.bind R E h fun m1 A1 ds vs H1 e1 R1 E1 r1 h1 => by
    split at h1
    · rename_i hz
      exact ⟨k1000 r1 hz, lst_new R1 r1 h1⟩
    · exact h1.elim
theorem d_new (h : DA X W es ms) : DE X W (.List es pos) (mNew ms) :=
  PEi (pe_lst h) fun σ H Q ⟨m, A, ρ, R, E, h⟩ => tA.bind R E h fun m1 A1 ds vs H1 e1 R1 E1 r1 h1 => by
    split at h1
    · rename_i hz
      exact ⟨k1000 r1 hz, ref_new R1 r1 h1⟩
    · exact h1.elim
/-- a list written out, times a number -/
def mRep (ms : MA) (mb : ME) : ME := fun ρ A => (ms ρ A).bind fun ds A1 => if ds.length ≤ 1000 then (mb ρ A1).bind fun y A2 => (match y with
  | .int k => if -(2 ^ 63) ≤ k ∧ k < 2 ^ 63 ∧ ds.length * k.toNat ≤ 16777216 then .ok (.lst (List.replicate k.toNat ds).flatten) A2 else .no
  | _ => .no) else .no
theorem RDs.rep {K : PySem.W.Frag} {m : Mp} {H : Hp} {ds : List D} {vs : List V} (r : RDs K m H ds vs) : ∀ n : Nat, RDs K m H (List.replicate n ds).flatten (List.replicate n vs).flatten
  | 0 => .nil
  | n + 1 => by
    rw [List.replicate_succ, List.replicate_succ, List.flatten_cons, List.flatten_cons]
    exact r.append (RDs.rep r n)
theorem d_rep {b : Expr} {mb : ME} {pos2 : Pos} (h : DA X W es ms) (hb : DE X W b mb) : DE X W (.BinOp (.List es pos2) .Mult b pos) (mRep ms mb) :=
  PEi (pe_op op_rep (pe_lst h) hb) fun σ H Q ⟨m, A, ρ, R, E, h⟩ => tA.bind R E h fun m1 A1 ds vs H1 e1 R1 E1 r1 h1 => by
    split at h1
    · rename_i hz
      refine ⟨k1000 r1 hz, fun p hp => ?_⟩
      obtain ⟨R2, e2⟩ := R1.new hp (.lst vs)
      refine tE.bind R2 (E1.mono e2) (Post.mono e2 h1) fun m2 A2 y v H2 e3 R3 E3 r3 h3 => ?_
      have hH : H2 p = some (.lst vs) := e3.keep p _ upd_same (R1.out hp).1
      split at h3
      · rename_i k
        cases r3
        split at h3
        · rename_i hk
          exact ⟨p, k, vs, rfl, rfl, hH, hk.1, hk.2.1, by rw [← r1.length, sizeLine_eq]; exact hk.2.2, lst_new R3 (RDs.rep (RDs.mono (e2.trans e3) _ _ r1) k.toNat) h3⟩
        · exact h3.elim
      · exact h3.elim
    · exact h1.elim
/-! ### built-ins -/
def CallD (K : PySem.W.Frag) (f : List D → AH → Res D) (r : List V → Hp → VK → Prop) : Prop :=
  ∀ (W : WX) (σ : L2.St) (m : Mp) (A : AH) (H : Hp) (xs : List V) (ds : List D) (Q : VK), Rel K m A H → RDs K m H ds xs → Post K (RD K) W σ m H (f ds A) Q → r xs H Q
def mCall (f : List D → AH → Res D) (ms : MA) : ME := fun ρ A => (ms ρ A).bind fun ds A1 => f ds A1
theorem tCB_D {K : PySem.W.Frag} {f : List D → AH → Res D} {r : List V → Hp → VK → Prop} (hf : CallD K f r) {σ : L2.St} {H : Hp} {Q : VK} (h : tE K W (mCall f ms) σ H Q) : tCB r (tA K W ms) σ H Q := by
  obtain ⟨m, A, ρ, R, E, h⟩ := h
  exact tA.bind R E h fun m1 A1 ds vs H1 e1 R1 E1 r1 h1 => hf W σ m1 A1 H1 vs ds Q R1 r1 h1
theorem d_callB {id : String} {x : Str} {f : List D → AH → Res D} {r : List V → Hp → VK → Prop} (hc : CallR X (.builtin id) r) (hf : CallD X.K f r) (hg : Gl X x) (hm : X.mg x = none) (hv : bootBuiltins x = some (.builtin id)) (ha : DA X W (e :: es) ms) (hn : x ≠ "__name__" := by decide)
    (hdb : (x == ("__debug__" : Str)) = false := by decide) (he : starEach (e :: es) X.env = (false, eval e X.env) :: starEach es X.env := by rfl) (hpl : (backTo pos (starEach es X.env)).any (·.1) = false := by rfl) :
    DE X W (.Call (.Name x p) (e :: es) [] pos) (mCall f ms) := PEi (pe_callB hc hg hm hv ha hn hdb he hpl) fun _ _ _ h => tCB_D hf h
theorem d_callTy {T : String} {x : Str} {f : List D → AH → Res D} {r : List V → Hp → VK → Prop} (hc : CallR X (.type T) r) (hf : CallD X.K f r) (hg : Gl X x) (hm : X.mg x = none) (hv : bootBuiltins x = some (.type T)) (ha : DA X W (e :: es) ms) (hn : x ≠ "__name__" := by decide)
    (hdb : (x == ("__debug__" : Str)) = false := by decide) (he : starEach (e :: es) X.env = (false, eval e X.env) :: starEach es X.env := by rfl) (hpl : (backTo pos (starEach es X.env)).any (·.1) = false := by rfl) :
    DE X W (.Call (.Name x p) (e :: es) [] pos) (mCall f ms) := PEi (pe_callTy hc hg hm hv ha hn hdb he hpl) fun _ _ _ h => tCB_D hf h
theorem RDs.one {K : PySem.W.Frag} {m : Mp} {H : Hp} {d : D} {xs : List V} (h : RDs K m H [d] xs) : ∃ v, xs = [v] ∧ RD K m H d v := by
  cases h with
  | cons h r => cases r; exact ⟨_, rfl, h⟩
/-- len -/
def fLen : List D → AH → Res D := fun ds A => match ds with
  | [.str x] => if x.length ≤ 16777216 then .ok (.int x.length) A else .no
  | [d] => match seqOf A d with
    | some xs => .ok (.int xs.length) A
    | none => .no
  | _ => .no
theorem fLen_ok {K : PySem.W.Frag} : CallD K fLen (fun xs H Q => ∃ x n, xs = [x] ∧ LenV K x H n ∧ Q (.int n) H) := by
  intro W σ m A H xs ds Q R hx h
  unfold fLen at h
  split at h
  · rename_i x
    obtain ⟨v, rfl, r⟩ := hx.one
    cases r
    split at h
    · rename_i hz
      exact ⟨.str x, x.length, rfl, ⟨by rw [sizeLine_eq]; exact hz, rfl⟩, Post.here R (.int _) h⟩
    · exact h.elim
  · rename_i d _
    obtain ⟨v, rfl, r⟩ := hx.one
    split at h
    · rename_i ys hs
      obtain ⟨q, vs, rfl, sq, rs⟩ := seqOf_ok R r hs
      refine ⟨.ref q, vs.length, rfl, ?_, ?_⟩
      · rcases sq with sq | sq
        · exact .inl ⟨vs, sq, rfl⟩
        · exact .inr ⟨vs, sq, rfl⟩
      · rw [← rs.length]
        exact Post.here R (.int _) h
    · exact h.elim
  · exact h.elim
theorem d_len (hm : X.mg "len" = none) (ha : DA X W [e] ms) (hg : Gl X "len" := by rfl) (he : starEach [e] X.env = (false, eval e X.env) :: starEach [] X.env := by rfl) (hpl : (backTo pos (starEach [] X.env)).any (·.1) = false := by rfl) :
    DE X W (.Call (.Name "len" p) [e] [] pos) (mCall fLen ms) := d_callB call_len fLen_ok hg hm PySem.boot_len ha (by decide) (by decide) he hpl
/-- int of an int, of a bool -/
def fInt : List D → AH → Res D := fun ds A => match ds with
  | [.int i] => .ok (.int i) A
  | [.bl k] => .ok (.int (if k then 1 else 0)) A
  | _ => .no
theorem fInt_ok {K : PySem.W.Frag} : CallD K fInt (fun xs H Q => (∃ i, xs = [.int i] ∧ Q (.int i) H) ∨ ∃ k, xs = [.bl k] ∧ Q (.int (if k then 1 else 0)) H) := by
  intro W σ m A H xs ds Q R hx h
  unfold fInt at h
  split at h
  · obtain ⟨v, rfl, r⟩ := hx.one
    cases r
    exact .inl ⟨_, rfl, Post.here R (.int _) h⟩
  · obtain ⟨v, rfl, r⟩ := hx.one
    cases r
    exact .inr ⟨_, rfl, Post.here R (.int _) h⟩
  · exact h.elim
theorem d_intf (hm : X.mg "int" = none) (ha : DA X W [e] ms) (hg : Gl X "int" := by rfl) (he : starEach [e] X.env = (false, eval e X.env) :: starEach [] X.env := by rfl) (hpl : (backTo pos (starEach [] X.env)).any (·.1) = false := by rfl) :
    DE X W (.Call (.Name "int" p) [e] [] pos) (mCall fInt ms) := d_callTy call_int1 fInt_ok hg hm (by decide +kernel) ha (by decide) (by decide) he hpl
def fAbs : List D → AH → Res D := fun ds A => match ds with
  | [.int i] => .ok (.int (if i < 0 then -i else i)) A
  | _ => .no
theorem fAbs_ok {K : PySem.W.Frag} : CallD K fAbs (fun xs H Q => ∃ i, xs = [.int i] ∧ Q (.int (if i < 0 then -i else i)) H) := by
  intro W σ m A H xs ds Q R hx h
  unfold fAbs at h
  split at h
  · obtain ⟨v, rfl, r⟩ := hx.one
    cases r
    exact ⟨_, rfl, Post.here R (.int _) h⟩
  · exact h.elim
theorem d_abs (hm : X.mg "abs" = none) (ha : DA X W [e] ms) (hg : Gl X "abs" := by rfl) (he : starEach [e] X.env = (false, eval e X.env) :: starEach [] X.env := by rfl) (hpl : (backTo pos (starEach [] X.env)).any (·.1) = false := by rfl) :
    DE X W (.Call (.Name "abs" p) [e] [] pos) (mCall fAbs ms) := d_callB call_abs fAbs_ok hg hm (by decide +kernel) ha (by decide) (by decide) he hpl
/-- tuple of a list, a tuple -/
def fTup : List D → AH → Res D := fun ds A => match ds with
  | [d] => match seqOf A d with
    | some xs => .ok (.tup xs) A
    | none => .no
  | _ => .no
def isTup : D → Bool
  | .tup _ => true
  | _ => false
theorem seqOf_is {K : PySem.W.Frag} {m : Mp} {A : AH} {H : Hp} {d : D} {v : V} {xs : List D} (R : Rel K m A H) (h : RD K m H d v) (e : seqOf A d = some xs) :
    ∃ a vs, v = .ref a ∧ RDs K m H xs vs ∧ ((d = .tup xs ∧ SqT K H a vs) ∨ (isTup d = false ∧ SqL K H a vs)) := by
  unfold seqOf at e
  split at e
  · cases e
    cases h with
    | tup s r => exact ⟨_, _, rfl, r, .inl ⟨rfl, s.sq⟩⟩
  · cases e
    cases h with
    | lst s r => exact ⟨_, _, rfl, r, .inr ⟨rfl, s.sq⟩⟩
  · split at e
    · rename_i hA
      cases e
      cases h with
      | ref hm =>
        obtain ⟨q, h1, vs, h2, r⟩ := R.obj _ _ hA
        rw [hm] at h1; cases h1
        exact ⟨_, vs, rfl, r, .inr ⟨rfl, .inl (.inl h2)⟩⟩
    · cases e
  · cases e
theorem fTup_ok {K : PySem.W.Frag} : CallD K fTup (fun xs H Q => ∃ p ys, xs = [.ref p] ∧ ((SqL K H p ys ∧ ∀ l, H l = none → Q (.ref l) (upd H l (.tup ys))) ∨ (SqT K H p ys ∧ Q (.ref p) H))) := by
  intro W σ m A H xs ds Q R hx h
  unfold fTup at h
  split at h
  · rename_i d
    obtain ⟨v, rfl, r⟩ := hx.one
    split at h
    · rename_i ys hs
      obtain ⟨q, vs, rfl, rs, sq⟩ := seqOf_is R r hs
      refine ⟨q, vs, rfl, ?_⟩
      rcases sq with ⟨rfl, sq⟩ | ⟨_, sq⟩
      · exact .inr ⟨sq, Post.here R r h⟩
      · exact .inl ⟨sq, tup_new R rs h⟩
    · exact h.elim
  · exact h.elim
theorem d_tuple (hm : X.mg "tuple" = none) (ha : DA X W [e] ms) (hg : Gl X "tuple" := by rfl) (he : starEach [e] X.env = (false, eval e X.env) :: starEach [] X.env := by rfl) (hpl : (backTo pos (starEach [] X.env)).any (·.1) = false := by rfl) :
    DE X W (.Call (.Name "tuple" p) [e] [] pos) (mCall fTup ms) := d_callTy call_tuple_of fTup_ok hg hm (by decide +kernel) ha (by decide) (by decide) he hpl
/-- list of these: a list that stays -/
def fList : List D → AH → Res D := fun ds A => match ds with
  | [d] => match seqOf A d with
    | some xs => .ok (.lst xs) A
    | none => .no
  | _ => .no
def rListOf (K : PySem.W.Frag) : List V → Hp → VK → Prop := fun xs H Q => ∃ p ys, xs = [.ref p] ∧ (SqL K H p ys ∨ SqT K H p ys) ∧ ∀ l, H l = none → Q (.ref l) (upd H l (.lst ys))
theorem fList_ok {K : PySem.W.Frag} : CallD K fList (rListOf K) := by
  intro W σ m A H xs ds Q R hx h
  unfold fList at h
  split at h
  · obtain ⟨v, rfl, r⟩ := hx.one
    split at h
    · rename_i ys hs
      obtain ⟨q, vs, rfl, sq, rs⟩ := seqOf_ok R r hs
      exact ⟨q, vs, rfl, sq, lst_new R rs h⟩
    · exact h.elim
  · exact h.elim
theorem d_list (hm : X.mg "list" = none) (ha : DA X W [e] ms) (hg : Gl X "list" := by rfl) (he : starEach [e] X.env = (false, eval e X.env) :: starEach [] X.env := by rfl) (hpl : (backTo pos (starEach [] X.env)).any (·.1) = false := by rfl) :
    DE X W (.Call (.Name "list" p) [e] [] pos) (mCall fList ms) := d_callTy call_list_of fList_ok hg hm (by decide +kernel) ha (by decide) (by decide) he hpl
/-- repr -/
def fRepr : List D → AH → Res D := fun ds A => match ds with
  | [d] => match toPyA A d with
    | some q => if q.showable = true ∧ q.shown.length ≤ 16777216 ∧ q.depth ≤ 32 then .ok (.str q.shown) A else .no
    | none => .no
  | _ => .no
def rRepr (K : PySem.W.Frag) : List V → Hp → VK → Prop := fun xs H Q => ∃ x q, xs = [x] ∧ Dp K H x q ∧ q.showable = true ∧ q.shown.length ≤ sizeLine ∧ q.depth ≤ 32 ∧ Q (.str q.shown) H
mutual
theorem Dp.noDict {K : PySem.W.Frag} {H : Hp} : ∀ (q : PyData) (x : V), Dp K H x q → q.hasDict = false
  | .none, _, _ => by simp [PyData.hasDict]
  | .bool _, _, _ => by simp [PyData.hasDict]
  | .int _, _, _ => by simp [PyData.hasDict]
  | .str _, _, _ => by simp [PyData.hasDict]
  | .list ds, _, h => by cases h with | lst s r => (simp only [PyData.hasDict]; exact DpAll.noDict ds _ r)
  | .tuple ds, _, h => by cases h with | tup s r => (simp only [PyData.hasDict]; exact DpAll.noDict ds _ r)
  | .dict _, _, h => by cases h
theorem DpAll.noDict {K : PySem.W.Frag} {H : Hp} : ∀ (qs : List PyData) (xs : List V), DpAll K H xs qs → PyData.hasDictAll qs = false
  | [], _, _ => by simp [PyData.hasDictAll]
  | q :: qs, _, h => by
    cases h with
    | cons h r => simp only [PyData.hasDictAll, Dp.noDict q _ h, DpAll.noDict qs _ r, Bool.or_self]
end
theorem call_reprD (hg : X.A.guards = some []) (hu : X.A.units + 64 < cLine) : CallR X (.builtin "repr") (rRepr X.K) := by
  intro pins s σ H xs us Q I r h
  obtain ⟨x, q, rfl, hd, hs, hz, hdep, k⟩ := h
  obtain ⟨u, rfl, ru⟩ := vals1 r
  obtain ⟨as, rd⟩ := Dp.reads I q x u hd ru
  have hn := Dp.noDict q x hd
  have fin : ∀ h' t tk, (∀ b o, s.heap.get? b = some o → h'.get? b = some o) → EP X pins σ Q (.str q.shown t) { s with heap := h', toks := tk } := fun h' t tk kp => ⟨.str q.shown, H, I.kept (t' := tk) kp, ⟨t, rfl⟩, k⟩
  cases rd with
  | none =>
    simp only [PyData.shown] at fin
    exact PySem.P.repr_of_none (fin s.heap _ _ fun _ _ z => z)
  | bool b => 
    simp only [PyData.shown] at fin
    exact PySem.P.repr_of_bool (fin s.heap _ _ fun _ _ z => z)
  | int i t =>
    simp only [PyData.shown] at fin
    exact PySem.P.repr_of_int (by simpa [PyData.showable] using hs) (fin s.heap _ _ fun _ _ z => z)
  | str y t => 
    simp only [PyData.shown] at fin
    exact PySem.P.repr_of_str (fin s.heap _ _ fun _ _ z => z) (by simpa only [PyData.shown] using hz)
  | list h1 h2 h3 h4 =>
    exact repr_of_reads' (Reads.list h1 h2 h3 h4) hs (fun z => by rw [hn] at z; cases z) hg (by omega) (fun _ _ z => z) fin hz
  | tuple h1 h2 h3 h4 =>
    exact repr_of_reads' (Reads.tuple h1 h2 h3 h4) hs (fun z => by rw [hn] at z; cases z) hg (by omega) (fun _ _ z => z) fin hz
  | dict h1 h2 h3 h4 h5 => exact repr_of_reads' (Reads.dict h1 h2 h3 h4 h5) hs (fun z => by rw [hn] at z; cases z) hg (by omega) (fun _ _ z => z) fin hz
theorem fRepr_ok {K : PySem.W.Frag} : CallD K fRepr (rRepr K) := by
  intro W σ m A H xs ds Q R hx h
  unfold fRepr at h
  split at h
  · obtain ⟨v, rfl, r⟩ := hx.one
    split at h
    · rename_i q hq
      split at h
      · rename_i hc
        exact ⟨v, q, rfl, RD.dpA R r hq, hc.1, by rw [sizeLine_eq]; exact hc.2.1, hc.2.2, Post.here R (.str _) h⟩
      · exact h.elim
    · exact h.elim
  · exact h.elim
theorem d_repr (gd : X.A.guards = some []) (hu : X.A.units + 64 < cLine) (hm : X.mg "repr" = none) (ha : DA X W [e] ms) (hg : Gl X "repr" := by rfl) (he : starEach [e] X.env = (false, eval e X.env) :: starEach [] X.env := by rfl) (hpl : (backTo pos (starEach [] X.env)).any (·.1) = false := by rfl) :
    DE X W (.Call (.Name "repr" p) [e] [] pos) (mCall fRepr ms) := d_callB (call_reprD gd hu) fRepr_ok hg hm (by decide +kernel) ha (by decide) (by decide) he hpl
end
end DM
end
section
set_option maxHeartbeats 2000000
namespace DM
open PySem PySem.Spec PyProof.Rows L2
section
variable {X : Cx} {W : WX} {a b c e tg : Expr} {es : List Expr} {ma mb mc me : ME} {mt mu : MT} {ms : MA} {pos p p2 : Pos}
/-! ### a[b] -/
def fIx : D → D → AH → Res D := fun d e A => match d, e with
  | .str z, .int i => if z.length ≤ 16777216 then (match atI z.cps.toList i with | some c => .ok (.str ⟨#[c]⟩) A | none => .no) else .no
  | d, .int i => match seqOf A d with
    | some xs => match atI xs i with
      | some v => .ok v A
      | none => .no
    | none => .no
  | _, _ => .no
theorem atI_rel {K : PySem.W.Frag} {m : Mp} {H : Hp} {xs : List D} {vs : List V} {i : Int} {d : D} (r : RDs K m H xs vs) (h : atI xs i = some d) : ∃ v, atI vs i = some v ∧ RD K m H d v := by
  unfold atI at h ⊢
  rw [← r.length]
  cases hn : ixN xs.length i with
  | none => rw [hn] at h; cases h
  | some j =>
    rw [hn] at h
    obtain ⟨v, h1, h2⟩ := r.get h
    exact ⟨v, h1, h2⟩
theorem fIx_ok {K : PySem.W.Frag} : OpD K fIx (rIx K) := by
  intro W σ m A H x y d e Q R hx hy h
  unfold fIx at h
  split at h
  · rename_i z i
    cases hx; cases hy
    split at h
    · rename_i hz
      split at h
      · rename_i c hc
        exact .inr (.inr ⟨z, i, c, rfl, rfl, by rw [sizeLine_eq]; exact hz, hc, Post.here R (.str _) h⟩)
      · exact h.elim
    · exact h.elim
  · rename_i i _
    cases hy
    split at h
    · rename_i xs hs
      obtain ⟨q, vs, rfl, rs, sq⟩ := seqOf_is R hx hs
      split at h
      · rename_i v hv
        obtain ⟨w, h1, h2⟩ := atI_rel rs hv
        have k := Post.here R h2 h
        rcases sq with ⟨_, sq⟩ | ⟨_, sq⟩
        · exact .inr (.inl ⟨q, vs, i, w, rfl, rfl, sq, h1, k⟩)
        · exact .inl ⟨q, vs, i, w, rfl, rfl, sq, h1, k⟩
      · exact h.elim
    · exact h.elim
  · exact h.elim
theorem d_ix (ha : DE X W a ma) (hb : DE X W b mb) (hs : PlainIx b := by exact fun _ _ => rfl) : DE X W (.Subscript a b pos) (mOp fIx ma mb) := PEi (pe_ix ix_seq ha hb hs) fun _ _ _ h => tOpD fIx_ok h
/-! ### slices -/
abbrev MO := Env → AH → Res (Option Int)
def tO (K : PySem.W.Frag) (W : WX) (mo : MO) : TO := fun σ H Q => ∃ m A ρ, Rel K m A H ∧ REnv K m H ρ σ ∧ Post K (fun _ _ a b => a = b) W σ m H (mo ρ A) Q
def mNone : MO := fun _ A => .ok none A
def mSome (me : ME) : MO := fun ρ A => (me ρ A).bind fun d A1 => match d with
  | .int i => .ok (some i) A1
  | _ => .no
structure DO (X : Cx) (W : WX) (e : Option Expr) (mo : MO) : Prop where
  go : PO X e (tO X.K W mo)
theorem POi {X : Cx} {e : Option Expr} {t t' : TO} (h : PO X e t) (q : ∀ σ H Q, t' σ H Q → t σ H Q) : PO X e t' := ⟨fun pins s σ H Q I w => h.run pins s σ H Q I (q σ H Q w)⟩
theorem o_none : DO X W none mNone := ⟨POi po_none fun σ H Q ⟨m, A, ρ, R, E, h⟩ => Post.here R rfl h⟩
theorem o_some (ha : DE X W e me) : DO X W (some e) (mSome me) := ⟨POi (po_some ha) fun σ H Q ⟨m, A, ρ, R, E, h⟩ => tE.bind R E h fun m1 A1 d v H1 e1 R1 E1 r1 h1 => by
  split at h1
  · cases r1; exact ⟨_, rfl, Post.here R1 rfl h1⟩
  · exact h1.elim⟩
theorem tO.bind {K : PySem.W.Frag} {σ : L2.St} {m : Mp} {A : AH} {ρ : Env} {H : Hp} {β γ : Type} {R2 : Mp → Hp → γ → β → Prop} {me : MO} {k : Option Int → AH → Res γ} {Q : β → Hp → Prop} {T : Option Int → Hp → Prop} (R : Rel K m A H) (E : REnv K m H ρ σ)
    (h : Post K R2 W σ m H ((me ρ A).bind k) Q) (q : ∀ m1 A1 b H1, Ext m H m1 H1 → Rel K m1 A1 H1 → REnv K m1 H1 ρ σ → Post K R2 W σ m1 H1 (k b A1) Q → T b H1) : tO K W me σ H T :=
  ⟨m, A, ρ, R, E, Post.imp (Post.bind (R := fun _ _ a b => a = b) h) fun v H1 ⟨m1, A1, d, e, R1, r, p⟩ => by subst r; exact q m1 A1 _ H1 e R1 (E.mono e) p⟩
def cutD (xs : List D) (lo hi : Option Int) : List D := (xs.drop (HT.sIx xs.length 0 lo)).take (HT.sIx xs.length xs.length hi - HT.sIx xs.length 0 lo)
theorem cut_rel {K : PySem.W.Frag} {m : Mp} {H : Hp} {xs : List D} {vs : List V} {lo hi : Option Int} (r : RDs K m H xs vs) : RDs K m H (cutD xs lo hi) (cutV vs lo hi) := by
  unfold cutD cutV
  rw [← r.length]
  exact (r.drop _).take _
theorem cut_whole {xs : List D} {lo hi : Option Int} (h : HT.sIx xs.length 0 lo = 0 ∧ HT.sIx xs.length xs.length hi = xs.length) : cutD xs lo hi = xs := by
  unfold cutD
  rw [h.1, h.2]
  simp
def fSl : D → Option Int → Option Int → AH → Res D := fun d lo hi A => match d with
  | .tup xs => .ok (.tup (cutD xs lo hi)) A
  | d => match seqOf A d with
    | some xs => .ok (.lst (cutD xs lo hi)) A
    | none => .no
def mSl (me : ME) (ml mh : MO) : ME := fun ρ A => (me ρ A).bind fun d A1 => (ml ρ A1).bind fun lo A2 => (mh ρ A2).bind fun hi A3 => fSl d lo hi A3
theorem d_sl {lo hi : Option Expr} {ml mh : MO} (he : DE X W e me) (hl : DO X W lo ml) (hh : DO X W hi mh) : DE X W (.Subscript e (.Slice lo hi none p2) pos) (mSl me ml mh) :=
  PEi (pe_slice (sl_tupA.or sl_list) he hl.go hh.go) fun σ H Q ⟨m, A, ρ, R, E, h⟩ => tE.bind R E h fun m1 A1 d v H1 e1 R1 E1 r1 h1 => tO.bind R1 E1 h1 fun m2 A2 l H2 e2 R2 E2 h2 => tO.bind R2 E2 h2 fun m3 A3 u H3 e3 R3 E3 h3 => by
    have r3 := RD.mono (e2.trans e3) _ _ r1
    unfold fSl at h3
    split at h3
    · rename_i xs
      have r3' := r3
      cases r3 with
      | tup s r =>
        rename_i q vs
        refine .inl ⟨q, vs, rfl, s.sq, fun hw => ?_, fun _ => tup_new R3 (cut_rel r) h3⟩
        rw [← r.length] at hw
        rw [cut_whole hw] at h3
        exact Post.here R3 r3' h3
    · rename_i d hd
      split at h3
      · rename_i xs hs
        obtain ⟨q, vs, rfl, rs, sq⟩ := seqOf_is R3 r3 hs
        rcases sq with ⟨rfl, _⟩ | ⟨_, sq⟩
        · exact (hd xs rfl).elim
        · exact .inr ⟨q, vs, rfl, sq, lst_new R3 (cut_rel rs) h3⟩
      · exact h3.elim
theorem RDs.rev {K : PySem.W.Frag} {m : Mp} {H : Hp} : ∀ {xs : List D} {vs : List V}, RDs K m H xs vs → RDs K m H xs.reverse vs.reverse
  | [], _, h => by cases h; exact .nil
  | x :: xs, _, h => by
    cases h with
    | cons h r =>
      rw [List.reverse_cons, List.reverse_cons]
      exact (RDs.rev r).append (.cons h .nil)
/-- xs[::-1] of a list, to stay or to change -/
def mRev (chg : Bool) (me : ME) : ME := fun ρ A => (me ρ A).bind fun d A1 => if isTup d = true then .no else match seqOf A1 d with
  | some xs => if chg then .ok (.ref A1.length) (A1 ++ [.lst xs.reverse]) else .ok (.lst xs.reverse) A1
  | none => .no
theorem d_rev {k : Nat} {q1 q2 q3 : Pos} (chg : Bool) (he : DE X W e me) : DE X W (.Subscript e (.Slice none none (some (.UnaryOp .USub (.Constant (.int 1) k q1) q2)) q3) pos) (mRev chg me) :=
  PEi (pe_revL he) fun σ H Q ⟨m, A, ρ, R, E, h⟩ => tE.bind R E h fun m1 A1 d v H1 e1 R1 E1 r1 h1 => by
    split at h1
    · exact h1.elim
    · rename_i hn
      split at h1
      · rename_i xs hs
        obtain ⟨q, vs, rfl, rs, sq⟩ := seqOf_is R1 r1 hs
        rcases sq with ⟨rfl, _⟩ | ⟨_, sq⟩
        · exact (hn rfl).elim
        · cases chg with
          | true => exact ⟨q, vs, rfl, sq, ref_new R1 rs.rev h1⟩
          | false => exact ⟨q, vs, rfl, sq, lst_new R1 rs.rev h1⟩
      · exact h1.elim
/-! ### methods of lists -/
def fApp : Nat → List D → AH → Res D := fun n ds A => match ds with
  | [x] => match A[n]? with
    | some (.lst xs) => if xs.length < 16777216 then .ok .non (A.set n (.lst (xs ++ [x]))) else .no
    | none => .no
  | _ => .no
/-- a method of a changing list -/
def mMet (f : Nat → List D → AH → Res D) (mo : ME) (ms : MA) : ME := fun ρ A => (mo ρ A).bind fun d A1 => match d with
  | .ref n => (ms ρ A1).bind fun ds A2 => f n ds A2
  | _ => .no
theorem Rel.lstAt {K : PySem.W.Frag} {m : Mp} {A : AH} {H : Hp} (R : Rel K m A H) {n : Nat} {q : Addr} (hm : m.1[n]? = some q) : ∃ vs, H q = some (.lst vs) := by
  have hq : A[n]? = some (A[n]'(by rw [← R.len]; exact (List.getElem?_eq_some_iff.mp hm).1)) := List.getElem?_eq_getElem _
  obtain ⟨q2, h3, h4⟩ := R.obj n _ hq
  rw [hm] at h3; cases h3
  cases ho : A[n]'(by rw [← R.len]; exact (List.getElem?_eq_some_iff.mp hm).1) with
  | lst xs => rw [ho] at h4; obtain ⟨vs, h5, _⟩ := h4; exact ⟨vs, h5⟩
theorem Rel.lst {K : PySem.W.Frag} {m : Mp} {A : AH} {H : Hp} (R : Rel K m A H) {n : Nat} {q : Addr} {xs : List D} (hm : m.1[n]? = some q) (hA : A[n]? = some (.lst xs)) : ∃ vs, H q = some (.lst vs) ∧ RDs K m H xs vs := by
  obtain ⟨q2, h3, ws, h4, rw4⟩ := R.obj _ _ hA
  rw [hm] at h3; cases h3
  exact ⟨ws, h4, rw4⟩
theorem wr_lst {K : PySem.W.Frag} {m : Mp} {A : AH} {H : Hp} {σ : L2.St} {n : Nat} {q : Addr} {ds : List D} {vs : List V} {d : D} {v : V} {Q : VK} (R : Rel K m A H) (hn : m.1[n]? = some q) (r : RDs K m H ds vs) (rv : RD K m H d v)
    (h : Post K (RD K) W σ m H (.ok d (A.set n (.lst ds))) Q) : Q v (upd H q (.lst vs)) :=
  let ⟨R1, e1⟩ := R.write (H' := upd H q (.lst vs)) (o := .lst ds) hn (fun p u hp z => by rw [upd_ne hp]; exact z) fun e => ⟨vs, upd_same, RDs.mono e _ _ r⟩
  h m _ _ e1 R1 (RD.mono e1 _ _ rv)
theorem d_app {o : Expr} {mo : ME} {apos : Pos} (ho : DE X W o mo) (ha : DA X W [e] ms) (hb1 : attributeBase o "append" X.env (eval o X.env) = eval o X.env := by rfl)
    (hfew : ((backTo pos (starEach [e] X.env)).all (fun x => !x.1) && (backToKw pos (keywordEach [] X.env)).all (fun x => x.1.isSome)
      && decide ([e].length + ([] : List Keyword).length + (if ([] : List Keyword).isEmpty then 0 else 1) < 30)) = true := by rfl)
    (hline : (apos.endLine == pos.line) = true := by rfl) (hs : starEach [e] X.env = (false, eval e X.env) :: starEach [] X.env := by rfl) (hpl : (backTo pos (starEach [] X.env)).any (·.1) = false := by rfl) :
    DE X W (.Call (.Attribute o "append" apos) [e] [] pos) (mMet fApp mo ms) :=
  PEi (pe_bm PySem.F.plainAttrs_list PySem.F.slot_list_append PySem.F.type_list_append mt_append ho ha hb1 hfew hline hs hpl) fun σ H Q ⟨m, A, ρ, R, E, h⟩ => tE.bind R E h fun m1 A1 d v H1 e1 R1 E1 r1 h1 => by
    split at h1
    · rename_i n
      cases r1 with
      | ref hm =>
        rename_i q
        obtain ⟨ws, hw⟩ := R1.lstAt hm
        refine ⟨.inl ⟨rfl, ws, .inl (.inl hw)⟩, tA.bind R1 E1 h1 fun m2 A2 ds vs H2 e2 R2 E2 r2 h2 => ?_⟩
        unfold fApp at h2
        split at h2
        · obtain ⟨y, rfl, ry⟩ := r2.one
          split at h2
          · rename_i xs hA
            split at h2
            · rename_i hz
              have hm2 := e2.get hm
              obtain ⟨us, h4, rw4⟩ := R2.lst hm2 hA
              exact ⟨q, us, y, rfl, rfl, h4, by rw [← rw4.length, sizeLine_eq]; exact hz, wr_lst R2 hm2 (rw4.append (.cons ry .nil)) .non h2⟩
            · exact h2.elim
          · exact h2.elim
        · exact h2.elim
    · exact h1.elim
/-- xs.pop() -/
def mPop (mo : ME) : ME := fun ρ A => (mo ρ A).bind fun d A1 => match d with
  | .ref n => match A1[n]? with
    | some (.lst xs) => match xs[xs.length - 1]? with
      | some x => .ok x (A1.set n (.lst xs.dropLast))
      | none => .no
    | none => .no
  | _ => .no
theorem RDs.dropLast {K : PySem.W.Frag} {m : Mp} {H : Hp} {xs : List D} {vs : List V} (h : RDs K m H xs vs) : RDs K m H xs.dropLast vs.dropLast := by
  rw [List.dropLast_eq_take, List.dropLast_eq_take, ← h.length]
  exact h.take _
theorem d_pop {o : Expr} {mo : ME} {apos : Pos} (ho : DE X W o mo) (hb1 : attributeBase o "pop" X.env (eval o X.env) = eval o X.env := by rfl) (hline : (apos.endLine == pos.line) = true := by rfl) :
    DE X W (.Call (.Attribute o "pop" apos) [] [] pos) (mPop mo) :=
  PEi (pe_bm0 PySem.F.plainAttrs_list PySem.F.slot_list_pop PySem.F.type_list_pop mt_pop ho hb1 hline) fun σ H Q ⟨m, A, ρ, R, E, h⟩ => tE.bind R E h fun m1 A1 d v H1 e1 R1 E1 r1 h1 => by
    split at h1
    · rename_i n
      cases r1 with
      | ref hm =>
        rename_i q
        split at h1
        · rename_i xs hA
          split at h1
          · rename_i x hx
            obtain ⟨us, h4, rw4⟩ := R1.lst hm hA
            obtain ⟨y, h5, r5⟩ := rw4.get hx
            exact ⟨.inl ⟨rfl, us, .inl (.inl h4)⟩, q, us, y, rfl, rfl, h4, by rw [← rw4.length]; exact h5, wr_lst R1 hm rw4.dropLast r5 h1⟩
          · exact h1.elim
        · exact h1.elim
    · exact h1.elim
/-- a changing list's item is stored -/
def mSetI (mv mo mi : ME) : MS := fun ρ A => match (mv ρ A).bind fun v A1 => (mo ρ A1).bind fun o A2 => (mi ρ A2).bind fun i A3 => (match o, i with
    | .ref n, .int k => (match A3[n]? with
      | some (.lst xs) => (match ixN xs.length k with
        | some j => .ok D.non (A3.set n (.lst (xs.set j v)))
        | none => .no)
      | none => .no)
    | _, _ => .no) with
  | .ok _ A4 => .nx ρ A4
  | .exc C fs A4 => .exc C fs ρ A4
  | .no => .no
end
end DM
end
section
set_option maxHeartbeats 2000000
namespace DM
open PySem PySem.Spec PyProof.Rows L2
/-! ### statements -/
def lift {α : Type} (r : Res α) (ρ : Env) (k : α → AH → SRes) : SRes := match r with
  | .ok d A => k d A
  | .exc C fs A => .exc C fs ρ A
  | .no => .no
@[simp] theorem lift_ok {α : Type} (d : α) (A : AH) (ρ : Env) (k : α → AH → SRes) : lift (.ok d A) ρ k = k d A := rfl
@[simp] theorem lift_exc {α : Type} (C : Addr) (fs : List (Str × D)) (A : AH) (ρ : Env) (k : α → AH → SRes) : lift (.exc C fs A) ρ k = .exc C fs ρ A := rfl
@[simp] theorem lift_no {α : Type} (ρ : Env) (k : α → AH → SRes) : lift .no ρ k = .no := rfl
section
variable {K : PySem.W.Frag} {W : WX} {σ : L2.St} {m : Mp} {A : AH} {ρ : Env} {H : Hp} {D0 : Ends}
theorem post_lift {α β : Type} {R0 : Mp → Hp → α → β → Prop} {r : Res α} {k : α → AH → SRes} {T : β → Hp → Prop} (E : REnv K m H ρ σ) (h : PostS K W m H (lift r ρ k) D0)
    (q : ∀ m1 A1 d v H1, Ext m H m1 H1 → Rel K m1 A1 H1 → R0 m1 H1 d v → PostS K W m1 H1 (k d A1) D0 → T v H1) : Post K R0 W σ m H r T := by
  cases r with
  | ok d A' => exact fun m' H' v e R' r' => q m' A' d v H' e R' r' (PostS.mono e h)
  | exc C fs A' => exact fun m' H' dx gs e R' hd hf => h m' H' dx gs σ e R' (E.mono e) hd hf
  | no => exact h
theorem tE.lift {me : ME} {k : D → AH → SRes} {T : V → Hp → Prop} (R : Rel K m A H) (E : REnv K m H ρ σ) (h : PostS K W m H (lift (me ρ A) ρ k) D0)
    (q : ∀ m1 A1 d v H1, Ext m H m1 H1 → Rel K m1 A1 H1 → REnv K m1 H1 ρ σ → RD K m1 H1 d v → PostS K W m1 H1 (k d A1) D0 → T v H1) : tE K W me σ H T :=
  ⟨m, A, ρ, R, E, post_lift E h fun m1 A1 d v H1 e R1 r p => q m1 A1 d v H1 e R1 (E.mono e) r p⟩
theorem tT.lift {me : MT} {k : Bool → AH → SRes} {T : Bool → Hp → Prop} (R : Rel K m A H) (E : REnv K m H ρ σ) (h : PostS K W m H (lift (me ρ A) ρ k) D0)
    (q : ∀ m1 A1 b H1, Ext m H m1 H1 → Rel K m1 A1 H1 → REnv K m1 H1 ρ σ → PostS K W m1 H1 (k b A1) D0 → T b H1) : tT K W me σ H T :=
  ⟨m, A, ρ, R, E, post_lift E h fun m1 A1 d v H1 e R1 r p => by subst r; exact q m1 A1 _ H1 e R1 (E.mono e) p⟩
theorem tA.lift {me : MA} {k : List D → AH → SRes} {T : List V → Hp → Prop} (R : Rel K m A H) (E : REnv K m H ρ σ) (h : PostS K W m H (lift (me ρ A) ρ k) D0)
    (q : ∀ m1 A1 ds vs H1, Ext m H m1 H1 → Rel K m1 A1 H1 → REnv K m1 H1 ρ σ → RDs K m1 H1 ds vs → PostS K W m1 H1 (k ds A1) D0 → T vs H1) : tA K W me σ H T :=
  ⟨m, A, ρ, R, E, post_lift E h fun m1 A1 d v H1 e R1 r p => q m1 A1 d v H1 e R1 (E.mono e) r p⟩
theorem PostS.nx (R : Rel K m A H) (E : REnv K m H ρ σ) (h : PostS K W m H (.nx ρ A) D0) : D0.nx σ H := h m H σ (Ext.refl m H) R E
theorem PostS.bk (R : Rel K m A H) (E : REnv K m H ρ σ) (h : PostS K W m H (.bk ρ A) D0) : D0.bk σ H := h m H σ (Ext.refl m H) R E
theorem PostS.ct (R : Rel K m A H) (E : REnv K m H ρ σ) (h : PostS K W m H (.ct ρ A) D0) : D0.ct σ H := h m H σ (Ext.refl m H) R E
theorem PostS.rt {d : D} {v : V} (R : Rel K m A H) (r : RD K m H d v) (h : PostS K W m H (.rt d A) D0) : D0.rt v H := h m H v (Ext.refl m H) R r
end
def mNext : MS := fun ρ A => .nx ρ A
def mSeq (a b : MS) : MS := fun ρ A => match a ρ A with
  | .nx ρ1 A1 => b ρ1 A1
  | r => r
def mDrop (me : ME) : MS := fun ρ A => lift (me ρ A) ρ fun _ A1 => .nx ρ A1
def mRet (me : ME) : MS := fun ρ A => lift (me ρ A) ρ fun d A1 => .rt d A1
def mRetN : MS := fun _ A => .rt .non A
def mIfS (mt : MT) (a b : MS) : MS := fun ρ A => lift (mt ρ A) ρ fun k A1 => if k = true then a ρ A1 else b ρ A1
def mSet (i : Nat) (me : ME) : MS := fun ρ A => lift (me ρ A) ρ fun d A1 => .nx (ρ.set i (some d)) A1
def mBk : MS := fun ρ A => .bk ρ A
def mCt : MS := fun ρ A => .ct ρ A
def mBad : MS := fun _ _ => .no
section
variable {X : Cx} {W : WX} {a b c e tg : Expr} {es : List Expr} {st : Stmt} {sts sts' : List Stmt} {ma mb mc me : ME} {mt mu : MT} {ms : MA} {sa sb : MS} {pos p p2 : Pos}
theorem s_nil : DSs X W [] mNext := PSsi pss_nil fun D σ H ⟨m, A, ρ, R, E, h⟩ => PostS.nx R E h
/-- behind a statement, the rest -/
theorem seqD {K : PySem.W.Frag} {t : TS} {D : Ends} {σ : L2.St} {H : Hp} (hs : ∀ D' : Ends, tS K W sa D' σ H → t D' σ H) (h : tS K W (mSeq sa sb) D σ H) : tSeq t (tS K W sb) D σ H := by
  obtain ⟨m, A, ρ, R, E, h⟩ := h
  refine hs _ ⟨m, A, ρ, R, E, ?_⟩
  unfold mSeq at h
  cases hr : sa ρ A with
  | nx ρ1 A1 => rw [hr] at h; exact fun m' H' σ' e R' E' => ⟨m', A1, ρ1, R', E', PostS.mono e h⟩
  | rt d A1 => rw [hr] at h; exact h
  | bk ρ1 A1 => rw [hr] at h; exact h
  | ct ρ1 A1 => rw [hr] at h; exact h
  | exc C fs ρ1 A1 => rw [hr] at h; exact h
  | no => rw [hr] at h; exact h
theorem s_cons (h1 : DS X W st sa) (h2 : DSs X W sts sb) : DSs X W (st :: sts) (mSeq sa sb) := PSsi (pss_cons h1 h2) fun _ _ _ h => seqD (fun _ q => q) h
theorem s_one (h1 : DS X W st sa) : DSs X W [st] sa := pss_one h1
theorem s_pass : DS X W (.Pass pos) mNext := PSi ps_pass fun D σ H ⟨m, A, ρ, R, E, h⟩ => PostS.nx R E h
theorem s_break : DS X W (.Break pos) mBk := PSi ps_break fun D σ H ⟨m, A, ρ, R, E, h⟩ => PostS.bk R E h
theorem s_cont : DS X W (.Continue pos) mCt := PSi ps_continue fun D σ H ⟨m, A, ρ, R, E, h⟩ => PostS.ct R E h
theorem s_bad : DS X W st mBad := PSi ps_never fun D σ H ⟨m, A, ρ, R, E, h⟩ => h
theorem ss_bad : DSs X W sts mBad := PSsi pss_never fun D σ H ⟨m, A, ρ, R, E, h⟩ => h
theorem s_expr (he : DE X W e me) (hs : swapsWith e none pos.line X.env = pure false := by rfl) : DS X W (.Expr e pos) (mDrop me) :=
  PSi (ps_expr he hs) fun D σ H ⟨m, A, ρ, R, E, h⟩ => tE.lift R E h fun m1 A1 d v H1 e1 R1 E1 r1 h1 => PostS.nx R1 E1 h1
theorem s_ret (he : DE X W e me) : DS X W (.Return (some e) pos) (mRet me) :=
  PSi (ps_ret he) fun D σ H ⟨m, A, ρ, R, E, h⟩ => tE.lift R E h fun m1 A1 d v H1 e1 R1 E1 r1 h1 => PostS.rt R1 r1 h1
theorem s_retN : DS X W (.Return none pos) mRetN := PSi ps_retN fun D σ H ⟨m, A, ρ, R, E, h⟩ => PostS.rt R .non h
theorem s_if (hc : DT X W c mt) (ha : DSs X W sts sa) (hb : DSs X W sts' sb) : DS X W (.If c sts sts' pos) (mIfS mt sa sb) :=
  PSi (ps_if hc ha hb) fun D σ H ⟨m, A, ρ, R, E, h⟩ => tT.lift R E h fun m1 A1 k H1 e1 R1 E1 h1 => by
    cases k with
    | true => exact ⟨m1, A1, ρ, R1, E1, h1⟩
    | false => exact ⟨m1, A1, ρ, R1, E1, h1⟩
theorem setD {K : PySem.W.Frag} {t : TE} {D : Ends} {σ : L2.St} {H : Hp} {i : Nat} (ht : ∀ Q : VK, tE K W me σ H Q → t σ H Q) (h : tS K W (mSet i me) D σ H) : tAsg t (gName i) D σ H := by
  obtain ⟨m, A, ρ, R, E, h⟩ := h
  exact ht _ (tE.lift R E h fun m1 A1 d v H1 e1 R1 E1 r1 h1 => PostS.nx R1 (E1.set r1 i) h1)
theorem s_set {i : Nat} {x : Str} {pos' : Pos} (hN : X.N.Nodup) (he : DE X W e me) (hi : X.N[i]? = some x := by rfl) (hx : Loc X.env.scope x := by first | exact Or.inl rfl | exact Or.inr rfl) (hs : swapsWith e (some (.Name x pos')) pos.line X.env = pure false := by rfl)
    (hf : X.fn x = true ∨ X.env.scope.names.lookup x = some .local := by first | exact .inl rfl | exact .inr rfl | assumption) : DS X W (.Assign [.Name x pos'] e pos) (mSet i me) := PSi (ps_set hN hi hx he hs hf) fun _ _ _ h => setD (fun _ q => q) h
/-- x, y = a, b -/
def mPar2 (i j : Nat) (ms : MA) : MS := fun ρ A => lift (ms ρ A) ρ fun ds A1 => match ds with
  | [x, y] => .nx ((ρ.set i (some x)).set j (some y)) A1
  | _ => .no
def mPar3 (i j l : Nat) (ms : MA) : MS := fun ρ A => lift (ms ρ A) ρ fun ds A1 => match ds with
  | [x, y, z] => .nx (((ρ.set i (some x)).set j (some y)).set l (some z)) A1
  | _ => .no
theorem par2D {K : PySem.W.Frag} {i j : Nat} {D : Ends} {σ : L2.St} {H : Hp} (h : tS K W (mPar2 i j ms) D σ H) : tPar i j (tA K W ms) D σ H := by
  obtain ⟨m, A, ρ, R, E, h⟩ := h
  refine tA.lift R E h fun m1 A1 ds vs H1 e1 R1 E1 r1 h1 => ?_
  split at h1
  · cases r1 with
    | cons r1 q => cases q with
      | cons r2 q => cases q; exact ⟨_, _, rfl, PostS.nx R1 ((E1.set r1 i).set r2 j) h1⟩
  · exact h1.elim
theorem par3D {K : PySem.W.Frag} {i j l : Nat} {D : Ends} {σ : L2.St} {H : Hp} (h : tS K W (mPar3 i j l ms) D σ H) : tPar3 i j l (tA K W ms) D σ H := by
  obtain ⟨m, A, ρ, R, E, h⟩ := h
  refine tA.lift R E h fun m1 A1 ds vs H1 e1 R1 E1 r1 h1 => ?_
  split at h1
  · cases r1 with
    | cons r1 q => cases q with
      | cons r2 q => cases q with
        | cons r3 q => cases q; exact ⟨_, _, _, rfl, PostS.nx R1 (((E1.set r1 i).set r2 j).set r3 l) h1⟩
  · exact h1.elim
/-- x += e -/
def mAug (i : Nat) (f : D → D → AH → Res D) (me : ME) : MS := fun ρ A => match ρ[i]? with
  | some (some x) => lift ((me ρ A).bind fun y A1 => f x y A1) ρ fun z A2 => .nx (ρ.set i (some z)) A2
  | _ => .no
/-! ### targets -/
inductive Tg where
  | nm (i : Nat) | tp (ts : List Tg)
mutual
def bindT : Tg → D → Env → Option Env
  | .nm i, d, ρ => some (ρ.set i (some d))
  | .tp ts, .tup ds, ρ => bindTs ts ds ρ
  | .tp _, _, _ => none
def bindTs : List Tg → List D → Env → Option Env
  | [], [], ρ => some ρ
  | t :: ts, d :: ds, ρ => (bindT t d ρ).bind fun ρ1 => bindTs ts ds ρ1
  | _, _, _ => none
end
def outside (sl : List Nat) (σ σ' : L2.St) : Prop := σ'.length = σ.length ∧ ∀ i, i ∉ sl → σ'[i]? = σ[i]?
def GD (K : PySem.W.Frag) (sl : List Nat) (g : TG) (bt : D → Env → Option Env) : Prop :=
  ∀ (m : Mp) (H : Hp) (ρ : Env) (σ : L2.St) (d : D) (v : V) (Q : L2.St → Hp → Prop) (ρ' : Env), REnv K m H ρ σ → RD K m H d v → bt d ρ = some ρ' → (∀ σ', REnv K m H ρ' σ' → outside sl σ σ' → Q σ' H) → g v σ H Q
def GDs (K : PySem.W.Frag) (sl : List Nat) (g : TGs) (bt : List D → Env → Option Env) : Prop :=
  ∀ (m : Mp) (H : Hp) (ρ : Env) (σ : L2.St) (ds : List D) (vs : List V) (Q : L2.St → Hp → Prop) (ρ' : Env), REnv K m H ρ σ → RDs K m H ds vs → bt ds ρ = some ρ' → (∀ σ', REnv K m H ρ' σ' → outside sl σ σ' → Q σ' H) → g vs σ H Q
theorem outside.refl (sl : List Nat) (σ : L2.St) : outside sl σ σ := ⟨rfl, fun _ _ => rfl⟩
theorem outside.trans {sl : List Nat} {σ σ1 σ2 : L2.St} (a : outside sl σ σ1) (b : outside sl σ1 σ2) : outside sl σ σ2 := ⟨b.1.trans a.1, fun i hi => (b.2 i hi).trans (a.2 i hi)⟩
theorem g_nm {K : PySem.W.Frag} {sl : List Nat} {i : Nat} (hi : i ∈ sl) : GD K sl (gName i) (bindT (.nm i)) := by
  intro m H ρ σ d v Q ρ' E r hb h
  cases hb
  exact h _ (E.set r i) ⟨List.length_set .., fun j hj => List.getElem?_set_ne fun z => hj (by rw [← z]; exact hi)⟩
theorem gs_nil {K : PySem.W.Frag} {sl : List Nat} : GDs K sl gNil (bindTs []) := by
  intro m H ρ σ ds vs Q ρ' E r hb h
  cases ds with
  | nil => cases r; cases hb; exact ⟨rfl, h σ E (outside.refl sl σ)⟩
  | cons d ds => cases hb
theorem gs_cons {K : PySem.W.Frag} {sl : List Nat} {g : TG} {gs : TGs} {t : Tg} {ts : List Tg} (h1 : GD K sl g (bindT t)) (h2 : GDs K sl gs (bindTs ts)) : GDs K sl (gCons g gs) (bindTs (t :: ts)) := by
  intro m H ρ σ ds vs Q ρ' E r hb h
  cases ds with
  | nil => cases hb
  | cons d ds =>
    cases r with
    | cons r rs =>
      unfold bindTs at hb
      cases hb1 : bindT t d ρ with
      | none => rw [hb1] at hb; cases hb
      | some ρ1 =>
        rw [hb1] at hb
        exact ⟨_, _, rfl, h1 m H ρ σ d _ _ ρ1 E r hb1 fun σ1 E1 o1 => h2 m H ρ1 σ1 ds _ _ ρ' E1 rs hb fun σ2 E2 o2 => h σ2 E2 (o1.trans o2)⟩
theorem bindTs_len : ∀ (ts : List Tg) (ds : List D) (ρ ρ' : Env), bindTs ts ds ρ = some ρ' → ds.length = ts.length
  | [], [], _, _, _ => rfl
  | [], _ :: _, _, _, h => by cases h
  | t :: ts, [], _, _, h => by cases h
  | t :: ts, d :: ds, ρ, ρ', h => by
    unfold bindTs at h
    cases hb1 : bindT t d ρ with
    | none => rw [hb1] at h; cases h
    | some ρ1 =>
      rw [hb1] at h
      rw [List.length_cons, List.length_cons, bindTs_len ts ds ρ1 ρ' h]
theorem g_tp {K : PySem.W.Frag} {sl : List Nat} {gs : TGs} {ts : List Tg} {n : Nat} (hn : n = ts.length) (h1 : GDs K sl gs (bindTs ts)) : GD K sl (gTup K n gs) (bindT (.tp ts)) := by
  intro m H ρ σ d v Q ρ' E r hb h
  cases d with
  | tup ds =>
    cases r with
    | tup s r => exact ⟨_, _, rfl, s.sq, by rw [hn, ← r.length]; exact bindTs_len ts ds ρ ρ' hb, h1 m H ρ σ ds _ Q ρ' E r hb h⟩
  | _ => cases hb
mutual
def gOf (K : PySem.W.Frag) : Tg → TG
  | .nm i => gName i
  | .tp ts => gTup K ts.length (gOfs K ts)
def gOfs (K : PySem.W.Frag) : List Tg → TGs
  | [] => gNil
  | t :: ts => gCons (gOf K t) (gOfs K ts)
end
mutual
def slots : Tg → List Nat
  | .nm i => [i]
  | .tp ts => slotss ts
def slotss : List Tg → List Nat
  | [] => []
  | t :: ts => slots t ++ slotss ts
end
mutual
theorem gOf_ok {K : PySem.W.Frag} {sl : List Nat} : ∀ t : Tg, (∀ i ∈ slots t, i ∈ sl) → GD K sl (gOf K t) (bindT t)
  | .nm i, h => by
    unfold gOf
    exact g_nm (h i (by simp [slots]))
  | .tp ts, h => by
    unfold gOf
    exact g_tp rfl (gOfs_ok ts fun i hi => h i (by simpa [slots] using hi))
theorem gOfs_ok {K : PySem.W.Frag} {sl : List Nat} : ∀ ts : List Tg, (∀ i ∈ slotss ts, i ∈ sl) → GDs K sl (gOfs K ts) (bindTs ts)
  | [], _ => by unfold gOfs; exact gs_nil
  | t :: ts, h => by
    unfold gOfs
    exact gs_cons (gOf_ok t fun i hi => h i (by simp [slotss, hi])) (gOfs_ok ts fun i hi => h i (by simp [slotss, hi]))
end
abbrev DG (X : Cx) (e : Expr) (t : Tg) : Prop := PG X e (gOf X.K t)
abbrev DGs (X : Cx) (es : List Expr) (ts : List Tg) : Prop := PGs X es (gOfs X.K ts)
theorem tg_nm {i : Nat} {x : Str} (hN : X.N.Nodup) (hi : X.N[i]? = some x := by rfl) (hx : Loc X.env.scope x := by first | exact Or.inl rfl | exact Or.inr rfl) (hf : X.fn x = true ∨ X.env.scope.names.lookup x = some .local := by first | exact .inl rfl | exact .inr rfl | assumption) :
    DG X (.Name x pos) (.nm i) := pg_name hN hi hx hf
theorem tgs_nil : DGs X [] [] := pgs_nil
theorem tgs_cons {t : Tg} {ts : List Tg} (h1 : DG X e t) (h2 : DGs X es ts) (hs : (assignEach (e :: es) X.env).map (·.2) = assign e X.env :: (assignEach es X.env).map (·.2) := by rfl) : DGs X (e :: es) (t :: ts) := pgs_cons h1 h2 hs
theorem tg_tp {ts : List Tg} {k : Nat} (hc : X.calm = true) (h : DGs X es ts) (hn : (assignEach es X.env).length = ts.length := by rfl) (hst : (assignEach es X.env).findIdx? (·.1) = none := by rfl) : DG X (.Tuple es k pos) (.tp ts) := pg_tup hc h hn hst
/-- target = e -/
def mAsg (t : Tg) (me : ME) : MS := fun ρ A => lift (me ρ A) ρ fun d A1 => match bindT t d ρ with
  | some ρ1 => .nx ρ1 A1
  | none => .no
theorem s_asg {t : Tg} (he : DE X W e me) (hg : DG X tg t) (hs : swapsWithSole [tg] e pos.line X.env = pure false := by rfl) (hw : swappedStores [tg] e X.env = pure none := by rfl) (h1 : (assignEach [tg] X.env).map (·.2) = [assign tg X.env] := by rfl) :
    DS X W (.Assign [tg] e pos) (mAsg t me) := PSi (ps_asg he hg hs hw h1) fun D σ H ⟨m, A, ρ, R, E, h⟩ => tE.lift R E h fun m1 A1 d v H1 e1 R1 E1 r1 h1 => by
  split at h1
  · rename_i ρ1 hb
    exact gOf_ok (sl := slots t) t (fun _ h => h) m1 H1 ρ σ d v _ ρ1 E1 r1 hb fun σ' E' _ => PostS.nx R1 E' h1
  · exact h1.elim
end
end DM
end
section
set_option maxHeartbeats 2000000
namespace DM
open PySem PySem.Spec PyProof.Rows L2
/-! ### what is walked -/
inductive ItV where
  | sq (d : D) | rng (lo hi : Int) | en (d : D)
/-- numbered -/
def enumD : Nat → List D → List D
  | _, [] => []
  | i, x :: xs => .tup [.int (i : Nat), x] :: enumD (i + 1) xs
theorem enum_length : ∀ (xs : List D) (i : Nat), (enumD i xs).length = xs.length
  | [], _ => rfl
  | x :: xs, i => by rw [enumD, List.length_cons, enum_length xs, List.length_cons]
theorem enum_at : ∀ (xs : List D) (i j : Nat), (enumD i xs)[j]? = xs[j]?.map fun x => .tup [.int ((i + j : Nat) : Int), x]
  | [], _, _ => rfl
  | x :: xs, i, 0 => rfl
  | x :: xs, i, j + 1 => by
    rw [enumD, List.getElem?_cons_succ, List.getElem?_cons_succ, enum_at xs, show i + 1 + j = i + (j + 1) by omega]
def itemsOf (A : AH) : ItV → Option (List D)
  | .sq d => seqOf A d
  | .en d => (seqOf A d).map (enumD 0)
  | .rng lo hi => some ((List.range (hi - lo).toNat).map fun i => .int (lo + (i : Nat)))
structure Iter (K : PySem.W.Frag) (J : It) (m : Mp) (H : Hp) (iv : ItV) : Prop where
  go : ∀ (m' : Mp) (A' : AH) (H' : Hp) (all : List D) (i : Nat) (d : D), Ext m H m' H' → Rel K m' A' H' → itemsOf A' iv = some all → all[i]? = some d → J.go i H' ∧ ∀ x H'', J.yld i H' x H'' → Rel K m' A' H'' ∧ Ext m' H' m' H'' ∧ RD K m' H'' d x
  stop : ∀ (m' : Mp) (A' : AH) (H' : Hp) (all : List D) (i : Nat), Ext m H m' H' → Rel K m' A' H' → itemsOf A' iv = some all → all.length ≤ i → J.stop i H'
abbrev MI := Env → AH → Res ItV
def tI (K : PySem.W.Frag) (W : WX) (mi : MI) : TI := fun σ H Q => ∃ m A ρ, Rel K m A H ∧ REnv K m H ρ σ ∧ Post K (fun m' H' iv J => Iter K J m' H' iv) W σ m H (mi ρ A) Q
abbrev DI (X : Cx) (W : WX) (tg e : Expr) (mi : MI) : Prop := PI X tg e (tI X.K W mi)
theorem PIor {X : Cx} {tg e : Expr} {t t' u : TI} (h : PI X tg e t) (h' : PI X tg e t') (q : ∀ σ H R, u σ H R → t σ H R ∨ t' σ H R) : PI X tg e u := ⟨fun pins s σ H Q I w => (q σ H Q w).elim (h.run pins s σ H Q I) (h'.run pins s σ H Q I)⟩
theorem PIi {X : Cx} {tg e : Expr} {t u : TI} (h : PI X tg e t) (q : ∀ σ H R, u σ H R → t σ H R) : PI X tg e u := ⟨fun pins s σ H Q I w => h.run pins s σ H Q I (q σ H Q w)⟩
section
variable {X : Cx} {W : WX} {a b c e tg : Expr} {es : List Expr} {ma mb mc me : ME} {mt mu : MT} {ms : MA} {mi : MI} {sa sb : MS} {pos p p2 : Pos} {sts : List Stmt} {t : Tg}
theorem iter_list {K : PySem.W.Frag} {m : Mp} {A : AH} {H : Hp} {d : D} {q : Addr} (hd : isTup d = false) (r : RD K m H d (.ref q)) : Iter K (Itl K q) m H (.sq d) := by
  refine ⟨fun m' A' H' all i x e R hs hi => ?_, fun m' A' H' all i e R hs hl => ?_⟩
  · obtain ⟨q', vs, hq, rs, sq⟩ := seqOf_is R (RD.mono e _ _ r) hs
    cases hq
    rcases sq with ⟨rfl, _⟩ | ⟨_, sq⟩
    · cases hd
    · obtain ⟨v, h1, h2⟩ := rs.get hi
      refine ⟨⟨vs, v, sq, h1⟩, fun y H'' hy => ?_⟩
      obtain ⟨rfl, hy⟩ := hy
      have := hy vs sq
      rw [h1] at this; cases this
      exact ⟨R, Ext.refl _ _, h2⟩
  · obtain ⟨q', vs, hq, rs, sq⟩ := seqOf_is R (RD.mono e _ _ r) hs
    cases hq
    rcases sq with ⟨rfl, _⟩ | ⟨_, sq⟩
    · cases hd
    · exact ⟨vs, sq, by rw [← rs.length]; exact hl⟩
theorem iter_tup {K : PySem.W.Frag} {m : Mp} {A : AH} {H : Hp} {xs : List D} {q : Addr} (r : RD K m H (.tup xs) (.ref q)) : Iter K (Itt K q) m H (.sq (.tup xs)) := by
  refine ⟨fun m' A' H' all i x e R hs hi => ?_, fun m' A' H' all i e R hs hl => ?_⟩
  · cases hs
    cases RD.mono e _ _ r with
    | tup s rs =>
      obtain ⟨v, h1, h2⟩ := rs.get hi
      refine ⟨⟨_, v, s.sq, h1⟩, fun y H'' hy => ?_⟩
      obtain ⟨rfl, hy⟩ := hy
      have := hy _ s.sq
      rw [h1] at this; cases this
      exact ⟨R, Ext.refl _ _, h2⟩
  · cases hs
    cases RD.mono e _ _ r with
    | tup s rs => exact ⟨_, s.sq, by rw [← rs.length]; exact hl⟩
theorem iter_rng {K : PySem.W.Frag} {m : Mp} {H : Hp} {lo hi : Int} : Iter K (Itr lo (hi - lo).toNat) m H (.rng lo hi) := by
  refine ⟨fun m' A' H' all i x e R hs hx => ?_, fun m' A' H' all i e R hs hl => ?_⟩
  · cases hs
    have hlt : i < (hi - lo).toNat := by
      have := (List.getElem?_eq_some_iff.mp hx).1
      rw [List.length_map, List.length_range] at this
      exact this
    rw [List.getElem?_map, List.getElem?_range hlt] at hx
    cases hx
    refine ⟨hlt, fun y H'' hy => ?_⟩
    obtain ⟨rfl, rfl⟩ := hy
    exact ⟨R, Ext.refl _ _, .int _⟩
  · cases hs
    rw [List.length_map, List.length_range] at hl
    exact hl
theorem iter_enum {K : PySem.W.Frag} {m : Mp} {A : AH} {H : Hp} {d : D} {q : Addr} (hd : isTup d = false) (r : RD K m H d (.ref q)) : Iter K (Ite K q) m H (.en d) := by
  refine ⟨fun m' A' H' all i x e R hs hi => ?_, fun m' A' H' all i e R hs hl => ?_⟩
  · obtain ⟨xs, hs0, rfl⟩ := Option.map_eq_some_iff.mp hs
    obtain ⟨q', vs, hq, rs, sq⟩ := seqOf_is R (RD.mono e _ _ r) hs0
    cases hq
    rcases sq with ⟨rfl, _⟩ | ⟨_, sq⟩
    · cases hd
    · rw [enum_at] at hi
      obtain ⟨x0, hx0, rfl⟩ := Option.map_eq_some_iff.mp hi
      obtain ⟨v, h1, h2⟩ := rs.get hx0
      refine ⟨⟨vs, v, sq, h1⟩, fun y H'' hy => ?_⟩
      obtain ⟨T, v', rfl, hT, rfl, hy⟩ := hy
      have := hy vs sq
      rw [h1] at this; cases this
      obtain ⟨R1, e1⟩ := R.new hT (.tup [.int (i : Nat), v])
      refine ⟨R1, e1, ?_⟩
      rw [Nat.zero_add]
      exact .tup (.inl ⟨.inl upd_same, R.out hT⟩) (.cons (.int _) (.cons (RD.mono e1 _ _ h2) .nil))
  · obtain ⟨xs, hs0, rfl⟩ := Option.map_eq_some_iff.mp hs
    obtain ⟨q', vs, hq, rs, sq⟩ := seqOf_is R (RD.mono e _ _ r) hs0
    cases hq
    rcases sq with ⟨rfl, _⟩ | ⟨_, sq⟩
    · cases hd
    · exact ⟨vs, sq, by rw [enum_length] at hl; rw [← rs.length]; exact hl⟩
/-- enumerate(list) -/
def mEn (ms : MA) : MI := fun ρ A => (ms ρ A).bind fun ds A1 => match ds with
  | [d] => if isTup d = true then .no else (match seqOf A1 d with
    | some _ => .ok (.en d) A1
    | none => .no)
  | _ => .no
theorem i_en {elts : List Expr} {kk : Nat} {tpos : Pos} (hm : X.mg "enumerate" = none) (ha : DA X W [e] ms) (hg : Gl X "enumerate" := by rfl) (hs : starEach [e] X.env = [(false, eval e X.env)] := by rfl) : DI X W (.Tuple elts kk tpos) (.Call (.Name "enumerate" p) [e] [] pos) (mEn ms) :=
  PIi (pi_enum hg hm ha hs) fun σ H Q ⟨m, A, ρ, R, E, h⟩ => tA.bind R E h fun m1 A1 ds vs H1 e1 R1 E1 r1 h1 => by
    split at h1
    · rename_i d
      obtain ⟨v, rfl, r⟩ := r1.one
      split at h1
      · exact h1.elim
      · rename_i ht
        split at h1
        · rename_i xs hs
          obtain ⟨q, ws, rfl, rs, sq⟩ := seqOf_is R1 r hs
          have ht' : isTup d = false := by cases hh : isTup d <;> simp_all
          rcases sq with ⟨rfl, _⟩ | ⟨hd, sq⟩
          · cases ht'
          · exact ⟨q, ws, rfl, sq, Post.here R1 (iter_enum (A := A1) ht' r) h1⟩
        · exact h1.elim
    · exact h1.elim
def mSq (me : ME) : MI := fun ρ A => (me ρ A).bind fun d A1 => match seqOf A1 d with
  | some _ => .ok (.sq d) A1
  | none => .no
theorem i_sq (he : DE X W e me) : DI X W tg e (mSq me) := by
  refine PIor (pi_list he) (pi_tup he) fun σ H Q ⟨m, A, ρ, R, E, h⟩ => ?_
  by_cases ht : ∃ xs A1, me ρ A = .ok (.tup xs) A1
  · obtain ⟨xs, A1, ht⟩ := ht
    refine .inr ⟨m, A, ρ, R, E, ?_⟩
    have h' : Post X.K (fun m' H' iv J => Iter X.K J m' H' iv) W σ m H ((me ρ A).bind fun d A1 => match seqOf A1 d with | some _ => .ok (.sq d) A1 | none => .no) Q := h
    rw [ht] at h' ⊢
    intro m1 H1 v e1 R1 r1
    cases r1 with
    | tup s rs => exact ⟨_, rfl, ⟨_, s.sq⟩, h' m1 H1 _ e1 R1 (iter_tup (A := A1) (.tup s rs))⟩
  · refine .inl ⟨m, A, ρ, R, E, ?_⟩
    have h' : Post X.K (fun m' H' iv J => Iter X.K J m' H' iv) W σ m H ((me ρ A).bind fun d A1 => match seqOf A1 d with | some _ => .ok (.sq d) A1 | none => .no) Q := h
    cases hr : me ρ A with
    | ok d A1 =>
      rw [hr] at h'
      intro m1 H1 v e1 R1 r1
      rw [bind_ok] at h'
      split at h'
      · rename_i xs hs
        obtain ⟨q, vs, rfl, rs, sq⟩ := seqOf_is R1 r1 hs
        rcases sq with ⟨rfl, _⟩ | ⟨hd, sq⟩
        · exact (ht ⟨_, _, hr⟩).elim
        · exact ⟨q, rfl, ⟨vs, sq⟩, h' m1 H1 _ e1 R1 (iter_list (A := A1) hd r1)⟩
      · exact h'.elim
    | exc C fs A1 => rw [hr] at h'; exact h'
    | no => rw [hr] at h'; exact h'
/-- range(n), range(a, b) -/
def mR1 (ms : MA) : MI := fun ρ A => (ms ρ A).bind fun ds A1 => match ds with
  | [.int j] => if -(2 ^ 62) ≤ j ∧ j < 2 ^ 62 then .ok (.rng 0 j) A1 else .no
  | _ => .no
def mR2 (ms : MA) : MI := fun ρ A => (ms ρ A).bind fun ds A1 => match ds with
  | [.int i, .int j] => if -(2 ^ 62) ≤ i ∧ i < 2 ^ 62 ∧ -(2 ^ 62) ≤ j ∧ j < 2 ^ 62 then .ok (.rng i j) A1 else .no
  | _ => .no
theorem i_r1 (hm : X.mg "range" = none) (ha : DA X W [a] ms) (hg : Gl X "range" := by rfl) (hs : starEach [a] X.env = [(false, eval a X.env)] := by rfl) : DI X W tg (.Call (.Name "range" p) [a] [] pos) (mR1 ms) :=
  PIi (pi_range1 hg hm ha hs) fun σ H Q ⟨m, A, ρ, R, E, h⟩ => tA.bind R E h fun m1 A1 ds vs H1 e1 R1 E1 r1 h1 => by
    split at h1
    · obtain ⟨v, rfl, r⟩ := r1.one
      cases r
      split at h1
      · rename_i j hj
        have z := iter_rng (K := X.K) (m := m1) (H := H1) (lo := 0) (hi := j)
        rw [Int.sub_zero] at z
        exact ⟨j, rfl, hj.1, hj.2, Post.here R1 z h1⟩
      · exact h1.elim
    · exact h1.elim
theorem i_r2 (hm : X.mg "range" = none) (ha : DA X W [a, b] ms) (hg : Gl X "range" := by rfl) (hs : starEach [a, b] X.env = [(false, eval a X.env), (false, eval b X.env)] := by rfl) (hs2 : starEach [b] X.env = [(false, eval b X.env)] := by rfl) :
    DI X W tg (.Call (.Name "range" p) [a, b] [] pos) (mR2 ms) :=
  PIi (pi_range2 hg hm ha hs hs2) fun σ H Q ⟨m, A, ρ, R, E, h⟩ => tA.bind R E h fun m1 A1 ds vs H1 e1 R1 E1 r1 h1 => by
    split at h1
    · cases r1 with
      | cons r r1 =>
        obtain ⟨v, rfl, r'⟩ := r1.one
        cases r
        cases r'
        split at h1
        · rename_i i j hj
          exact ⟨i, j, rfl, hj, Post.here R1 iter_rng h1⟩
        · exact h1.elim
    · exact h1.elim
/-! ### for -/
open Classical in
noncomputable def forGo (iv : ItV) (all : List D) (t : Tg) (sb : MS) : List D → Env → AH → SRes
  | [], ρ, A => if itemsOf A iv = some all then .nx ρ A else .no
  | x :: xs, ρ, A => if itemsOf A iv = some all then (match bindT t x ρ with
    | some ρ1 => (match sb ρ1 A with
      | .nx ρ2 A2 => forGo iv all t sb xs ρ2 A2
      | .ct ρ2 A2 => forGo iv all t sb xs ρ2 A2
      | .bk ρ2 A2 => .nx ρ2 A2
      | .rt d A2 => .rt d A2
      | .exc C fs ρ2 A2 => .exc C fs ρ2 A2
      | .no => .no)
    | none => .no) else .no
noncomputable def mFor (mi : MI) (t : Tg) (sb : MS) : MS := fun ρ A => lift (mi ρ A) ρ fun iv A1 => match itemsOf A1 iv with
  | some all => forGo iv all t sb all ρ A1
  | none => .no
theorem s_for (hp : PassesOwn (model X.prog X.w) X.A X.env X.xe) (hc : X.calm = true) (hi : DI X W tg e mi) (hg : DG X tg t) (hb : DSs X W sts sb) (hs : ∀ x, foldedSetIterable e X.env x = pure x := by intro _; rfl) : DS X W (.For tg e sts [] pos) (mFor mi t sb) :=
  PSi (ps_for hp hc hi hg hb hs) fun D0 σ H ⟨m, A, ρ, R, E, h⟩ => by
    refine ⟨m, A, ρ, R, E, post_lift E h fun m1 A1 iv J H1 e1 R1 itr h1 => ?_⟩
    have E1 := E.mono e1
    split at h1
    · rename_i all hall
      refine ⟨fun i n σ' H' => n = all.length - i ∧ i ≤ all.length ∧ ∃ m' A' ρ', Ext m1 H1 m' H' ∧ Rel X.K m' A' H' ∧ REnv X.K m' H' ρ' σ' ∧ PostS X.K W m' H' (forGo iv all t sb (all.drop i) ρ' A') D0,
        ⟨all.length, by simp, Nat.zero_le _, m1, A1, ρ, Ext.refl _ _, R1, E1, by simpa using h1⟩, ?_⟩
      rintro i n σ' H' ⟨rfl, hi, m', A', ρ', e', R', E', h'⟩
      by_cases hlt : i < all.length
      · rw [List.drop_eq_getElem_cons hlt] at h'
        unfold forGo at h'
        split at h'
        · rename_i hit
          have go := itr.go m' A' H' all i _ e' R' hit (List.getElem?_eq_getElem hlt)
          refine .inr ⟨go.1, fun σ2 H2 => ∃ m2 A2 ρ2, Ext m1 H1 m2 H2 ∧ Rel X.K m2 A2 H2 ∧ REnv X.K m2 H2 ρ2 σ2 ∧ PostS X.K W m2 H2 (forGo iv all t sb (all.drop (i + 1)) ρ2 A2) D0,
            fun σ2 H2 h2 => ⟨all.length - (i + 1), by omega, rfl, hlt, h2⟩, fun x H2 hy => ?_⟩
          obtain ⟨R2, e2, rx⟩ := go.2 x H2 hy
          split at h'
          · rename_i ρ1 hb1
            refine gOf_ok (sl := slots t) t (fun _ h => h) m' H2 ρ' σ' _ x _ ρ1 (E'.mono e2) rx hb1 fun σ3 E3 _ => ⟨m', A', ρ1, R2, E3, ?_⟩
            cases hr : sb ρ1 A' with
            | nx ρ2 A2 => rw [hr] at h'; exact fun m3 H3 σ4 e3 R3 E4 => ⟨m3, A2, ρ2, (e'.trans e2).trans e3, R3, E4, PostS.mono (e2.trans e3) h'⟩
            | ct ρ2 A2 => rw [hr] at h'; exact fun m3 H3 σ4 e3 R3 E4 => ⟨m3, A2, ρ2, (e'.trans e2).trans e3, R3, E4, PostS.mono (e2.trans e3) h'⟩
            | bk ρ2 A2 => rw [hr] at h'; exact fun m3 H3 σ4 e3 R3 E4 => h' m3 H3 σ4 (e2.trans e3) R3 E4
            | rt d A2 => rw [hr] at h'; exact fun m3 H3 v e3 R3 r3 => h' m3 H3 v (e2.trans e3) R3 r3
            | exc C fs ρ2 A2 => rw [hr] at h'; exact fun m3 H3 dx gs σ4 e3 => h' m3 H3 dx gs σ4 (e2.trans e3)
            | no => rw [hr] at h'; exact h'
          · exact h'.elim
        · exact h'.elim
      · have hz : all.drop i = [] := List.drop_eq_nil_of_le (by omega)
        rw [hz] at h'
        unfold forGo at h'
        split at h'
        · rename_i hit
          exact .inl ⟨itr.stop m' A' H' all i e' R' hit (by omega), PostS.nx R' E' h'⟩
        · exact h'.elim
    · exact h1.elim
/-! ### while -/
def iterW (mt : MT) (sb : MS) : Nat → Env → AH → SRes
  | 0, _, _ => .no
  | n + 1, ρ, A => match mt ρ A with
    | .ok true A1 => (match sb ρ A1 with
      | .nx ρ2 A2 => iterW mt sb n ρ2 A2
      | .ct ρ2 A2 => iterW mt sb n ρ2 A2
      | .bk ρ2 A2 => .nx ρ2 A2
      | .rt d A2 => .rt d A2
      | .exc C fs ρ2 A2 => .exc C fs ρ2 A2
      | .no => .no)
    | .ok false A1 => .nx ρ A1
    | .exc C fs A1 => .exc C fs ρ A1
    | .no => .no
theorem iterW_more (mt : MT) (sb : MS) : ∀ (n : Nat) (ρ : Env) (A : AH), iterW mt sb n ρ A ≠ .no → iterW mt sb (n + 1) ρ A = iterW mt sb n ρ A
  | 0, _, _, h => (h rfl).elim
  | n + 1, ρ, A, h => by
    unfold iterW at h ⊢
    split
    · rename_i A1 ht
      rw [ht] at h
      simp only at h
      split
      · rename_i ρ2 A2 hb
        rw [hb] at h
        exact iterW_more mt sb n ρ2 A2 h
      · rename_i ρ2 A2 hb
        rw [hb] at h
        exact iterW_more mt sb n ρ2 A2 h
      · rfl
      · rfl
      · rfl
      · rfl
    · rfl
    · rfl
    · rfl
theorem iterW_le (mt : MT) (sb : MS) {n k : Nat} {ρ : Env} {A : AH} (h : iterW mt sb n ρ A ≠ .no) (hk : n ≤ k) : iterW mt sb k ρ A = iterW mt sb n ρ A := by
  induction k with
  | zero => cases Nat.le_zero.mp hk; rfl
  | succ k ih =>
    by_cases hz : n ≤ k
    · have q := ih hz
      rw [iterW_more mt sb k ρ A (by rw [q]; exact h), q]
    · have : n = k + 1 := by omega
      rw [this]
open Classical in
noncomputable def mWhile (mt : MT) (sb : MS) : MS := fun ρ A => if h : ∃ n, iterW mt sb n ρ A ≠ .no then iterW mt sb (Classical.choose h) ρ A else .no
theorem mWhile_eq {mt : MT} {sb : MS} {n : Nat} {ρ : Env} {A : AH} {r : SRes} (h : iterW mt sb n ρ A = r) (hr : r ≠ .no) : mWhile mt sb ρ A = r := by
  have hx : ∃ n, iterW mt sb n ρ A ≠ .no := ⟨n, by rw [h]; exact hr⟩
  unfold mWhile
  rw [dif_pos hx]
  have hs := Classical.choose_spec hx
  rcases Nat.le_total n (Classical.choose hx) with hle | hle
  · rw [iterW_le mt sb (by rw [h]; exact hr) hle, h]
  · rw [← iterW_le mt sb hs hle, h]
theorem s_while (hp : PassesOwn (model X.prog X.w) X.A X.env X.xe) (hc : DT X W c mt) (hb : DSs X W sts sb) : DS X W (.While c sts [] pos) (mWhile mt sb) :=
  PSi (ps_while hp hc hb) fun D0 σ H ⟨m, A, ρ, R, E, h⟩ => by
    unfold mWhile at h
    split at h
    · rename_i hx
      refine ⟨fun n σ' H' => ∃ m' A' ρ', Rel X.K m' A' H' ∧ REnv X.K m' H' ρ' σ' ∧ PostS X.K W m' H' (iterW mt sb n ρ' A') D0, ⟨_, m, A, ρ, R, E, h⟩, ?_⟩
      rintro n σ' H' ⟨m', A', ρ', R', E', h'⟩
      cases n with
      | zero => exact h'.elim
      | succ n =>
        unfold iterW at h'
        refine ⟨m', A', ρ', R', E', ?_⟩
        cases ht : mt ρ' A' with
        | ok k A1 =>
          rw [ht] at h'
          intro m1 H1 b e1 R1 hb
          subst hb
          have E1 := E'.mono e1
          cases k with
          | true =>
            rw [if_pos rfl]
            refine ⟨fun σ2 H2 => ∃ m2 A2 ρ2, Rel X.K m2 A2 H2 ∧ REnv X.K m2 H2 ρ2 σ2 ∧ PostS X.K W m2 H2 (iterW mt sb n ρ2 A2) D0, fun σ2 H2 h2 => ⟨n, Nat.lt_succ_self n, h2⟩, m1, A1, ρ', R1, E1, ?_⟩
            simp only at h'
            cases hr : sb ρ' A1 with
            | nx ρ2 A2 => rw [hr] at h'; exact fun m3 H3 σ4 e3 R3 E4 => ⟨m3, A2, ρ2, R3, E4, PostS.mono (e1.trans e3) h'⟩
            | ct ρ2 A2 => rw [hr] at h'; exact fun m3 H3 σ4 e3 R3 E4 => ⟨m3, A2, ρ2, R3, E4, PostS.mono (e1.trans e3) h'⟩
            | bk ρ2 A2 => rw [hr] at h'; exact fun m3 H3 σ4 e3 R3 E4 => h' m3 H3 σ4 (e1.trans e3) R3 E4
            | rt d A2 => rw [hr] at h'; exact fun m3 H3 v e3 R3 r3 => h' m3 H3 v (e1.trans e3) R3 r3
            | exc C fs ρ2 A2 => rw [hr] at h'; exact fun m3 H3 dx gs σ4 e3 => h' m3 H3 dx gs σ4 (e1.trans e3)
            | no => rw [hr] at h'; exact h'
          | false =>
            rw [if_neg (by decide)]
            exact PostS.nx R1 E1 (PostS.mono e1 h')
        | exc C fs A1 =>
          rw [ht] at h'
          exact fun m1 H1 dx gs e1 R1 hd hf => h' m1 H1 dx gs σ' e1 R1 (E'.mono e1) hd hf
        | no => rw [ht] at h'; exact h'
    · exact h.elim
end
end DM
end
section
set_option maxHeartbeats 2000000
namespace DM
open PySem PySem.Spec PyProof.Rows L2
/-! ### comprehensions -/
def wipeD (ρ : Env) : List Nat → Env
  | [] => ρ
  | v :: vs => (wipeD ρ vs).set v none
theorem REnv.wipe {K : PySem.W.Frag} {m : Mp} {H : Hp} {ρ : Env} {σ : L2.St} (h : REnv K m H ρ σ) : ∀ vs : List Nat, REnv K m H (wipeD ρ vs) (L2.wipe σ vs)
  | [] => h
  | v :: vs => (REnv.wipe h vs).unset v none
theorem wipe_at {σ : L2.St} {i : Nat} : ∀ {vs : List Nat}, (L2.wipe σ vs)[i]? = if i ∈ vs then (if i < σ.length then some none else none) else σ[i]?
  | [] => by simp [L2.wipe]
  | v :: vs => by
    unfold L2.wipe
    have ih := wipe_at (σ := σ) (i := i) (vs := vs)
    have hl := L2.wipe_length σ vs
    by_cases hv : v = i
    · subst hv
      by_cases hl2 : v < σ.length
      · rw [List.getElem?_set_self (by rw [hl]; exact hl2)]
        simp [hl2]
      · rw [List.getElem?_eq_none (by rw [List.length_set, hl]; omega)]
        simp [hl2]
    · rw [List.getElem?_set_ne hv, ih]
      have : (i ∈ v :: vs) ↔ i ∈ vs := by simp [Ne.symm hv]
      simp only [this]
theorem wipe_same {σ σ2 : L2.St} {vs sl : List Nat} (h : outside sl (L2.wipe σ vs) σ2) (hs : ∀ i ∈ sl, i ∈ vs) : L2.wipe σ2 vs = L2.wipe σ vs := by
  have hl : σ2.length = σ.length := h.1.trans (L2.wipe_length σ vs)
  refine List.ext_getElem? fun i => ?_
  rw [wipe_at, wipe_at]
  by_cases hi : i ∈ vs
  · rw [if_pos hi, if_pos hi, hl]
  · rw [if_neg hi, if_neg hi, h.2 i fun z => hi (hs i z), wipe_at, if_neg hi]
mutual
theorem RD.less {K : PySem.W.Frag} {m m' : Mp} {H : Hp} (h1 : m'.1 = m.1) (h2 : ∀ p ∈ m'.2, p ∈ m.2) : ∀ (d : D) (v : V), RD K m H d v → RD K m' H d v
  | .non, _, h => by cases h; exact .non
  | .bl b, _, h => by cases h; exact .bl b
  | .int i, _, h => by cases h; exact .int i
  | .str x, _, h => by cases h; exact .str x
  | .ty x, _, h => by cases h; exact .ty x
  | .abs x, _, h => by cases h; exact .abs x
  | .ref n, _, h => by cases h with | ref h => exact .ref (by rw [h1]; exact h)
  | .tup xs, _, h => by
    cases h with
    | tup h r => exact .tup (h.elim (fun z => .inl ⟨z.1, fun y => z.2.1 (by rw [← h1]; exact y), fun y => z.2.2 (h2 _ y)⟩) .inr) (RDs.less h1 h2 xs _ r)
  | .lst xs, _, h => by
    cases h with
    | lst h r => exact .lst (h.elim (fun z => .inl ⟨z.1, fun y => z.2.1 (by rw [← h1]; exact y), fun y => z.2.2 (h2 _ y)⟩) .inr) (RDs.less h1 h2 xs _ r)
theorem RDs.less {K : PySem.W.Frag} {m m' : Mp} {H : Hp} (h1 : m'.1 = m.1) (h2 : ∀ p ∈ m'.2, p ∈ m.2) : ∀ (ds : List D) (vs : List V), RDs K m H ds vs → RDs K m' H ds vs
  | [], _, h => by cases h; exact .nil
  | d :: ds, _, h => by cases h with | cons h r => exact .cons (RD.less h1 h2 d _ h) (RDs.less h1 h2 ds _ r)
end
mutual
theorem RD.grow {K : PySem.W.Frag} {m : Mp} {pv : List Addr} {q : Addr} {H : Hp} (hq : q ∈ m.2) (h2 : ∀ p ∈ pv, p ∈ m.2) : ∀ (d : D) (v : V), RD K m H d v → RD K (m.1 ++ [q], pv) H d v
  | .non, _, h => by cases h; exact .non
  | .bl b, _, h => by cases h; exact .bl b
  | .int i, _, h => by cases h; exact .int i
  | .str x, _, h => by cases h; exact .str x
  | .ty x, _, h => by cases h; exact .ty x
  | .abs x, _, h => by cases h; exact .abs x
  | .ref n, _, h => by
    cases h with
    | ref h =>
      refine .ref ?_
      show (m.1 ++ [q])[n]? = _
      rw [List.getElem?_append_left (List.getElem?_eq_some_iff.mp h).1]; exact h
  | .tup xs, _, h => by
    cases h with
    | tup h r =>
      refine .tup (h.elim (fun z => .inl ⟨z.1, fun y => ?_, fun y => z.2.2 (h2 _ y)⟩) .inr) (RDs.grow hq h2 xs _ r)
      rcases List.mem_append.mp y with y | y
      · exact z.2.1 y
      · exact z.2.2 (by rw [List.mem_singleton.mp y]; exact hq)
  | .lst xs, _, h => by
    cases h with
    | lst h r =>
      refine .lst (h.elim (fun z => .inl ⟨z.1, fun y => ?_, fun y => z.2.2 (h2 _ y)⟩) .inr) (RDs.grow hq h2 xs _ r)
      rcases List.mem_append.mp y with y | y
      · exact z.2.1 y
      · exact z.2.2 (by rw [List.mem_singleton.mp y]; exact hq)
theorem RDs.grow {K : PySem.W.Frag} {m : Mp} {pv : List Addr} {q : Addr} {H : Hp} (hq : q ∈ m.2) (h2 : ∀ p ∈ pv, p ∈ m.2) : ∀ (ds : List D) (vs : List V), RDs K m H ds vs → RDs K (m.1 ++ [q], pv) H ds vs
  | [], _, h => by cases h; exact .nil
  | d :: ds, _, h => by cases h with | cons h r => exact .cons (RD.grow hq h2 d _ h) (RDs.grow hq h2 ds _ r)
end
theorem Rel.less {K : PySem.W.Frag} {m m' : Mp} {A : AH} {H : Hp} (h1 : m'.1 = m.1) (h2 : ∀ p ∈ m'.2, p ∈ m.2) (R : Rel K m A H) : Rel K m' A H := by
  refine ⟨by rw [h1]; exact R.len, by rw [h1]; exact R.nd, fun p hp => R.pv p (h2 p hp), fun n o hn => ?_⟩
  obtain ⟨q, h3, h4⟩ := R.obj n o hn
  refine ⟨q, by rw [h1]; exact h3, ?_⟩
  cases o with
  | lst xs => obtain ⟨vs, h5, r⟩ := h4; exact ⟨vs, h5, RDs.less h1 h2 _ _ r⟩
mutual
theorem RD.past {K : PySem.W.Frag} {m : Mp} {H : Hp} {q : Addr} {o : HO} (hq : q ∈ m.2) : ∀ (d : D) (v : V), RD K m H d v → RD K m (upd H q o) d v
  | .non, _, h => by cases h; exact .non
  | .bl b, _, h => by cases h; exact .bl b
  | .int i, _, h => by cases h; exact .int i
  | .str x, _, h => by cases h; exact .str x
  | .ty x, _, h => by cases h; exact .ty x
  | .abs x, _, h => by cases h; exact .abs x
  | .ref n, _, h => by cases h with | ref h => exact .ref h
  | .tup xs, _, h => by
    cases h with
    | tup h r =>
      refine .tup (h.elim (fun z => .inl ⟨?_, z.2⟩) .inr) (RDs.past hq xs _ r)
      rename_i a vs
      have hne : a ≠ q := fun y => z.2.2 (by rw [y]; exact hq)
      rcases z.1 with y | ⟨u, y⟩
      · exact .inl (by rw [upd_ne hne]; exact y)
      · exact .inr ⟨u, by rw [upd_ne hne]; exact y⟩
  | .lst xs, _, h => by
    cases h with
    | lst h r =>
      refine .lst (h.elim (fun z => .inl ⟨?_, z.2⟩) .inr) (RDs.past hq xs _ r)
      rename_i a vs
      have hne : a ≠ q := fun y => z.2.2 (by rw [y]; exact hq)
      rcases z.1 with y | ⟨u, y⟩
      · exact .inl (by rw [upd_ne hne]; exact y)
      · exact .inr ⟨u, by rw [upd_ne hne]; exact y⟩
theorem RDs.past {K : PySem.W.Frag} {m : Mp} {H : Hp} {q : Addr} {o : HO} (hq : q ∈ m.2) : ∀ (ds : List D) (vs : List V), RDs K m H ds vs → RDs K m (upd H q o) ds vs
  | [], _, h => by cases h; exact .nil
  | d :: ds, _, h => by cases h with | cons h r => exact .cons (RD.past hq d _ h) (RDs.past hq ds _ r)
end
theorem Rel.past {K : PySem.W.Frag} {m : Mp} {A : AH} {H : Hp} {q : Addr} {o : HO} (hq : q ∈ m.2) (hn : q ∉ m.1) (R : Rel K m A H) : Rel K m A (upd H q o) := by
  refine ⟨R.len, R.nd, fun p hp z => ?_, fun n u hu => ?_⟩
  · by_cases hpq : p = q
    · rw [hpq, upd_same] at z; cases z
    · rw [upd_ne hpq] at z; exact R.pv p hp z
  · obtain ⟨p, h3, h4⟩ := R.obj n u hu
    refine ⟨p, h3, ?_⟩
    have hpq : p ≠ q := fun y => hn (by rw [← y]; exact List.mem_of_getElem? h3)
    cases u with
    | lst xs => obtain ⟨vs, h5, r⟩ := h4; exact ⟨vs, by rw [upd_ne hpq]; exact h5, RDs.past hq _ _ r⟩
open Classical in
noncomputable def compGo (iv : ItV) (all : List D) (t : Tg) (tt : MT) (me : ME) (ρ : Env) : List D → List D → AH → Res (List D)
  | [], acc, A => if itemsOf A iv = some all then .ok acc A else .no
  | x :: xs, acc, A => if itemsOf A iv = some all then (match bindT t x ρ with
    | some ρ1 => (match tt ρ1 A with
      | .ok true A1 => (match me ρ1 A1 with
        | .ok y A2 => compGo iv all t tt me ρ xs (acc ++ [y]) A2
        | _ => .no)
      | .ok false A1 => compGo iv all t tt me ρ xs acc A1
      | _ => .no)
    | none => .no) else .no
/-- chg: the new list will change -/
noncomputable def mLc (chg : Bool) (mi : MI) (t : Tg) (tt : MT) (me : ME) (vs : List Nat) : ME := fun ρ A => (mi ρ A).bind fun iv A1 => match itemsOf A1 iv with
  | some all => if all.length ≤ 16777216 then (compGo iv all t tt me (wipeD ρ vs) all [] A1).bind fun acc A2 => if chg = true then .ok (.ref A2.length) (A2 ++ [.lst acc]) else .ok (.lst acc) A2 else .no
  | none => .no
def mYes : MT := fun _ A => .ok true A
abbrev WNo : WX := fun _ _ _ _ => False
section
variable {X : Cx} {W : WX} {a b c e tg iter elt : Expr} {es : List Expr} {ma mb mc me : ME} {mt mu tt : MT} {ms mk : MA} {mi : MI} {sa sb : MS} {pos p p2 : Pos} {sts ifs : List Expr} {t : Tg}
def tTs (K : PySem.W.Frag) (mt : MT) : TT := tT K WNo mt
theorem l_nil : PTs X [] (tTs X.K mYes) := ⟨fun pins s σ H Q I ⟨m, A, ρ, R, E, h⟩ => pts_nil.run pins s σ H Q I (Post.here R rfl h)⟩
theorem l_one (h : DT X WNo c mt) : PTs X [c] (tTs X.K mt) := pts_one h
theorem lcD {K : PySem.W.Frag} {vs : List Nat} {chg : Bool} (hsl : ∀ i ∈ slots t, i ∈ vs) {σ : L2.St} {H : Hp} {Q : VK} (h : tE K W (mLc chg mi t tt me vs) σ H Q) : tLc (tI K W mi) (gOf K t) (tTs K tt) (tE K WNo me) vs σ H Q := by
  obtain ⟨m, A, ρ, R, E, h⟩ := h
  refine ⟨m, A, ρ, R, E, Post.imp (Post.bind (R := fun m' H' iv J => Iter K J m' H' iv) h) fun J H1 ⟨m1, A1, iv, e1, R1, itr, h1⟩ Dl hD => ?_⟩
  have E1 := E.mono e1
  split at h1
  rotate_left
  · exact h1.elim
  rename_i all hall
  split at h1
  rotate_left
  · exact h1.elim
  rename_i hz
  have hout := R1.out hD
  -- the state between two turns
  refine ⟨fun i n H' => n = all.length - i ∧ i ≤ all.length ∧ ∃ (m' : Mp) (A' : AH) (acc : List D) (us : List V), Dl ∈ m'.2 ∧ Dl ∉ m'.1 ∧ Ext m1 H1 m' H' ∧ Rel K m' A' H' ∧ H' Dl = some (.lst us) ∧ RDs K m' H' acc us ∧ acc.length ≤ i ∧
      Post K (RD K) W σ m1 H1 ((compGo iv all t tt me (wipeD ρ vs) (all.drop i) acc A').bind fun acc A2 => if chg = true then .ok (.ref A2.length) (A2 ++ [.lst acc]) else .ok (.lst acc) A2) Q, ?_, ?_⟩
  · refine ⟨all.length, by simp, Nat.zero_le _, (m1.1, Dl :: m1.2), A1, [], [], List.mem_cons_self, hout.1, ?_, ?_, upd_same, .nil, Nat.le_refl _, by simpa using h1⟩
    · refine ⟨⟨[], (List.append_nil _).symm⟩, fun p hp => List.mem_cons_of_mem _ hp, fun p hp => ?_, fun p hp => .inl hp, fun p o ho hn => by rw [upd_ne (ne_of_none ho hD)]; exact ho⟩
      rcases List.mem_cons.mp hp with z | z
      · exact .inr (.inr (by rw [z]; exact hD))
      · exact .inl z
    · have e2 : Ext m1 H1 (m1.1, Dl :: m1.2) (upd H1 Dl (.lst [])) := by
        refine ⟨⟨[], (List.append_nil _).symm⟩, fun p hp => List.mem_cons_of_mem _ hp, fun p hp => ?_, fun p hp => .inl hp, fun p o ho hn => by rw [upd_ne (ne_of_none ho hD)]; exact ho⟩
        rcases List.mem_cons.mp hp with z | z
        · exact .inr (.inr (by rw [z]; exact hD))
        · exact .inl z
      refine ⟨R1.len, R1.nd, fun p hp z => ?_, fun n o hn => ?_⟩
      · rcases List.mem_cons.mp hp with y | y
        · rw [y, upd_same] at z; cases z
        · by_cases hpq : p = Dl
          · rw [hpq, upd_same] at z; cases z
          · rw [upd_ne hpq] at z; exact R1.pv p y z
      · obtain ⟨q, h3, h4⟩ := R1.obj n o hn
        refine ⟨q, h3, h4.keep e2 ?_⟩
        rw [upd_ne fun y => hout.1 (by rw [← y]; exact List.mem_of_getElem? h3)]
  · rintro i n H' ⟨rfl, hi, m', A', acc, us, hp2, hp1, e', R', hDl, ra, hal, h'⟩
    by_cases hlt : i < all.length
    · rw [List.drop_eq_getElem_cons hlt] at h'
      unfold compGo at h'
      split at h'
      rotate_left
      · exact h'.elim
      rename_i hit
      have go := itr.go m' A' H' all i _ e' R' hit (List.getElem?_eq_getElem hlt)
      refine .inr ⟨go.1, fun H2 => ∃ (m' : Mp) (A' : AH) (acc : List D) (us : List V), Dl ∈ m'.2 ∧ Dl ∉ m'.1 ∧ Ext m1 H1 m' H2 ∧ Rel K m' A' H2 ∧ H2 Dl = some (.lst us) ∧ RDs K m' H2 acc us ∧ acc.length ≤ i + 1 ∧
        Post K (RD K) W σ m1 H1 ((compGo iv all t tt me (wipeD ρ vs) (all.drop (i + 1)) acc A').bind fun acc A2 => if chg = true then .ok (.ref A2.length) (A2 ++ [.lst acc]) else .ok (.lst acc) A2) Q,
        fun H2 h2 => ⟨all.length - (i + 1), by omega, rfl, hlt, h2⟩, fun x H2 hy => ?_⟩
      obtain ⟨R2, e2, rx⟩ := go.2 x H2 hy
      have hD2 : H2 Dl = some (.lst us) := e2.keep Dl _ hDl hp1
      split at h'
      rotate_left
      · exact h'.elim
      rename_i ρ1 hb1
      refine gOf_ok (sl := slots t) t (fun _ h => h) m' H2 _ _ _ x _ ρ1 ((E1.wipe vs).mono (e'.trans e2)) rx hb1 fun σ3 E3 o3 => ⟨wipe_same o3 hsl, m', A', ρ1, R2, E3, ?_⟩
      split at h'
      · rename_i A2 htt
        rw [htt]
        intro m3 H3 k e3 R3 hk
        subst hk
        have h31 : Dl ∉ m3.1 := fun z => (e3.new _ z).elim hp1 fun y => by rw [hD2] at y; cases y
        rw [if_pos rfl]
        refine ⟨m3, A2, ρ1, R3, E3.mono e3, ?_⟩
        split at h'
        rotate_left
        · exact h'.elim
        rename_i y A3 hme
        rw [hme]
        intro m4 H4 v e4 R4 r4
        have hD4 : H4 Dl = some (.lst us) := e4.keep Dl _ (e3.keep Dl _ hD2 hp1) h31
        have h41 : Dl ∉ m4.1 := fun z => (e4.new _ z).elim h31 fun y => by rw [e3.keep Dl _ hD2 hp1] at y; cases y
        have h42 : Dl ∈ m4.2 := e4.sub _ (e3.sub _ hp2)
        have et := (e2.trans e3).trans e4
        refine ⟨us, hD4, by rw [← ra.length, sizeLine_eq]; omega, m4, A3, acc ++ [y], us ++ [v], h42, h41, ?_, R4.past h42 h41, upd_same, RDs.past h42 _ _ ((RDs.mono et _ _ ra).append (.cons r4 .nil)), by rw [List.length_append]; simp; omega, h'⟩
        have ez := e'.trans et
        exact ⟨ez.pre, ez.sub, ez.pvs, ez.new, fun p o ho hn => by
          rw [upd_ne (ne_of_none ho hD)]
          exact ez.keep p o ho hn⟩
      · rename_i A2 htt
        rw [htt]
        intro m3 H3 k e3 R3 hk
        subst hk
        have h31 : Dl ∉ m3.1 := fun z => (e3.new _ z).elim hp1 fun y => by rw [hD2] at y; cases y
        rw [if_neg (by decide)]
        exact ⟨m3, A2, acc, us, e3.sub _ hp2, h31, (e'.trans e2).trans e3, R3, e3.keep Dl _ hD2 hp1, RDs.mono (e2.trans e3) _ _ ra, by omega, h'⟩
      · exact h'.elim
    · have hnil : all.drop i = [] := List.drop_eq_nil_of_le (by omega)
      rw [hnil] at h'
      unfold compGo at h'
      split at h'
      rotate_left
      · exact h'.elim
      rename_i hit
      refine .inl ⟨itr.stop m' A' H' all i e' R' hit (by omega), ?_⟩
      rw [bind_ok] at h'
      have sub2 : ∀ p ∈ m1.2, p ∈ m'.2 := e'.sub
      cases chg with
      | false =>
        have eF : Ext m1 H1 (m'.1, m1.2) H' := ⟨e'.pre, fun _ h => h, fun _ h => .inl h, e'.new, e'.keep⟩
        exact h' (m'.1, m1.2) H' _ eF (Rel.less (m := m') (m' := (m'.1, m1.2)) rfl sub2 R') (.lst (.inl ⟨.inl hDl, hp1, hout.2⟩) (RDs.less (m := m') (m' := (m'.1, m1.2)) rfl sub2 _ _ ra))
      | true =>
        obtain ⟨l, hl⟩ := e'.pre
        have eF : Ext m1 H1 (m'.1 ++ [Dl], m1.2) H' := by
          refine ⟨⟨l ++ [Dl], by show m'.1 ++ [Dl] = _; rw [hl, List.append_assoc]⟩, fun _ h => h, fun _ h => .inl h, fun p hp => ?_, e'.keep⟩
          rcases List.mem_append.mp hp with z | z
          · exact e'.new p z
          · exact .inr (by rw [List.mem_singleton.mp z]; exact hD)
        refine h' (m'.1 ++ [Dl], m1.2) H' (.ref Dl) eF ?_ (.ref (by show (m'.1 ++ [Dl])[A'.length]? = some Dl; rw [← R'.len]; simp))
        refine ⟨by rw [List.length_append, List.length_append, R'.len]; rfl, List.nodup_append.mpr ⟨R'.nd, by simp, fun x hx y hy z => hp1 (by rw [← List.mem_singleton.mp hy, ← z]; exact hx)⟩, fun p hp => R'.pv p (sub2 p hp), fun n o hn => ?_⟩
        by_cases hlen : n < A'.length
        · rw [List.getElem?_append_left hlen] at hn
          obtain ⟨q, h3, h4⟩ := R'.obj n o hn
          refine ⟨q, by show (m'.1 ++ [Dl])[n]? = some q; rw [List.getElem?_append_left (by rw [R'.len]; exact hlen)]; exact h3, ?_⟩
          cases o with
          | lst xs => obtain ⟨ws, h5, r⟩ := h4; exact ⟨ws, h5, RDs.grow hp2 sub2 _ _ r⟩
        · rw [List.getElem?_append_right (by omega)] at hn
          have h0 : n - A'.length = 0 := by
            have := (List.getElem?_eq_some_iff.mp hn).1
            simp at this; omega
          rw [h0] at hn
          cases hn
          refine ⟨Dl, ?_, us, hDl, RDs.grow hp2 sub2 _ _ ra⟩
          show (m'.1 ++ [Dl])[n]? = some Dl
          rw [List.getElem?_append_right (by rw [R'.len]; omega), R'.len, h0]; rfl
end
end DM
end
section
set_option maxHeartbeats 2000000
namespace DM
open PySem PySem.Spec PyProof.Rows L2
section
variable {X : Cx} {W : WX} {a b c e tg iter elt : Expr} {es ifs : List Expr} {ma mb mc me : ME} {mt mu tt : MT} {ms mk : MA} {mi : MI} {sa sb : MS} {pos p p2 : Pos} {t : Tg}
theorem d_lc {scope : Scope} (chg : Bool) (own : List (Str × Nat)) (hc : X.calm = true) (hN : X.N.Nodup) (hi : DI X W tg iter mi) (ok : BlkOk X.N X.env.scope scope own)
    (hg : ∀ (s : Shared) (H : Hp) (C : Addr) (cl : List (Str × Addr)) (fp : List Addr), DG (X.blk s H scope (compEnvC scope cl C X.env) fp) tg t)
    (ht : ∀ (s : Shared) (H : Hp) (C : Addr) (cl : List (Str × Addr)) (fp : List Addr), PTs (X.blk s H scope (compEnvC scope cl C X.env) fp) ifs (tTs X.K tt))
    (he : ∀ (s : Shared) (H : Hp) (C : Addr) (cl : List (Str × Addr)) (fp : List Addr), DE (X.blk s H scope (compEnvC scope cl C X.env) fp) WNo elt me)
    {sl : List Nat} (hsl : ∀ i ∈ slots t, i ∈ sl) (ho : own.map (·.2) = sl := by rfl) (hs : ∀ x, foldedSetIterable iter X.env x = pure x := by intro _; rfl) : DE X W (.ListComp elt [⟨tg, iter, ifs, 0⟩] scope pos) (mLc chg mi t tt me sl) := by
  subst ho
  exact PEi (pe_lc hc hN hi ok hg ht he hs) fun _ _ _ h => lcD hsl h
theorem s_setLc {i : Nat} {y : Str} {py spos : Pos} {scope : Scope} (chg : Bool) (own : List (Str × Nat)) (hc : X.calm = true) (hN : X.N.Nodup) (hy : X.N[i]? = some y) (hyl : X.env.scope.names.lookup y = some .local)
    (hsw : swapsWith (.ListComp elt [⟨tg, iter, ifs, 0⟩] scope pos) (some (.Name y py)) spos.line X.env = pure true) (hi : DI X W tg iter mi) (ok : BlkOk X.N X.env.scope scope own)
    (hg : ∀ (s : Shared) (H : Hp) (C : Addr) (cl : List (Str × Addr)) (fp : List Addr), DG (X.blk s H scope (compEnvC scope cl C X.env) fp) tg t)
    (ht : ∀ (s : Shared) (H : Hp) (C : Addr) (cl : List (Str × Addr)) (fp : List Addr), PTs (X.blk s H scope (compEnvC scope cl C X.env) fp) ifs (tTs X.K tt))
    (he : ∀ (s : Shared) (H : Hp) (C : Addr) (cl : List (Str × Addr)) (fp : List Addr), DE (X.blk s H scope (compEnvC scope cl C X.env) fp) WNo elt me)
    {sl : List Nat} (hsl : ∀ i ∈ slots t, i ∈ sl) (ho : own.map (·.2) = sl := by rfl) (hs : ∀ x, foldedSetIterable iter X.env x = pure x := by intro _; rfl) : DS X W (.Assign [.Name y py] (.ListComp elt [⟨tg, iter, ifs, 0⟩] scope pos) spos) (mSet i (mLc chg mi t tt me sl)) := by
  subst ho
  exact PSi (ps_setLc hc hN hy hyl hsw hi ok hg ht he hs) fun _ _ _ h => setD (fun _ q => lcD hsl q) h
theorem s_par2 {i j : Nat} {x y : Str} {px py pt : Pos} {kt k2 : Nat} {pt2 : Pos} (hc : X.calm = true) (hN : X.N.Nodup) (hi : X.N[i]? = some x) (hj : X.N[j]? = some y) (hij : i ≠ j) (hx : X.env.scope.names.lookup x = some .local) (hy : X.env.scope.names.lookup y = some .local)
    (ha : DA X W [a, b] ms) (hw : swappedStores [.Tuple [.Name x px, .Name y py] kt pt] (.Tuple [a, b] k2 pt2) X.env = pure (some [x, y]))
    (hs : swapsWithSole [.Tuple [.Name x px, .Name y py] kt pt] (.Tuple [a, b] k2 pt2) pos.line X.env = pure false := by rfl) :
    DS X W (.Assign [.Tuple [.Name x px, .Name y py] kt pt] (.Tuple [a, b] k2 pt2) pos) (mPar2 i j ms) := PSi (ps_par hc hN hi hj hij hx hy ha hw hs) fun _ _ _ h => par2D h
theorem s_par3 {i j l : Nat} {x y z : Str} {px py pz pt : Pos} {kt k2 : Nat} {pt2 : Pos} (hc : X.calm = true) (hN : X.N.Nodup) (hi : X.N[i]? = some x) (hj : X.N[j]? = some y) (hl : X.N[l]? = some z) (hij : i ≠ j) (hil : i ≠ l) (hjl : j ≠ l)
    (hx : X.env.scope.names.lookup x = some .local) (hy : X.env.scope.names.lookup y = some .local) (hz : X.env.scope.names.lookup z = some .local)
    (ha : DA X W [a, b, c] ms) (hw : swappedStores [.Tuple [.Name x px, .Name y py, .Name z pz] kt pt] (.Tuple [a, b, c] k2 pt2) X.env = pure (some [x, y, z]))
    (hs : swapsWithSole [.Tuple [.Name x px, .Name y py, .Name z pz] kt pt] (.Tuple [a, b, c] k2 pt2) pos.line X.env = pure false := by rfl) :
    DS X W (.Assign [.Tuple [.Name x px, .Name y py, .Name z pz] kt pt] (.Tuple [a, b, c] k2 pt2) pos) (mPar3 i j l ms) := PSi (ps_par3 hc hN hi hj hl hij hil hjl hx hy hz ha hw hs) fun _ _ _ h => par3D h
/-! ### x += e -/
theorem s_aug {i : Nat} {x : Str} {pos' : Pos} {op : Operator} {f : D → D → AH → Res D} {r : R2} (ho : OpR X (inplaceOp op) r) (hf : OpD X.K f r) (hN : X.N.Nodup) (hi : X.N[i]? = some x) (hx : Loc X.env.scope x) (he : DE X W e me)
    (hx2 : X.fn x = true ∨ X.env.scope.names.lookup x = some .local := by first | exact .inl rfl | exact .inr rfl | assumption) : DS X W (.AugAssign (.Name x pos') op e pos) (mAug i f me) :=
  PSi (ps_aug hN hi hx he (ti := r) (fun pins s σ H x y u v Q I rx ry q => ho pins s σ H x y u v Q I rx ry q) hx2) fun D0 σ H ⟨m, A, ρ, R, E, h⟩ => by
    unfold mAug at h
    split at h
    · rename_i d hd
      obtain ⟨v, h1, h2⟩ := E.2 i d hd
      refine ⟨v, h1, ?_⟩
      have h' : PostS X.K W m H (lift (me ρ A) ρ fun y A1 => lift (f d y A1) ρ fun z A2 => .nx (ρ.set i (some z)) A2) D0 := by
        cases hr : me ρ A with
        | ok y A1 => rw [hr] at h; exact h
        | exc C fs A1 => rw [hr] at h; exact h
        | no => rw [hr] at h; exact h
      refine tE.lift R E h' fun m1 A1 d1 v1 H1 e1 R1 E1 r1 h3 => hf W σ m1 A1 H1 v v1 d d1 _ R1 (RD.mono e1 _ _ h2) r1 (post_lift E1 h3 fun m2 A2 d2 v2 H2 e2 R2 r2 h4 => PostS.nx R2 ((E1.mono e2).set r2 i) h4)
    · exact h.elim
end
/-! ### defs -/
def spD (K : PySem.W.Frag) (n : Nat) (mf : List D → AH → Res D) : Sp := fun vs H Q E => vs.length = n ∧ ∃ m A ds, Rel K m A H ∧ RDs K m H ds vs ∧ Post K (RD K) (fun c d _ H' => E c d H') [] m H (mf ds A) Q
structure FnD (P : Program) (w : World) (K : PySem.W.Frag) (mg : Str → Option Value) (base : Heap) (k : Nat) (f : Addr) (fd : FuncData) (ps : List Str) (mf : List D → AH → Res D) : Prop where
  run : ∀ (A : Around) (outer : List PySem.Env) (s : Shared) (H : Hp) (args : Args) (us : List Value) (vs : List V) (Q : VK) (E : XK), Room k A → A.guards = some [] → Env0 P w K mg base A outer s H → BindsTo s fd args (ps.zip us) → Vals vs us →
    spD K ps.length mf vs H Q E → codeAny (model P w) A (.call (.ref f) args) (CR (L2.CX P w) outer P w H s Q E) s
def mFun (n : Nat) (ms : MS) : List D → AH → Res D := fun ds A => match ms (ds.map some ++ List.replicate (n - ds.length) none) A with
  | .nx _ A1 => .ok .non A1
  | .rt d A1 => .ok d A1
  | .exc C fs _ A1 => .exc C fs A1
  | .bk _ _ => .no
  | .ct _ _ => .no
  | .no => .no
theorem start_rel {K : PySem.W.Frag} {m : Mp} {H : Hp} {ds : List D} {vs : List V} {N : List Str} (r : RDs K m H ds vs) : REnv K m H (ds.map some ++ List.replicate (N.length - ds.length) none) (L2.start N vs) := by
  unfold L2.start
  refine ⟨by rw [List.length_append, List.length_append, List.length_map, List.length_map, List.length_replicate, List.length_replicate, r.length], fun i d h => ?_⟩
  by_cases hi : i < ds.length
  · rw [List.getElem?_append_left (by rw [List.length_map]; exact hi), List.getElem?_map] at h
    cases hd : ds[i]? with
    | none => rw [hd] at h; cases h
    | some d' =>
      rw [hd] at h
      cases h
      obtain ⟨v, h1, h2⟩ := r.get hd
      exact ⟨v, by rw [List.getElem?_append_left (by rw [List.length_map, ← r.length]; exact hi), List.getElem?_map, h1]; rfl, h2⟩
  · rw [List.getElem?_append_right (by rw [List.length_map]; omega), List.getElem?_replicate] at h
    split at h <;> cases h
section
variable {P : Program} {w : World} {K : PySem.W.Frag} {mg : Str → Option Value} {base : Heap}
/-- a def by its body -/
theorem FnD.of {x qual : Str} {st : Stmt} {f : Addr} {fd : FuncData} {N ps : List Str} {k : Nat} {ms : MS} (F : Fun K x qual st f fd) (S : FnScope N ps (defScope st))
    (hb : ∀ (cdv : Value) (A : Around) (outer : List PySem.Env) (s : Shared) (H : Hp) (E : XK), Room k (A.deeper (envOfC qual (defScope st) s.heap.objs.size f cdv)) → (A.deeper (envOfC qual (defScope st) s.heap.objs.size f cdv)).guards = some [] →
      Takes (cxOf (L2.CX P w) P w K mg base N qual (defScope st) f cdv A outer s H E) (fun c d _ H' => E c d H') →
      PassesOwn (model P w) (A.deeper (envOfC qual (defScope st) s.heap.objs.size f cdv)) (envOfC qual (defScope st) s.heap.objs.size f cdv) (cxOf (L2.CX P w) P w K mg base N qual (defScope st) f cdv A outer s H E).xe → DSs (cxOf (L2.CX P w) P w K mg base N qual (defScope st) f cdv A outer s H E) (fun c d _ H' => E c d H') (defBody st) ms) {n : Nat} (hn : N.length = n := by rfl) : FnD P w K mg base (k + 1) f fd ps (mFun n ms) := by
  subst hn
  obtain ⟨oc, od, kV, doc, pm, an, cdv, ct, osl, rfl, lk, hcd⟩ := F.ex
  refine ⟨fun A outer s H args us vs Q E room gd en bi rel hsp => ?_⟩
  obtain ⟨hlen, m, AA, ds, R, rds, post⟩ := hsp
  have kin : K.In s.heap := en.mod.kin.keeps fun b o h => (en.bs b o h).1
  have nolim : s.heap.NoLimit := en.mod.nolimit.keeps fun b o h => (en.bs b o h).1
  have kinds : ∀ y ∈ ps.zip us, (defScope st).names.lookup y.1 = some .local ∨ ((defScope st).names.lookup y.1 = some .cell ∧ ((cellsFrom (s.heap.objs.size + 1) (defScope st).names []).lookup y.1).isSome = true) := by
    rintro ⟨n, v⟩ hy
    rcases S.par n (List.of_mem_zip hy).1 with z | z
    · exact .inl z
    · exact .inr ⟨z, PySem.W.cellsFrom_some _ _ _ (.inl z)⟩
  refine codeAny_call_function room.depth (kin _ _ lk) rfl S.co S.gen rfl (PySem.W.codeRec_of kin hcd) (bi _ _ _ _ (wpAny_newFunctionEnv_cells S.kind kinds fun env henv s1 hx => ?_))
  subst henv
  refine ⟨nolim.keeps hx.toInCall.keep, codeAny_func ?_⟩
  have body := hb cdv A outer s H E (room.deeper _) gd (takes_of rfl rfl rfl rfl) (passes_of rfl)
  have I := inv_start (CX := L2.CX P w) (E := E) S room.hd en hlen rel hx
  have want : tS K (fun c d _ H' => E c d H') ms { nx := fun _ H' => Q .non H', rt := Q } (L2.start N vs) H := by
    refine ⟨m, AA, _, R, start_rel (N := N) rds, ?_⟩
    unfold mFun at post
    cases hr : ms (ds.map some ++ List.replicate (N.length - ds.length) none) AA with
    | nx ρ1 A1 => rw [hr] at post; exact fun m' H' σ' e1 R1 _ => post m' H' .non e1 R1 .non
    | rt d A1 => rw [hr] at post; exact fun m' H' v e1 R1 r1 => post m' H' v e1 R1 r1
    | exc C fs ρ1 A1 => rw [hr] at post; exact fun m' H' dx gs σ' e1 R1 _ hd hf => post m' H' dx gs e1 R1 hd hf
    | bk ρ1 A1 => rw [hr] at post; exact post.elim
    | ct ρ1 A1 => rw [hr] at post; exact post.elim
    | no => rw [hr] at post; exact post.elim
  have back : ∀ {σ' : L2.St} {H' : Hp} {v : V} {u : Value} {s' : Shared}, Inv (cxOf (L2.CX P w) P w K mg base N qual (defScope st) f cdv A outer s H E) [] σ' H' s' → RelV v u → Q v H' → CE outer P w H s Q u s' :=
    fun J ru q => ⟨_, _, J.os, J.bare, J.base, J.hok, ru, q⟩
  refine wpAny_mono (body.run [] s1 (L2.start N vs) H _ I want) (fun fl s' z => ?_) fun _ _ z => z
  cases fl with
  | next =>
    obtain ⟨_, _, J, q⟩ := z
    exact back (v := V.non) (u := Value.none) J rfl q
  | ret u =>
    obtain ⟨_, _, _, J, ru, q⟩ := z
    exact back J ru q
  | brk =>
    obtain ⟨_, _, _, q⟩ := z
    exact q.elim
  | cont =>
    obtain ⟨_, _, _, q⟩ := z
    exact q.elim
theorem FnD.up {j k : Nat} {f : Addr} {fd : FuncData} {ps : List Str} {mf : List D → AH → Res D} (F : FnD P w K mg base j f fd ps mf) (h : j ≤ k) : FnD P w K mg base k f fd ps mf :=
  ⟨fun A outer s H args us vs Q E hr => F.run A outer s H args us vs Q E (hr.mono h)⟩
end
/-! ### calls -/
def mCallF (n : Nat) (mf : List D → AH → Res D) (ms : MA) : ME := fun ρ A => (ms ρ A).bind fun ds A1 => if ds.length = n then mf ds A1 else .no
section
variable {X : Cx} {W : WX} {k : Nat} {f : Addr} {fd : FuncData} {ps ks : List Str} {mf : List D → AH → Res D} {x : Str} {p pos kpos : Pos} {e : Expr} {es : List Expr} {ms mk : MA} {me : ME} {kws : List Keyword} {nm : Option Str}
theorem run_D {pins : List (Addr × Obj)} {σ : L2.St} {H : Hp} {s : Shared} {Q : VK} {us : List Value} {vs : List V} {args : Args} (F : FnD X.prog X.w X.K X.mg X.base k f fd ps mf) (hr : Room k X.A) (gd : X.A.guards = some []) (tk : Takes X W)
    (I : Inv X pins σ H s) (bi : BindsTo s fd args (ps.zip us)) (r : Vals vs us) (h : spD X.K ps.length mf vs H Q (WE W σ)) : codeAny (model X.prog X.w) X.A (.call (.ref f) args) (fun r s' => match r with
      | .ok (.ret u) => EP X pins σ Q u s'
      | .ok _ => False
      | .error z => X.xe z s') s := by
  refine codeAny_mono (F.run X.A X.stack s H args us vs Q (WE W σ) hr gd I.env0 bi r h) fun r s' hq => ?_
  cases r with
  | error z => exact passAt tk σ pins H s z s' I hq
  | ok fl =>
    cases fl with
    | ret u => exact I.after hq
    | next => exact hq
    | brk => exact hq
    | cont => exact hq
theorem call_D {pins : List (Addr × Obj)} {σ : L2.St} {s : Shared} {Q : VK} {us : List Value} {kw : List (Str × Value)} (h : codeAny (model X.prog X.w) X.A (.call (.ref f) ⟨us, kw⟩) (fun r s' => match r with
      | .ok (.ret u) => EP X pins σ Q u s'
      | .ok _ => False
      | .error z => X.xe z s') s) : wpAny (model X.prog X.w) X.A (call (.ref f) us kw) (EP X pins σ Q) X.xe s := by
  refine wpAny_call (codeAny_mono h fun r s' z => ?_)
  cases r with
  | error y => exact z
  | ok fl => cases fl <;> first | exact z | exact z.elim
/-- f(a, ..) -/
theorem d_call (F : FnD X.prog X.w X.K X.mg X.base k f fd ps mf) (hr : Room k X.A) (gd : X.A.guards = some []) (tk : Takes X W) (hm : X.mg x = some (.ref f)) (hk : PySem.W.keepIn X.K (.ref f) = true) (hb : Binds X.K fd ps []) (ha : DA X W (e :: es) ms) {n : Nat} (hn : ps.length = n := by rfl)
    (hg : Gl X x := by rfl) (hdb : (x == ("__debug__" : Str)) = false := by decide) (he : starEach (e :: es) X.env = (false, eval e X.env) :: starEach es X.env := by rfl) (hpl : (backTo pos (starEach es X.env)).any (·.1) = false := by rfl) :
    DE X W (.Call (.Name x p) (e :: es) [] pos) (mCallF n mf ms) := by
  subst hn
  refine ⟨fun pins s σ H Q I ⟨m, A, ρ, R, E, h⟩ => wpAny_Call_Name_kw (ld_glob I hg hm (PySem.W.callWith_K (h₀ := X.base) I.ok.mod.kin hk (thn (ha.run pos pins s σ H _ I (tA.bind (T := fun vs H1 => spD X.K ps.length mf vs H1 Q (WE W σ)) R E h fun m1 A1 ds vs H1 e1 R1 E1 r1 h1 => ?_)) fun us s1 ⟨vs, H1, I1, r, q⟩ => ⟨I1.kIn, call_D ?_⟩) he hpl) hdb)⟩
  · split at h1
    · rename_i hl
      exact ⟨by rw [← r1.length]; exact hl, m1, A1, ds, R1, r1, by
        cases hz : mf ds A1 with
        | ok d A2 => rw [hz] at h1; exact h1
        | exc C fs A2 => rw [hz] at h1; exact h1
        | no => rw [hz] at h1; exact h1⟩
    · exact h1.elim
  · have b := hb s1 us I1.kIn (by rw [List.append_nil, ← r.length]; exact q.1)
    rw [List.append_nil] at b
    exact run_D F hr gd tk I1 b r q
/-- f() -/
theorem d_call0 (F : FnD X.prog X.w X.K X.mg X.base k f fd ps mf) (hr : Room k X.A) (gd : X.A.guards = some []) (tk : Takes X W) (hm : X.mg x = some (.ref f)) (hk : PySem.W.keepIn X.K (.ref f) = true) (hb : Binds X.K fd ps []) {n : Nat} (hn : ps.length = n := by rfl)
    (hg : Gl X x := by rfl) (hdb : (x == ("__debug__" : Str)) = false := by decide) : DE X W (.Call (.Name x p) [] [] pos) (mCallF n mf mNil) := by
  subst hn
  refine ⟨fun pins s σ H Q I ⟨m, A, ρ, R, E, h⟩ => wpAny_Call_Name_kw (ld_glob I hg hm (PySem.W.callWith_K0 I.kIn hk (call_D ?_)) hdb)⟩
  have h' : Post X.K (RD X.K) W σ m H (if ([] : List D).length = ps.length then mf [] A else .no) Q := h
  split at h'
  · rename_i hl
    have b := hb s [] I.kIn (by rw [List.append_nil]; exact hl)
    rw [List.append_nil] at b
    exact run_D F hr gd tk I b .nil ⟨hl, m, A, [], R, .nil, by
        cases hz : mf [] A with
        | ok d A2 => rw [hz] at h'; exact h'
        | exc C fs A2 => rw [hz] at h'; exact h'
        | no => rw [hz] at h'; exact h'⟩
  · exact h'.elim
/-- keywords -/
abbrev DK (X : Cx) (W : WX) (kws : List Keyword) (mk : MA) : Prop := PK X kws (tA X.K W mk)
theorem k_nil : DK X W [] mNil := ⟨fun pos pins s σ H Q I ⟨m, A, ρ, R, E, h⟩ => pk_nil.run pos pins s σ H Q I (Post.here R .nil h)⟩
theorem k_cons (ha : DE X W e me) (hr : DK X W kws mk) : DK X W (⟨nm, e, kpos⟩ :: kws) (mCons me mk) :=
  ⟨fun pos pins s σ H Q I ⟨m, A, ρ, R, E, h⟩ => (pk_cons ha hr).run pos pins s σ H Q I (tE.bind R E h fun m1 A1 d v H1 e1 R1 E1 r1 h1 => tA.bind R1 E1 h1 fun m2 A2 ds vs H2 e2 R2 E2 r2 h2 => Post.here R2 (.cons (RD.mono e2 _ _ r1) r2) h2)⟩
def pick {α : Type} (pm : List Nat) (xs : List α) : List α := pm.filterMap fun i => xs[i]?
theorem RDs.pick {K : PySem.W.Frag} {m : Mp} {H : Hp} {ds : List D} {vs : List V} (r : RDs K m H ds vs) : ∀ pm : List Nat, RDs K m H (DM.pick pm ds) (DM.pick pm vs)
  | [] => .nil
  | i :: pm => by
    have ih := RDs.pick r pm
    unfold DM.pick at ih ⊢
    rw [List.filterMap_cons, List.filterMap_cons]
    cases hd : ds[i]? with
    | none =>
      have : vs[i]? = none := List.getElem?_eq_none (by rw [← r.length]; exact List.getElem?_eq_none_iff.mp hd)
      rw [this]; exact ih
    | some d =>
      obtain ⟨v, h1, h2⟩ := r.get hd
      rw [h1]; exact .cons h2 ih
theorem Vals.pick {vs : List V} {us : List Value} (r : Vals vs us) : ∀ pm : List Nat, Vals (DM.pick pm vs) (DM.pick pm us)
  | [] => .nil
  | i :: pm => by
    have ih := Vals.pick r pm
    unfold DM.pick at ih ⊢
    rw [List.filterMap_cons, List.filterMap_cons]
    cases hd : vs[i]? with
    | none =>
      have : us[i]? = none := L2.Vals.none_of r hd
      rw [this]; exact ih
    | some v =>
      obtain ⟨u, h1, h2⟩ := L2.Vals.get r hd
      rw [h1]; exact .cons h2 ih
def KB (K : PySem.W.Frag) (fd : FuncData) (ps : List Str) (n : Nat) (ks : List Str) (pm : List Nat) : Prop := ∀ (s : Shared) (us ws : List Value), K.In s.heap → us.length = n → ws.length = ks.length → BindsTo s fd ⟨us, ks.zip ws⟩ (ps.zip (DM.pick pm (us ++ ws)))
def mCallK (n l a : Nat) (pm : List Nat) (mf : List D → AH → Res D) (ms mk : MA) : ME := fun ρ A => (ms ρ A).bind fun ds A1 => (mk ρ A1).bind fun es A2 => if ds.length = n ∧ es.length = l ∧ (DM.pick pm (ds ++ es)).length = a then mf (DM.pick pm (ds ++ es)) A2 else .no
theorem d_callK0 {pm : List Nat} (F : FnD X.prog X.w X.K X.mg X.base k f fd ps mf) (hr : Room k X.A) (gd : X.A.guards = some []) (tk : Takes X W) (hm : X.mg x = some (.ref f)) (hk : PySem.W.keepIn X.K (.ref f) = true) (hb : KB X.K fd ps 0 ks pm) (hkw : DK X W kws mk) {l n : Nat} (hl : ks.length = l := by rfl) (hn : ps.length = n := by rfl)
    (hg : Gl X x := by rfl) (hall : (backToKw pos (keywordEach kws X.env)).all (·.1.isSome) = true := by rfl) (hks : (backToKw pos (keywordEach kws X.env)).filterMap (·.1) = ks := by rfl) (hdb : (x == ("__debug__" : Str)) = false := by decide)
    (hpl : ((backTo pos (starEach [] X.env)).any (·.1) || (backToKw pos (keywordEach kws X.env)).any (·.1.isNone)) = false := by rfl) : DE X W (.Call (.Name x p) [] kws pos) (mCallK 0 l n pm mf mNil mk) := by
  subst hl hn
  refine ⟨fun pins s σ H Q I ⟨m, A, ρ, R, E, h⟩ => wpAny_Call_Name_kw (ld_glob I hg hm (PySem.W.callWith_KW0 (h₀ := X.base) I.ok.mod.kin hk hall (thn (hkw.run pos pins s σ H (fun zs H1 => zs.length = ks.length ∧ spD X.K ps.length mf (DM.pick pm zs) H1 Q (WE W σ)) I (tA.bind R E (show Post X.K (RD X.K) W σ m H ((mk ρ A).bind fun es A2 => if ([] : List D).length = 0 ∧ es.length = ks.length ∧ (DM.pick pm ([] ++ es)).length = ps.length then mf (DM.pick pm ([] ++ es)) A2 else .no) Q from h) fun m1 A1 ds vs H1 e1 R1 E1 r1 h1 => ?_)) fun ws s2 ⟨zs, H2, I2, rz, hl, q⟩ => ⟨I2.kIn, ?_⟩) hpl) hdb)⟩
  · split at h1
    · rename_i hl
      refine ⟨by rw [← r1.length]; exact hl.2.1, by rw [← (r1.pick pm).length]; exact hl.2.2, m1, A1, _, R1, r1.pick pm, ?_⟩
      rw [List.nil_append] at h1
      cases hz : mf (DM.pick pm ds) A1 with
      | ok d A2 => rw [hz] at h1; exact h1
      | exc C fs A2 => rw [hz] at h1; exact h1
      | no => rw [hz] at h1; exact h1
    · exact h1.elim
  · rw [hks]
    exact call_D (run_D F hr gd tk I2 (hb s2 [] ws I2.kIn rfl (by rw [← L2.Vals.length rz]; exact hl)) (Vals.pick rz pm) q)
theorem d_callK {pm : List Nat} {n : Nat} (F : FnD X.prog X.w X.K X.mg X.base k f fd ps mf) (hr : Room k X.A) (gd : X.A.guards = some []) (tk : Takes X W) (hm : X.mg x = some (.ref f)) (hk : PySem.W.keepIn X.K (.ref f) = true) (hb : KB X.K fd ps n ks pm) (ha : DA X W (e :: es) ms) (hkw : DK X W kws mk) {l n2 : Nat} (hl : ks.length = l := by rfl) (hn : ps.length = n2 := by rfl)
    (hg : Gl X x := by rfl) (hall : (backToKw pos (keywordEach kws X.env)).all (·.1.isSome) = true := by rfl) (hks : (backToKw pos (keywordEach kws X.env)).filterMap (·.1) = ks := by rfl) (hdb : (x == ("__debug__" : Str)) = false := by decide) (he : starEach (e :: es) X.env = (false, eval e X.env) :: starEach es X.env := by rfl)
    (hpl : ((backTo pos (starEach (e :: es) X.env)).any (·.1) || (backToKw pos (keywordEach kws X.env)).any (·.1.isNone)) = false := by rfl) : DE X W (.Call (.Name x p) (e :: es) kws pos) (mCallK n l n2 pm mf ms mk) := by
  subst hl hn
  refine ⟨fun pins s σ H Q I ⟨m, A, ρ, R, E, h⟩ => wpAny_Call_Name_kw (ld_glob I hg hm (PySem.W.callWith_KW (h₀ := X.base) I.ok.mod.kin hk hall (thn (ha.run pos pins s σ H (fun us H1 => tA X.K W mk σ H1 fun zs H2 => us.length = n ∧ zs.length = ks.length ∧ spD X.K ps.length mf (DM.pick pm (us ++ zs)) H2 Q (WE W σ)) I (tA.bind R E h fun m1 A1 ds vs H1 e1 R1 E1 r1 h1 => tA.bind R1 E1 h1 fun m2 A2 es vs2 H2 e2 R2 E2 r2 h2 => ?_)) fun us s1 ⟨vs, H1, I1, r, q⟩ => thn (hkw.run pos pins s1 σ H1 _ I1 q) fun ws s2 ⟨zs, H2, I2, rz, l1, l2, q2⟩ => ⟨I2.kIn, ?_⟩) hpl he) hdb)⟩
  · split at h2
    · rename_i hl
      have rr := (RDs.mono e2 _ _ r1).append r2
      refine ⟨by rw [← r1.length]; exact hl.1, by rw [← r2.length]; exact hl.2.1, by rw [← (rr.pick pm).length]; exact hl.2.2, m2, A2, _, R2, rr.pick pm, ?_⟩
      cases hz : mf (DM.pick pm (ds ++ es)) A2 with
      | ok d A2 => rw [hz] at h2; exact h2
      | exc C fs A2 => rw [hz] at h2; exact h2
      | no => rw [hz] at h2; exact h2
    · exact h2.elim
  · rw [hks]
    exact call_D (run_D F hr gd tk I2 (hb s2 us ws I2.kIn (by rw [← L2.Vals.length r]; exact l1) (by rw [← L2.Vals.length rz]; exact l2)) (Vals.pick (L2.Vals.append r rz) pm) q2)
end
end DM
end
section
set_option maxHeartbeats 2000000
namespace DM
open PySem PySem.Spec PyProof.Rows L2
/-! ### the law's call -/
theorem rd_ints {K : PySem.W.Frag} {m : Mp} {H : Hp} : ∀ ns : List Int, RDs K m H (ns.map D.int) (ns.map V.int)
  | [] => .nil
  | n :: ns => .cons (.int n) (rd_ints ns)
theorem law_run {P : Program} {w : World} {K : PySem.W.Frag} {mg mb : Str → Option Value} {k : Nat} {fa a : Addr} {fd : FuncData} {x : Str} {s : Shared} {us : List Value} {ns : List Int}
    (kin : K.In s.heap) (gl : s.heap.Ns mainGlobals mg) (bl : s.heap.Ns builtinsNs mb) (bb : ∀ y : Str, y ≠ "__name__" → mb y = bootBuiltins y) (nl : s.heap.NoLimit) (ge : s.gens = #[])
    (ho : s.heap.get? a = some { cls := .type "list", data := .seq us.toArray }) (ia : IntsAre us ns) (hn : ns.length ≤ sizeLine) (room : Room k callerA)
    (F : ∀ base : Heap, K.In base → base.Ns mainGlobals mg → ∃ (mf : List D → AH → Res D) (AE : AH), mf [.lst (ns.map D.int)] [] = .ok (.bl true) AE ∧ FnD P w K mg base k fa fd [x] mf) (bi : ∀ (t : Shared) (u : Value), BindsTo t fd ⟨[u], []⟩ [(x, u)]) :
    codeAny (model P w) callerA (.call (.ref fa) ⟨[.ref a], []⟩) (fun r s' => r = .ok (.ret (.bool true)) ∧ OldK s.heap s'.heap ∧ s'.os = s.os ∧ AllBare s'.gens) s := by
  have vi := L2.vals_ints ia
  -- the script is all that may be told of
  suffices go : ∀ H : Hp, (∀ b, H b = none ∨ (b = a ∧ K.lookup a = none ∧ ∃ o, H b = some (.frz o (.lst (ns.map V.int))))) → SqL K H a (ns.map V.int) → HOk P w H s.heap →
      codeAny (model P w) callerA (.call (.ref fa) ⟨[.ref a], []⟩) (fun r s' => r = .ok (.ret (.bool true)) ∧ OldK s.heap s'.heap ∧ s'.os = s.os ∧ AllBare s'.gens) s by
    cases hk : K.lookup a with
    | some o =>
      have e := kin a o hk
      rw [ho] at e
      cases e
      refine go (fun _ => none) (fun _ => .inl rfl) (.inr ⟨_, us.toArray, _, hk, rfl, rfl, rfl, ?_, ?_⟩) fun b u z => nomatch z
      · rw [List.size_toArray, ia.length]; exact hn
      · rw [List.toList_toArray]; exact vi
    | none =>
      have at_a : (if a = a then some (HO.frz { cls := .type "list", data := .seq us.toArray } (.lst (ns.map V.int))) else none) = some (HO.frz { cls := .type "list", data := .seq us.toArray } (.lst (ns.map V.int))) := if_pos rfl
      refine go (fun b => if b = a then some (.frz { cls := .type "list", data := .seq us.toArray } (.lst (ns.map V.int))) else none) (fun b => ?_) (.inl (.inr ⟨_, at_a⟩)) fun b u z => ?_
      · by_cases hb : b = a
        · exact .inr ⟨hb, hk, _, if_pos hb⟩
        · exact .inl (if_neg hb)
      · by_cases hb : b = a
        · subst hb
          have z := at_a.symm.trans z
          cases z
          exact ⟨ho, by rw [List.length_map]; exact hn, us, _, vi, ho⟩
        · have z' := (if_neg hb).symm.trans z
          cases z'
  intro H only hS hok
  have free : ∀ {b : Addr} {o : Obj}, s.heap.get? b = some o → (∀ l n, o.data ≠ .seq l n) → H b = none := fun {b o} h hd => by
    rcases only b with z | ⟨rfl, _, _, _⟩
    · exact z
    · rw [ho] at h
      cases h
      exact (hd _ _ rfl).elim
  have nsb : ∀ {b : Addr} {m : Str → Option Value}, s.heap.Ns b m → (hidT s.heap H).Ns b m := fun {b m} z => by
    obtain ⟨o, es, ep, h1, h2, h3⟩ := z
    exact ⟨o, es, ep, hidT_get h1 (free h1 fun l n y => by rw [h2] at y; cases y), h2, h3⟩
  have kb : K.In (hidT s.heap H) := fun b o h => hidT_get (kin b o h) (by
    rcases only b with z | ⟨rfl, hk, _⟩
    · exact z
    · rw [hk] at h; cases h)
  have en : Env0 P w K mg (hidT s.heap H) callerA [] s H := by
    obtain ⟨mc, h1, h2⟩ := nl
    exact { frames := rfl, mod := ⟨kb, nsb gl, ⟨mb, nsb bl, bb⟩, mc, nsb h1, h2⟩, bs := fun b o h => of_hidT h, bsz := Nat.le_of_eq (hidT_size _ _), funs := trivial, frf := fun b hb => (nomatch hb), hok := hok, bare := .of_eq ge }
  obtain ⟨mf, AE, law, FF⟩ := F _ kb (nsb gl)
  have R0 : Rel K ([], []) [] H := ⟨rfl, List.nodup_nil, fun p hp => (nomatch hp), fun n o h => by simp at h⟩
  have pre : spD K [x].length mf [.ref a] H (fun v _ => v = .bl true) fun _ _ _ => False := by
    refine ⟨rfl, ([], []), [], [.lst (ns.map D.int)], R0, .cons (.lst ?_ (rd_ints ns)) .nil, ?_⟩
    · rcases hS with z | z
      · exact .inl ⟨z, ⟨(List.not_mem_nil ·), (List.not_mem_nil ·)⟩⟩
      · exact .inr z
    · rw [law]
      intro m' H' v _ _ r
      cases r
      rfl
  refine codeAny_mono (FF.run callerA [] s H ⟨[.ref a], []⟩ [.ref a] [.ref a] _ _ room rfl en (bi s (.ref a)) (.cons rfl .nil) pre) fun r s' h => ?_
  cases r with
  | error z =>
    obtain ⟨_, _, _, _, _, _, _, _, _, _, _, _, y⟩ := h
    exact y.elim
  | ok fl =>
    cases fl with
    | ret u =>
      obtain ⟨v, H', os, bare, un, hok', rv, q⟩ := h
      have q' : v = .bl true := q
      subst q'
      cases rv
      refine ⟨rfl, OldK.of_keep fun b o h => ?_, os, bare⟩
      rcases only b with z | ⟨_, _, ob, z⟩
      · exact un.keep b o h z (fun y => nomatch y) fun y => nomatch y
      · have z2 := un.frzs b ob _ z
        obtain ⟨e1, _⟩ := hok b _ z
        obtain ⟨e2, _⟩ := hok' b _ z2
        rw [h] at e1
        cases e1
        exact e2
    | next => exact h.elim
    | brk => exact h.elim
    | cont => exact h.elim
/-- the end of a law's row -/
theorem law_walk {l : PySem.W.OpenLaw} {n k : Nat} {q : Program} {loose : List Str} {XP : (Str → Option Value) → Heap → Prop} {YP : World → Heap → Prop} {d : DefRec} {K : Params → PySem.W.Frag} {x : Str}
    (hn : l.most = some n) (hz : n ≤ sizeLine) (hdf : d.params.defaults = []) (room : Room k callerA) (hY : ∀ (w : World) (h : Heap), YP w h → (K w.params).In h)
    (F : ∀ (w : World) (mg : Str → Option Value) (fa : Addr) (h : Heap), (K w.params).In h → h.Ns mainGlobals mg → mg d.name = some (.ref fa) →
      ∃ fd : FuncData, (∀ (s : Shared) (u : Value), BindsTo s fd ⟨[u], []⟩ [(x, u)]) ∧ ∀ base : Heap, (K w.params).In base → base.Ns mainGlobals mg → ∀ ns : List Int, ns.length ≤ n →
        ∃ (mf : List D → AH → Res D) (AE : AH), mf [.lst (ns.map D.int)] [] = .ok (.bl true) AE ∧ FnD l.prog w (K w.params) mg base k fa fd [x] mf) :
    PySem.W.WalkO q loose XP YP l.row.toRowW d [] (fun f vs => PySem.call f vs) := by
  refine Att.attach_call hn hdf fun w s0 s1 mg mb fa o pm cd doc a us ns G Y ha hb hc hm hobj hi hlen hg => ?_
  have kin := hY w _ Y
  obtain ⟨fd, bi, hF⟩ := F w mg fa _ kin G.T.g hm
  exact law_run kin G.T.g G.T.b G.T.builtins G.T.nolimit hg hobj hi (Nat.le_trans hlen hz) room (fun base h1 h2 => hF base h1 h2 ns hlen) bi
end DM
end
section
set_option maxHeartbeats 2000000
namespace DM
open PySem PySem.Spec PyProof.Rows L2
section
variable {X : Cx} {W : WX} {a b c e o i tg iter elt : Expr} {es ifs : List Expr} {ma mb mc me mo mi : ME} {pos p p2 tpos : Pos}
/-- o[i] = e, o a changing list -/
def mSto (me mo mi : ME) : MS := fun ρ A => lift (me ρ A) ρ fun v A1 => lift (mo ρ A1) ρ fun o A2 => lift (mi ρ A2) ρ fun i A3 => match o, i with
  | .ref n, .int k => (match A3[n]? with
    | some (.lst xs) => (match ixN xs.length k with
      | some j => .nx ρ (A3.set n (.lst (xs.set j v)))
      | none => .no)
    | none => .no)
  | _, _ => .no
theorem s_setI (he : DE X W e me) (hg : PG X (.Subscript o i tpos) (gSub (tE X.K W mo) (tE X.K W mi) rSetL))
    (hs : swapsWithSole [.Subscript o i tpos] e pos.line X.env = pure false := by rfl) (hw : swappedStores [.Subscript o i tpos] e X.env = pure none := by rfl) (h1 : (assignEach [.Subscript o i tpos] X.env).map (·.2) = [assign (.Subscript o i tpos) X.env] := by rfl) :
    DS X W (.Assign [.Subscript o i tpos] e pos) (mSto me mo mi) := by
  refine PSi (ps_asg he hg hs hw h1) fun D0 σ H ⟨m, A, ρ, R, E, h⟩ => tE.lift R E h fun m1 A1 d v H1 e1 R1 E1 r1 h1 => tE.lift R1 E1 h1 fun m2 A2 d2 v2 H2 e2 R2 E2 r2 h2 => tE.lift R2 E2 h2 fun m3 A3 d3 v3 H3 e3 R3 E3 r3 h3 => ?_
  split at h3
  · rename_i n k
    cases r3
    cases r2 with
    | ref hm =>
      rename_i q
      have hm3 := e3.get hm
      split at h3
      · rename_i xs hA
        obtain ⟨us, h4, rs⟩ := R3.lst hm3 hA
        split at h3
        · rename_i j hj
          refine ⟨q, us, k, j, rfl, rfl, h4, by rw [← rs.length]; exact hj, ?_⟩
          obtain ⟨R4, e4⟩ := R3.write (H' := upd H3 q (.lst (us.set j v))) (o := .lst (xs.set j d)) hm3 (fun p u hp z => by rw [upd_ne hp]; exact z) fun e => ⟨_, upd_same, RDs.mono e _ _ (rs.set (RD.mono (e2.trans e3) _ _ r1) j)⟩
          exact PostS.nx R4 (E3.mono e4) (PostS.mono e4 h3)
        · exact h3.elim
      · exact h3.elim
  · exact h3.elim
theorem fSub_ok {K : PySem.W.Frag} : OpD K fSub (rI0 fun i j => .int (i - j)) := fI0_ok fun _ _ _ _ => .int _
def fAdd0 : D → D → AH → Res D := fun d e A => match d, e with
  | .int i, .int j => .ok (.int (i + j)) A
  | .str x, .str y => if x.length + y.length ≤ 16777216 then .ok (.str (x ++ y)) A else .no
  | _, _ => .no
theorem fAdd0_ok {K : PySem.W.Frag} : OpD K fAdd0 (fun x y H Q => rI0 (fun i j => .int (i + j)) x y H Q ∨ (∃ i j, x = .str i ∧ y = .str j ∧ i.length + j.length ≤ sizeLine ∧ Q (.str (i ++ j)) H)) := by
  intro W σ m A H x y d e Q R hx hy h
  unfold fAdd0 at h
  split at h
  · cases hx; cases hy
    exact .inl ⟨_, _, rfl, rfl, Post.here R (.int _) h⟩
  · cases hx; cases hy
    split at h
    · rename_i hz
      exact .inr ⟨_, _, rfl, rfl, by rw [sizeLine_eq]; exact hz, Post.here R (.str _) h⟩
    · exact h.elim
  · exact h.elim
theorem ia_add {i : Nat} {x : Str} {pos' : Pos} (hN : X.N.Nodup) (he : DE X W e me) (hi : X.N[i]? = some x := by rfl) (hx : Loc X.env.scope x := by first | exact Or.inl rfl | exact Or.inr rfl) (hx2 : X.fn x = true ∨ X.env.scope.names.lookup x = some .local := by first | exact .inl rfl | exact .inr rfl | assumption) :
    DS X W (.AugAssign (.Name x pos') .Add e pos) (mAug i fAdd0 me) := s_aug (iop_add.or iop_add_str) fAdd0_ok hN hi hx he hx2
theorem ia_sub {i : Nat} {x : Str} {pos' : Pos} (hN : X.N.Nodup) (he : DE X W e me) (hi : X.N[i]? = some x := by rfl) (hx : Loc X.env.scope x := by first | exact Or.inl rfl | exact Or.inr rfl) (hx2 : X.fn x = true ∨ X.env.scope.names.lookup x = some .local := by first | exact .inl rfl | exact .inr rfl | assumption) :
    DS X W (.AugAssign (.Name x pos') .Sub e pos) (mAug i fSub me) := s_aug iop_sub fSub_ok hN hi hx he hx2
end
/-! ### a promise made simpler: what is left over of new objects is dropped -/
mutual
def clo (n : Nat) : D → Prop
  | .ref k => k < n
  | .tup xs => clos n xs
  | .lst xs => clos n xs
  | .non => True
  | .bl _ => True
  | .int _ => True
  | .str _ => True
  | .ty _ => True
  | .abs _ => True
def clos (n : Nat) : List D → Prop
  | [] => True
  | x :: xs => clo n x ∧ clos n xs
end
def cloO (n : Nat) : AO → Prop
  | .lst xs => clos n xs
def ClosedA (A : AH) : Prop := ∀ o ∈ A, cloO A.length o
mutual
theorem RD.clo {K : PySem.W.Frag} {m : Mp} {H : Hp} : ∀ (d : D) (v : V), RD K m H d v → DM.clo m.1.length d
  | .non, _, _ => trivial
  | .bl b, _, _ => trivial
  | .int i, _, _ => trivial
  | .str x, _, _ => trivial
  | .ty x, _, _ => trivial
  | .abs x, _, _ => trivial
  | .ref n, _, h => by cases h with | ref h => exact (List.getElem?_eq_some_iff.mp h).1
  | .tup xs, _, h => by cases h with | tup _ r => exact RDs.clos xs _ r
  | .lst xs, _, h => by cases h with | lst _ r => exact RDs.clos xs _ r
theorem RDs.clos {K : PySem.W.Frag} {m : Mp} {H : Hp} : ∀ (ds : List D) (vs : List V), RDs K m H ds vs → DM.clos m.1.length ds
  | [], _, _ => trivial
  | d :: ds, _, h => by cases h with | cons h r => exact ⟨RD.clo d _ h, RDs.clos ds _ r⟩
end
mutual
theorem RD.cut {K : PySem.W.Frag} {m : Mp} {H : Hp} {n : Nat} : ∀ (d : D) (v : V), DM.clo n d → RD K m H d v → RD K (m.1.take n, m.2) H d v
  | .non, _, _, h => by cases h; exact .non
  | .bl b, _, _, h => by cases h; exact .bl b
  | .int i, _, _, h => by cases h; exact .int i
  | .str x, _, _, h => by cases h; exact .str x
  | .ty x, _, _, h => by cases h; exact .ty x
  | .abs x, _, _, h => by cases h; exact .abs x
  | .ref k, _, c, h => by
    cases h with
    | ref h =>
      refine .ref ?_
      show (m.1.take n)[k]? = _
      rw [List.getElem?_take_of_lt c]; exact h
  | .tup xs, _, c, h => by
    cases h with
    | tup s r => exact .tup (s.elim (fun z => .inl ⟨z.1, fun y => z.2.1 (List.mem_of_mem_take y), z.2.2⟩) .inr) (RDs.cut xs _ c r)
  | .lst xs, _, c, h => by
    cases h with
    | lst s r => exact .lst (s.elim (fun z => .inl ⟨z.1, fun y => z.2.1 (List.mem_of_mem_take y), z.2.2⟩) .inr) (RDs.cut xs _ c r)
theorem RDs.cut {K : PySem.W.Frag} {m : Mp} {H : Hp} {n : Nat} : ∀ (ds : List D) (vs : List V), DM.clos n ds → RDs K m H ds vs → RDs K (m.1.take n, m.2) H ds vs
  | [], _, _, h => by cases h; exact .nil
  | d :: ds, _, c, h => by cases h with | cons h r => exact .cons (RD.cut d _ c.1 h) (RDs.cut ds _ c.2 r)
end
theorem Rel.closed {K : PySem.W.Frag} {m : Mp} {A : AH} {H : Hp} (R : Rel K m A H) : ClosedA A := fun o ho => by
  obtain ⟨n, hn, e⟩ := List.mem_iff_getElem.mp ho
  obtain ⟨q, _, h2⟩ := R.obj n o (by rw [List.getElem?_eq_getElem hn, e])
  cases o with
  | lst xs => obtain ⟨vs, _, r⟩ := h2; rw [← R.len]; exact RDs.clos xs vs r
theorem Rel.cut {K : PySem.W.Frag} {m : Mp} {A A1 : AH} {H : Hp} (R : Rel K m A H) (h1 : A.take A1.length = A1) (h2 : ClosedA A1) : Rel K (m.1.take A1.length, m.2) A1 H := by
  have hle : A1.length ≤ A.length := by rw [← h1, List.length_take]; exact Nat.min_le_right _ _
  refine ⟨by show (m.1.take A1.length).length = _; rw [List.length_take, R.len]; omega, R.nd.sublist (List.take_sublist _ _), R.pv, fun n o hn => ?_⟩
  have hlt : n < A1.length := (List.getElem?_eq_some_iff.mp hn).1
  have hA : A[n]? = some o := by
    rw [← h1, List.getElem?_take_of_lt hlt] at hn; exact hn
  obtain ⟨q, h3, h4⟩ := R.obj n o hA
  refine ⟨q, by show (m.1.take A1.length)[n]? = _; rw [List.getElem?_take_of_lt hlt]; exact h3, ?_⟩
  have hc := h2 o (List.mem_of_getElem? hn)
  cases o with
  | lst xs => obtain ⟨vs, h5, r⟩ := h4; exact ⟨vs, h5, RDs.cut xs vs hc r⟩
def Drops (r' r : Res D) (n : Nat) : Prop := match r with
  | .ok d A1 => ∃ A2, r' = .ok d A2 ∧ n ≤ A1.length ∧ A2.take A1.length = A1 ∧ ClosedA A1 ∧ clo A1.length d
  | .exc C fs A1 => ∃ A2, r' = .exc C fs A2 ∧ n ≤ A1.length ∧ A2.take A1.length = A1 ∧ ClosedA A1 ∧ clos A1.length (fs.map (·.2))
  | .no => True
theorem Ext.cut {m m' : Mp} {H H' : Hp} {n : Nat} (e : Ext m H m' H') (h : m.1.length ≤ n) : Ext m H (m'.1.take n, m'.2) H' := by
  obtain ⟨l, hl⟩ := e.pre
  refine ⟨⟨l.take (n - m.1.length), ?_⟩, e.sub, e.pvs, fun p hp => e.new p (List.mem_of_mem_take hp), e.keep⟩
  show m'.1.take n = _
  rw [hl, List.take_append, List.take_of_length_le h]
theorem FnD.spec {P : Program} {w : World} {K : PySem.W.Frag} {mg : Str → Option Value} {base : Heap} {k : Nat} {f : Addr} {fd : FuncData} {ps : List Str} {mf pf : List D → AH → Res D} (F : FnD P w K mg base k f fd ps mf)
    (h : ∀ ds A, ClosedA A → clos A.length ds → Drops (mf ds A) (pf ds A) A.length) : FnD P w K mg base k f fd ps pf := by
  refine ⟨fun A outer s H args us vs Q E hr gd en bi rel hsp => F.run A outer s H args us vs Q E hr gd en bi rel ?_⟩
  obtain ⟨hl, m, AA, ds, R, rds, post⟩ := hsp
  refine ⟨hl, m, AA, ds, R, rds, ?_⟩
  have z := h ds AA R.closed (by rw [← R.len]; exact RDs.clos ds vs rds)
  unfold Drops at z
  split at z
  · rename_i d A1 hp
    rw [hp] at post
    obtain ⟨A2, e2, hn, ht, hc, hd⟩ := z
    rw [e2]
    intro m' H' v e R' r
    exact post _ H' v (e.cut (by rw [R.len]; exact hn)) (R'.cut ht hc) (RD.cut d v hd r)
  · rename_i C fs A1 hp
    rw [hp] at post
    obtain ⟨A2, e2, hn, ht, hc, hd⟩ := z
    rw [e2]
    intro m' H' dx gs e R' hx hf
    exact post _ H' dx gs (e.cut (by rw [R.len]; exact hn)) (R'.cut ht hc) hx ⟨hf.1, RDs.cut _ _ hd hf.2⟩
  · rename_i hp
    rw [hp] at post
    exact post.elim
end DM
end
section
set_option maxHeartbeats 1000000
namespace DM
open PySem PySem.Spec PyProof.Rows L2
/-! ### running mirrors: one row a form, all applied -/
section
variable {ρ : DM.Env} {A : AH} {i j l n m a : Nat} {d : D} {f : D → D → AH → Res D} {g : List D → AH → Res D} {g2 : Nat → List D → AH → Res D} {ma mb mc me mo : ME} {mt mu : MT} {ms mk : MA} {ml mh : MO} {mi : MI} {sa sb : MS} {t : Tg} {ts : List Tg} {pm vs : List Nat} {b : Bool}
theorem ev_var : mVar i ρ A = (match ρ[i]? with | some (some d) => .ok d A | _ => .no) := id rfl
theorem ev_K : mK d ρ A = .ok d A := id rfl
theorem ev_op : mOp f ma mb ρ A = (ma ρ A).bind fun x A1 => (mb ρ A1).bind fun y A2 => f x y A2 := id rfl
theorem ev_neg : mNeg ma ρ A = (ma ρ A).bind fun d A1 => (match d with | .int i => .ok (.int (-i)) A1 | _ => .no) := id rfl
theorem ev_tst : mTst me ρ A = (me ρ A).bind fun d A1 => (match d with | .bl k => .ok k A1 | _ => .no) := id rfl
theorem ev_and : mAnd mt mu ρ A = (mt ρ A).bind fun k A1 => if k = true then mu ρ A1 else .ok false A1 := id rfl
theorem ev_or : mOr mt mu ρ A = (mt ρ A).bind fun k A1 => if k = true then .ok true A1 else mu ρ A1 := id rfl
theorem ev_not : mNot mt ρ A = (mt ρ A).bind fun k A1 => .ok (!k) A1 := id rfl
theorem ev_andV : mAndV ma mb ρ A = (ma ρ A).bind fun d A1 => (match d with | .bl true => mb ρ A1 | .bl false => .ok (.bl false) A1 | _ => .no) := id rfl
theorem ev_orV : mOrV ma mb ρ A = (ma ρ A).bind fun d A1 => (match d with | .bl true => .ok (.bl true) A1 | .bl false => mb ρ A1 | _ => .no) := id rfl
theorem ev_notV : mNotV ma ρ A = (ma ρ A).bind fun d A1 => (match d with | .bl k => .ok (.bl (!k)) A1 | _ => .no) := id rfl
theorem ev_if : mIf mt ma mb ρ A = (mt ρ A).bind fun k A1 => if k = true then ma ρ A1 else mb ρ A1 := id rfl
theorem ev_chn {f2 : D → D → AH → Res D} : mChn f f2 ma mb mc ρ A = (ma ρ A).bind fun x A1 => (mb ρ A1).bind fun y A2 => (f x y A2).bind fun z A3 => (match z with | .bl true => (mc ρ A3).bind fun w A4 => f2 y w A4 | .bl false => .ok (.bl false) A3 | _ => .no) := id rfl
theorem ev_nil : mNil ρ A = .ok [] A := id rfl
theorem ev_cons : mCons me ms ρ A = (me ρ A).bind fun d A1 => (ms ρ A1).bind fun ds A2 => .ok (d :: ds) A2 := id rfl
theorem ev_tup : mTup ms ρ A = (ms ρ A).bind fun ds A1 => if ds.length ≤ 1000 then .ok (.tup ds) A1 else .no := id rfl
theorem ev_lst : mLst ms ρ A = (ms ρ A).bind fun ds A1 => if ds.length ≤ 1000 then .ok (.lst ds) A1 else .no := id rfl
theorem ev_new : mNew ms ρ A = (ms ρ A).bind fun ds A1 => if ds.length ≤ 1000 then .ok (.ref A1.length) (A1 ++ [.lst ds]) else .no := id rfl
theorem ev_call : mCall g ms ρ A = (ms ρ A).bind fun ds A1 => g ds A1 := id rfl
theorem ev_callF : mCallF n g ms ρ A = (ms ρ A).bind fun ds A1 => if ds.length = n then g ds A1 else .no := id rfl
theorem ev_callK : mCallK n l a pm g ms mk ρ A = (ms ρ A).bind fun ds A1 => (mk ρ A1).bind fun es A2 => if ds.length = n ∧ es.length = l ∧ (DM.pick pm (ds ++ es)).length = a then g (DM.pick pm (ds ++ es)) A2 else .no := id rfl
theorem ev_met : mMet g2 mo ms ρ A = (mo ρ A).bind fun d A1 => (match d with | .ref n => (ms ρ A1).bind fun ds A2 => g2 n ds A2 | _ => .no) := id rfl
theorem ev_sl : mSl me ml mh ρ A = (me ρ A).bind fun d A1 => (ml ρ A1).bind fun lo A2 => (mh ρ A2).bind fun hi A3 => fSl d lo hi A3 := id rfl
theorem ev_some : mSome me ρ A = (me ρ A).bind fun d A1 => (match d with | .int i => .ok (some i) A1 | _ => .no) := id rfl
theorem ev_none : mNone ρ A = .ok none A := id rfl
theorem ev_rev : mRev b me ρ A = (me ρ A).bind fun d A1 => if isTup d = true then .no else (match seqOf A1 d with | some xs => if b then .ok (.ref A1.length) (A1 ++ [.lst xs.reverse]) else .ok (.lst xs.reverse) A1 | none => .no) := id rfl
theorem ev_lc : mLc b mi t mt me vs ρ A = (mi ρ A).bind fun iv A1 => (match itemsOf A1 iv with | some all => if all.length ≤ 16777216 then (compGo iv all t mt me (wipeD ρ vs) all [] A1).bind fun acc A2 => if b = true then .ok (.ref A2.length) (A2 ++ [.lst acc]) else .ok (.lst acc) A2 else .no | none => .no) := id rfl
theorem ev_yes : mYes ρ A = .ok true A := id rfl
theorem ev_sq : mSq me ρ A = (me ρ A).bind fun d A1 => (match seqOf A1 d with | some _ => .ok (.sq d) A1 | none => .no) := id rfl
theorem ev_r1 : mR1 ms ρ A = (ms ρ A).bind fun ds A1 => (match ds with | [.int j] => if -(2 ^ 62) ≤ j ∧ j < 2 ^ 62 then .ok (.rng 0 j) A1 else .no | _ => .no) := id rfl
theorem ev_next : mNext ρ A = .nx ρ A := id rfl
theorem ev_drop : mDrop me ρ A = lift (me ρ A) ρ fun _ A1 => .nx ρ A1 := id rfl
theorem ev_ret : mRet me ρ A = lift (me ρ A) ρ fun d A1 => .rt d A1 := id rfl
theorem ev_ifs : mIfS mt sa sb ρ A = lift (mt ρ A) ρ fun k A1 => if k = true then sa ρ A1 else sb ρ A1 := id rfl
theorem ev_set : mSet i me ρ A = lift (me ρ A) ρ fun d A1 => .nx (ρ.set i (some d)) A1 := id rfl
theorem ev_par2 : mPar2 i j ms ρ A = lift (ms ρ A) ρ fun ds A1 => (match ds with | [x, y] => .nx ((ρ.set i (some x)).set j (some y)) A1 | _ => .no) := id rfl
theorem ev_par3 : mPar3 i j l ms ρ A = lift (ms ρ A) ρ fun ds A1 => (match ds with | [x, y, z] => .nx (((ρ.set i (some x)).set j (some y)).set l (some z)) A1 | _ => .no) := id rfl
theorem ev_asg : mAsg t me ρ A = lift (me ρ A) ρ fun d A1 => (match bindT t d ρ with | some ρ1 => .nx ρ1 A1 | none => .no) := id rfl
theorem ev_for : mFor mi t sb ρ A = lift (mi ρ A) ρ fun iv A1 => (match itemsOf A1 iv with | some all => forGo iv all t sb all ρ A1 | none => .no) := id rfl
theorem ev_nm : bindT (.nm i) d ρ = some (ρ.set i (some d)) := id rfl
theorem seq_nx {ρ1 : DM.Env} {A1 : AH} (h : sa ρ A = .nx ρ1 A1) : mSeq sa sb ρ A = sb ρ1 A1 := by unfold mSeq; rw [h]
theorem seq_rt {d : D} {A1 : AH} (h : sa ρ A = .rt d A1) : mSeq sa sb ρ A = .rt d A1 := by unfold mSeq; rw [h]
theorem fun_rt {ds : List D} {d : D} {A1 : AH} (h : sa (ds.map some ++ List.replicate (n - ds.length) none) A = .rt d A1) : mFun n sa ds A = .ok d A1 := by unfold mFun; rw [h]
end
/-- a range; not for the simplifier: over a number that is a length the kernel would count -/
theorem r1_at {ms : MA} {ρ : DM.Env} {A A1 : AH} {j : Int} (h : ms ρ A = .ok [.int j] A1) (hz : -(2 ^ 62) ≤ j ∧ j < 2 ^ 62) : mR1 ms ρ A = .ok (.rng 0 j) A1 := by
  unfold mR1
  rw [h, bind_ok]
  exact if_pos hz
/-- for, one turn -/
theorem for_nil {iv : ItV} {all : List D} {t : Tg} {sb : MS} {ρ : DM.Env} {A : AH} (h : itemsOf A iv = some all) : forGo iv all t sb [] ρ A = .nx ρ A := by
  unfold forGo; rw [if_pos h]
theorem for_nx {iv : ItV} {all xs : List D} {x : D} {t : Tg} {sb : MS} {ρ ρ1 ρ2 : DM.Env} {A A2 : AH} (h : itemsOf A iv = some all) (hb : bindT t x ρ = some ρ1) (hs : sb ρ1 A = .nx ρ2 A2) : forGo iv all t sb (x :: xs) ρ A = forGo iv all t sb xs ρ2 A2 := by
  conv => lhs; unfold forGo
  rw [if_pos h, hb]
  simp only [hs]
end DM
end
section
set_option maxHeartbeats 1000000
namespace DM
open PySem PySem.Spec PyProof.Rows L2
/-! ### numbers as data -/
theorem toPys_ints : ∀ L : List Int, toPys (L.map D.int) = some (L.map PyData.int)
  | [] => rfl
  | x :: L => by
    simp only [List.map_cons, toPys, toPy, toPys_ints L]
theorem canLays_ints : ∀ L : List Int, PyData.canLayAll0 (L.map PyData.int) = true
  | [] => rfl
  | x :: L => by simp only [List.map_cons, PyData.canLayAll0, PyData.canLay0, canLays_ints L, Bool.and_self]
theorem depths_ints : ∀ L : List Int, PyData.depthAll (L.map PyData.int) ≤ 1
  | [] => by decide
  | x :: L => by
    have h := depths_ints L
    simp only [List.map_cons, PyData.depthAll, PyData.depth] at h ⊢
    omega
theorem shaped_lints (L : List Int) : SeqAt.shaped (.list (L.map PyData.int)) = true := by
  have h := depths_ints L
  have h1 : PyData.canLay0 (.list (L.map PyData.int)) = true := by simp only [PyData.canLay0, canLays_ints]
  have h2 : PyData.depth (.list (L.map PyData.int)) ≤ 64 := by
    simp only [PyData.depth]
    omega
  unfold SeqAt.shaped
  rw [h1, decide_eq_true h2]
  rfl
theorem shaped_tints (L : List Int) : SeqAt.shaped (.tuple (L.map PyData.int)) = true := by
  have h := depths_ints L
  have h1 : PyData.canLay0 (.tuple (L.map PyData.int)) = true := by simp only [PyData.canLay0, canLays_ints]
  have h2 : PyData.depth (.tuple (L.map PyData.int)) ≤ 64 := by
    simp only [PyData.depth]
    omega
  unfold SeqAt.shaped
  rw [h1, decide_eq_true h2]
  rfl
theorem eqvAll_nil (xs : List PyData) : PyData.eqvAll xs [] = xs.isEmpty := by
  cases xs <;> rfl
/-- the drawing object: at h the pair of the list at q and the number -/
def HS (h q : Nat) (A : AH) : Prop := h ≠ q ∧ ∃ (L : List Int) (s : Int), A[h]? = some (.lst [.ref q, .int s]) ∧ A[q]? = some (.lst (L.map D.int)) ∧ L.length ≤ 63 ∧ 0 ≤ s ∧ s < 2147483647
def Drawn (h q : Nat) (A A' : AH) : Prop := A'.length = A.length ∧ HS h q A' ∧ ∀ n, n ≠ h → n ≠ q → A'[n]? = A[n]?
theorem Drawn.trans {h q : Nat} {A B C : AH} (a : Drawn h q A B) (b : Drawn h q B C) : Drawn h q A C := ⟨b.1.trans a.1, b.2.1, fun n h1 h2 => (b.2.2 n h1 h2).trans (a.2.2 n h1 h2)⟩
/-- one object changed -/
def Put (q : Nat) (o : AO) (A A' : AH) : Prop := A'.length = A.length ∧ A'[q]? = some o ∧ ∀ n, n ≠ q → A'[n]? = A[n]?
theorem Put.set {q : Nat} {o u : AO} {A : AH} (h : A[q]? = some u) : Put q o A (A.set q o) := by
  refine ⟨List.length_set .., List.getElem?_set_self (List.getElem?_eq_some_iff.mp h).1, fun n hn => List.getElem?_set_ne (Ne.symm hn)⟩
theorem Put.trans {q : Nat} {o u : AO} {A B C : AH} (a : Put q o A B) (b : Put q u B C) : Put q u A C := ⟨b.1.trans a.1, b.2.1, fun n h => (b.2.2 n h).trans (a.2.2 n h)⟩
theorem at_ref0 {q : Nat} {s : Int} : atI [D.ref q, D.int s] 0 = some (D.ref q) := rfl
theorem at_ref1 {q : Nat} {s : Int} : atI [D.ref q, D.int s] 1 = some (D.int s) := rfl
theorem seqOf_ref {A : AH} {n : Nat} {xs : List D} (h : A[n]? = some (.lst xs)) : seqOf A (.ref n) = some xs := by
  simp only [seqOf, h]
theorem ix_ref {A : AH} {n : Nat} {xs : List D} {i : Int} {v : D} (h : A[n]? = some (.lst xs)) (hv : atI xs i = some v) : fIx (.ref n) (.int i) A = .ok v A := by
  unfold fIx
  simp only [seqOf_ref h, hv]
theorem ix_lst {A : AH} {xs : List D} {i : Int} {v : D} (hv : atI xs i = some v) : fIx (.lst xs) (.int i) A = .ok v A := by
  unfold fIx
  simp only [seqOf, hv]
theorem ix_tup {A : AH} {xs : List D} {i : Int} {v : D} (hv : atI xs i = some v) : fIx (.tup xs) (.int i) A = .ok v A := by
  unfold fIx
  simp only [seqOf, hv]
theorem eq_ints {A : AH} {i j : Int} {neg : Bool} : fEq neg (.int i) (.int j) A = .ok (.bl (if neg then !decide (i = j) else decide (i = j))) A := rfl
theorem eq_refnil {A : AH} {n : Nat} {L : List Int} (h : A[n]? = some (.lst (L.map D.int))) {neg : Bool} : fEq neg (.ref n) (.lst []) A = .ok (.bl (if neg then !L.isEmpty else L.isEmpty)) A := by
  have hz : SeqAt.shaped (.list []) = true := by decide +kernel
  have e : cEq A (.ref n) (.lst []) = some L.isEmpty := by
    unfold cEq
    simp only [toPyA, h, toPys_ints, toPy, toPys, Option.map_some, shaped_lints, hz, and_self, if_true, PyData.eqv, eqvAll_nil]
    cases L <;> rfl
  unfold fEq
  rw [e]
noncomputable def heapM : List D → AH → Res D := mFun 5 (mSeq (mSet 2 (mLc false (mSq (mSl (mVar 0) (mNone) (mSome (mK (.int 63))))) (.nm 4) (mYes) (mCall fAbs (mCons (mCall fInt (mCons (mVar 4)
    (mNil))) (mNil))) [4])) (mSeq (mSet 3 (mOp fAdd (mK (.int 52387)) (mOp fMul (mK (.int 811)) (mVar 1)))) (mSeq (mFor (mSq (mVar 2)) (.nm 4) (mSet 3 (mOp fMod (mCall fInt (mCons (mOp fAdd (mOp fAdd
    (mOp fMul (mVar 3) (mK (.int 48271))) (mOp fMod (mVar 4) (mK (.int 2147483549)))) (mK (.int 29))) (mNil))) (mK (.int 2147483647))))) (mRet (mNew (mCons (mRev true (mLc false (mSq (mVar 2)) (.nm 4)
    (mTst (mOp fGe (mVar 4) (mOp fPow (mK (.int 10)) (mK (.int 18))))) (mVar 4) [4])) (mCons (mVar 3) (mNil))))))))
noncomputable def drawM : List D → AH → Res D := mFun 3 (mSeq (mWhile (mAnd (mTst (mOp (fEq true) (mOp fIx (mVar 0) (mK (.int 0))) (mLst (mNil)))) (mTst (mOp (fEq false) (mOp fIx (mOp fIx (mVar
    0) (mK (.int 0))) (mNeg (mK (.int 1)))) (mK (.int 0))))) (mDrop (mPop (mOp fIx (mVar 0) (mK (.int 0)))))) (mSeq (mIfS (mTst (mOp (fEq true) (mOp fIx (mVar 0) (mK (.int 0))) (mLst (mNil)))) (mSeq
    (mSet 2 (mCall fInt (mCons (mPop (mOp fIx (mVar 0) (mK (.int 0)))) (mNil)))) (mSeq (mDrop (mMet fApp (mOp fIx (mVar 0) (mK (.int 0))) (mCons (mOp fDiv (mVar 2) (mVar 1)) (mNil)))) (mRet (mOp fMod
    (mVar 2) (mVar 1))))) (mNext)) (mSeq (mSto (mOp fMod (mCall fInt (mCons (mOp fAdd (mOp fMul (mOp fIx (mVar 0) (mK (.int 1))) (mK (.int 48271))) (mK (.int 13))) (mNil))) (mK (.int 2147483647)))
    (mVar 0) (mK (.int 1))) (mRet (mOp fMod (mCall fInt (mCons (mOp fDiv (mOp fIx (mVar 0) (mK (.int 1))) (mK (.int 64))) (mNil))) (mVar 1))))))
noncomputable def pickM (c : List D → AH → Res D) : List D → AH → Res D := mFun 2 (mRet (mOp fIx (mVar 1) (mCallF 2 c (mCons (mVar 0) (mCons (mCall fLen (mCons (mVar 1)
    (mNil))) (mNil))))))
noncomputable def bodyM (c__law_draw : List D → AH → Res D) (c__law_pick : List D → AH → Res D) : List D → AH → Res D := mFun 4 (mSeq (mSet 2 (mCallF 2 c__law_draw (mCons (mVar 0) (mCons (mOp
    fAdd (mVar 1) (mK (.int 1))) (mNil))))) (mRet (mCall fTup (mCons (mLc false (mR1 (mCons (mVar 2) (mNil))) (.nm 3) (mYes) (mCallF 2 c__law_pick (mCons (mVar 0) (mCons (mLst (mCons (mK (.int 0))
    (mCons (mK (.int 255)) (mCons (mK (.int 1)) (mCons (mCallF 2 c__law_draw (mCons (mVar 0) (mCons (mK (.int 256)) (mNil)))) (mCons (mCallF 2 c__law_draw (mCons (mVar 0) (mCons (mK (.int 256))
    (mNil)))) (mNil))))))) (mNil)))) [3]) (mNil)))))

def tstM : MT := mAnd (mTst (mOp (fEq true) (mOp fIx (mVar 0) (mK (.int 0))) (mLst (mNil)))) (mTst (mOp (fEq false) (mOp fIx (mOp fIx (mVar 0) (mK (.int 0))) (mNeg (mK (.int 1)))) (mK (.int 0))))
def popM : MS := mDrop (mPop (mOp fIx (mVar 0) (mK (.int 0))))
theorem zeros_go {h q : Nat} {s k : Int} (hq : h ≠ q) : ∀ (n : Nat) (L : List Int) (A : AH), L.length = n → A[h]? = some (.lst [.ref q, .int s]) → A[q]? = some (.lst (L.map D.int)) →
    ∃ (L' : List Int) (A' : AH), L'.length ≤ L.length ∧ Put q (.lst (L'.map D.int)) A A' ∧ iterW tstM popM (n + 1) [some (.ref h), some (.int k), none] A = .nx [some (.ref h), some (.int k), none] A'
  | n, L, A, hn, h1, h2 => by
    cases hL : L with
    | nil =>
      subst hL
      refine ⟨[], A, Nat.le_refl _, ⟨rfl, h2, fun _ _ => rfl⟩, ?_⟩
      simp [iterW, tstM, mAnd, mTst, mOp, mVar, mK, mLst, mNil, ix_ref h1 at_ref0, eq_refnil h2]
    | cons x0 R =>
      obtain ⟨M, x, e⟩ : ∃ M x, L = M ++ [x] := ⟨L.dropLast, L.getLast (by rw [hL]; simp), (List.dropLast_concat_getLast (by rw [hL]; simp)).symm⟩
      rw [← hL]
      have hlast : atI (L.map D.int) (-1) = some (D.int x) := by
        rw [e, List.map_append]; exact atI_last _ _
      have hne : L.isEmpty = false := by rw [hL]; rfl
      have t1 : tstM [some (.ref h), some (.int k), none] A = .ok (decide (x = 0)) A := by
        simp [tstM, mAnd, mTst, mOp, mVar, mK, mLst, mNil, mNeg, ix_ref h1 at_ref0, eq_refnil h2, hne, ix_ref h2 hlast, eq_ints]
      by_cases hx : x = 0
      · have hlen : M.length + 1 = n := by rw [← hn, e]; simp
        obtain ⟨m, rfl⟩ : ∃ m, n = m + 1 := ⟨M.length, hlen.symm⟩
        have hg : (L.map D.int)[(L.map D.int).length - 1]? = some (D.int x) := by
          rw [e]; simp
        have hd : (L.map D.int).dropLast = M.map D.int := by
          rw [e]; simp
        have p1 : popM [some (.ref h), some (.int k), none] A = .nx [some (.ref h), some (.int k), none] (A.set q (.lst (M.map D.int))) := by
          simp only [popM, mDrop, mPop, mOp, mVar, mK, List.getElem?_cons_zero, bind_ok, ix_ref h1 at_ref0, h2, hg, hd, lift_ok]
        have P := Put.set (o := .lst (M.map D.int)) h2
        obtain ⟨L', A', l1, P', w⟩ := zeros_go hq m M (A.set q (.lst (M.map D.int))) (by omega) ((P.2.2 h hq).trans h1) P.2.1
        refine ⟨L', A', by rw [e]; simp; omega, P.trans P', ?_⟩
        unfold iterW
        rw [t1, decide_eq_true hx]
        simp only [p1]
        exact w
      · refine ⟨L, A, Nat.le_refl _, ⟨rfl, h2, fun _ _ => rfl⟩, ?_⟩
        unfold iterW
        rw [t1, decide_eq_false hx]
theorem draw_ok {h q : Nat} {A : AH} {k : Int} (hs : HS h q A) (h0 : 0 < k) (h1 : k < 1073741824) : ∃ v A', drawM [.ref h, .int k] A = .ok (.int v) A' ∧ 0 ≤ v ∧ v < k ∧ Drawn h q A A' := by
  obtain ⟨hq, L, s, e1, e2, hl, s0, s1⟩ := hs
  obtain ⟨L', A1, l1, P, w⟩ := zeros_go (k := k) hq L.length L A rfl e1 e2
  have w' : mWhile tstM popM [some (.ref h), some (.int k), none] A = .nx [some (.ref h), some (.int k), none] A1 := mWhile_eq w (by intro z; cases z)
  have f1 : A1[h]? = some (.lst [.ref q, .int s]) := (P.2.2 h hq).trans e1
  have f2 := P.2.1
  have hm : drawM [.ref h, .int k] A = mFun 3 (mSeq (mWhile tstM popM) (mSeq (mIfS (mTst (mOp (fEq true) (mOp fIx (mVar 0) (mK (.int 0))) (mLst (mNil)))) (mSeq (mSet 2 (mCall fInt (mCons (mPop (mOp fIx (mVar 0) (mK (.int 0)))) (mNil)))) (mSeq (mDrop (mMet fApp (mOp fIx (mVar 0) (mK (.int 0))) (mCons (mOp fDiv (mVar 2) (mVar 1)) (mNil)))) (mRet (mOp fMod (mVar 2) (mVar 1))))) (mNext)) (mSeq (mSto (mOp fMod (mCall fInt (mCons (mOp fAdd (mOp fMul (mOp fIx (mVar 0) (mK (.int 1))) (mK (.int 48271))) (mK (.int 13))) (mNil))) (mK (.int 2147483647))) (mVar 0) (mK (.int 1))) (mRet (mOp fMod (mCall fInt (mCons (mOp fDiv (mOp fIx (mVar 0) (mK (.int 1))) (mK (.int 64))) (mNil))) (mVar 1)))))) [.ref h, .int k] A := rfl
  rw [hm]
  cases hL : L' with
  | nil =>
    subst hL
    have cm : CMul s 48271 := .inl ⟨by omega, by omega⟩
    have A2 := Put.set (o := .lst [.ref q, .int ((s * 48271 + 13) % 2147483647)]) f1
    refine ⟨((s * 48271 + 13) % 2147483647) / 64 % k, A1.set h (.lst [.ref q, .int ((s * 48271 + 13) % 2147483647)]), ?_, Int.emod_nonneg _ (by omega), Int.emod_lt_of_pos _ h0, ?_, ⟨hq, [], (s * 48271 + 13) % 2147483647, A2.2.1, (A2.2.2 q (Ne.symm hq)).trans f2, by simp, Int.emod_nonneg _ (by omega), Int.emod_lt_of_pos _ (by omega)⟩, fun n a b => (A2.2.2 n a).trans (P.2.2 n b)⟩
    · have g1 := A2.2.1
      have ixn : ixN 2 1 = some 1 := rfl
      simp [mFun, mSeq, w', mIfS, mTst, mOp, mVar, mK, mLst, mNil, mCons, mCall, mRet, mSto, mNext, ix_ref f1 at_ref0, ix_ref f1 at_ref1, eq_refnil f2, fAdd, fMul, fMod, fDiv, fI, fInt, cm, f1, ixn, ix_ref g1 at_ref1, CDiv, h0, h1]
    · exact A2.1.trans P.1
  | cons x0 R =>
    obtain ⟨M, x, e⟩ : ∃ M x, L' = M ++ [x] := ⟨L'.dropLast, L'.getLast (by rw [hL]; simp), (List.dropLast_concat_getLast (by rw [hL]; simp)).symm⟩
    have hne : L'.isEmpty = false := by rw [hL]; rfl
    have hg : (L'.map D.int)[L'.length - 1]? = some (D.int x) := by
      rw [e]; simp
    have hd : (L'.map D.int).dropLast = M.map D.int := by
      rw [e]; simp
    have B := Put.set (o := .lst (M.map D.int)) f2
    have b1 : (A1.set q (.lst (M.map D.int)))[h]? = some (.lst [.ref q, .int s]) := (B.2.2 h hq).trans f1
    have b2 := B.2.1
    have C := Put.set (o := .lst (M.map D.int ++ [D.int (x / k)])) b2
    have ml : M.length ≤ 62 := by
      have : L'.length = M.length + 1 := by rw [e]; simp
      omega
    refine ⟨x % k, _, ?_, Int.emod_nonneg _ (by omega), Int.emod_lt_of_pos _ h0, ?_, ⟨hq, M ++ [x / k], s, (C.2.2 h hq).trans b1, ?_, by simp; omega, s0, s1⟩, fun n a b => (C.2.2 n b).trans ((B.2.2 n b).trans (P.2.2 n b))⟩
    · have hlen : (M.map D.int).length < 16777216 := by rw [List.length_map]; omega
      rw [List.length_map] at hlen
      simp only [hg, hd, mFun, mSeq, w', mIfS, mTst, mOp, mVar, mK, mLst, mNil, mCons, mCall, mRet, mSet, mDrop, mPop, mMet, ix_ref f1 at_ref0, eq_refnil f2, hne, f2, b2, ix_ref b1 at_ref0, fApp, fMod, fDiv, fI, fInt, CDiv, h0, h1, hlen,
        List.map_cons, List.map_nil, List.cons_append, List.nil_append, List.length_cons, List.length_nil, List.getElem?_cons_zero, List.getElem?_cons_succ, List.set_cons_succ, List.set_cons_zero, bind_ok, lift_ok, List.replicate, Nat.reduceAdd, Nat.reduceSub, Nat.reduceLeDiff, if_true, and_self, Bool.not_false, List.length_map]
    · exact C.1.trans (B.1.trans P.1)
    · rw [C.2.1]; simp
end DM
end
section
set_option maxHeartbeats 1000000
namespace DM
open PySem PySem.Spec PyProof.Rows L2
theorem pick_ok {h q : Nat} {A : AH} {xs : List D} (hs : HS h q A) (h0 : 0 < xs.length) (h1 : xs.length < 1073741824) : ∃ (i : Nat) (hi : i < xs.length) (A' : AH), pickM drawM [.ref h, .lst xs] A = .ok xs[i] A' ∧ Drawn h q A A' := by
  obtain ⟨v, A', e, v0, v1, dr⟩ := draw_ok (k := (xs.length : Int)) hs (by omega) (by omega)
  obtain ⟨i, rfl⟩ : ∃ i : Nat, v = i := ⟨v.toNat, by omega⟩
  have hi : i < xs.length := by omega
  refine ⟨i, hi, A', ?_, dr⟩
  have ha : atI xs (i : Int) = some xs[i] := atI_nat (List.getElem?_eq_getElem hi)
  simp [pickM, mFun, mRet, mOp, mVar, mCallF, mCons, mNil, mCall, fLen, seqOf, e, ix_lst ha]
/-- a comprehension whose parts change nothing -/
theorem comp_pure {iv : ItV} {all : List D} {t : Tg} {tt : MT} {me : ME} {ρ : DM.Env} {A : AH} {p : D → Bool} {f : D → D} (hit : itemsOf A iv = some all) : ∀ (xs acc : List D), (∀ x ∈ xs, ∃ ρ1, bindT t x ρ = some ρ1 ∧ tt ρ1 A = .ok (p x) A ∧ (p x = true → me ρ1 A = .ok (f x) A)) →
    compGo iv all t tt me ρ xs acc A = .ok (acc ++ (xs.filter p).map f) A
  | [], acc, _ => by
    unfold compGo
    rw [if_pos hit]
    simp
  | x :: xs, acc, h => by
    obtain ⟨ρ1, h1, h2, h3⟩ := h x List.mem_cons_self
    have ih := comp_pure (t := t) (tt := tt) (me := me) (ρ := ρ) (p := p) (f := f) hit xs
    unfold compGo
    rw [if_pos hit, h1]
    simp only [h2]
    cases hp : p x with
    | true =>
      simp only [h3 hp]
      rw [ih _ fun y hy => h y (List.mem_cons_of_mem _ hy), List.filter_cons, if_pos hp, List.map_cons, List.append_assoc]
      rfl
    | false =>
      simp only
      rw [ih _ fun y hy => h y (List.mem_cons_of_mem _ hy), List.filter_cons, if_neg (by rw [hp]; decide)]
theorem cut_take (xs : List D) (k : Nat) : cutD xs none (some (k : Int)) = xs.take k := by
  unfold cutD
  rw [HT.sIx_none, HT.sIx_nat, List.drop_zero, Nat.sub_zero]
  rcases Nat.le_total k xs.length with h | h
  · rw [Nat.min_eq_left h]
  · rw [Nat.min_eq_right h, List.take_of_length_le (Nat.le_refl _), List.take_of_length_le h]
theorem filter_true {α : Type} (xs : List α) : xs.filter (fun _ => true) = xs := List.filter_eq_self.mpr fun _ _ => rfl
/-- the mixing of the cells -/
theorem stir_go {d0 d1 d2 d4 : Option D} {all : List D} {A : AH} : ∀ (L : List Int) (s : Int), 0 ≤ s → s < 2147483647 → ∃ s' d, 0 ≤ s' ∧ s' < 2147483647 ∧
    forGo (.sq (.lst all)) all (.nm 4) (mSet 3 (mOp fMod (mCall fInt (mCons (mOp fAdd (mOp fAdd (mOp fMul (mVar 3) (mK (.int 48271))) (mOp fMod (mVar 4) (mK (.int 2147483549)))) (mK (.int 29))) (mNil))) (mK (.int 2147483647)))) (L.map D.int) [d0, d1, d2, some (.int s), d4] A
      = .nx [d0, d1, d2, some (.int s'), d] A
  | [], s, h0, h1 => ⟨s, d4, h0, h1, by simp [forGo, itemsOf, seqOf]⟩
  | x :: L, s, h0, h1 => by
    obtain ⟨s', d, a, b, e⟩ := stir_go (d0 := d0) (d1 := d1) (d2 := d2) (d4 := some (.int x)) (all := all) (A := A) L ((s * 48271 + x % 2147483549 + 29) % 2147483647) (Int.emod_nonneg _ (by omega)) (Int.emod_lt_of_pos _ (by omega))
    refine ⟨s', d, a, b, ?_⟩
    have cm : CMul s 48271 := .inl ⟨by omega, by omega⟩
    rw [List.map_cons]
    unfold forGo
    simp only [itemsOf, seqOf, if_true, bindT, List.set_cons_succ, List.set_cons_zero, mSet, mOp, mCall, mCons, mNil, mVar, mK, List.getElem?_cons_zero, List.getElem?_cons_succ, bind_ok, fMul, fI, cm, fMod, fAdd, fInt, lift_ok, show (0 : Int) < 2147483549 by decide, show (0 : Int) < 2147483647 by decide]
    exact e
theorem heap_ok {A : AH} {ns : List Int} {b : Int} (b0 : 0 ≤ b) (b1 : b < 1000) : ∃ h q A', heapM [.lst (ns.map D.int), .int b] A = .ok (.ref h) A' ∧ HS h q A' ∧ A'.length = A.length + 2 ∧ h = A.length + 1 ∧ q = A.length ∧ ∀ n, n < A.length → A'[n]? = A[n]? := by
  have cz : ∀ L : List Int, (L.map D.int).map (fun d => match d with | .int i => D.int (if i < 0 then -i else i) | d => d) = (L.map fun i => if i < 0 then -i else i).map D.int := fun L => by
    rw [List.map_map, List.map_map]; rfl
  have hl : ((ns.map D.int).take 63).length ≤ 16777216 := by rw [List.length_take]; omega
  generalize hN : ns.take 63 = M at *
  have hM : (ns.map D.int).take 63 = M.map D.int := by rw [← hN, List.map_take]
  have hMl : M.length ≤ 63 := by rw [← hN, List.length_take]; omega
  have cm : CMul 811 b := .inl ⟨by decide, by decide⟩
  generalize hC : (M.map fun i => if i < 0 then -i else i) = C at *
  have hCl : C.length ≤ 63 := by rw [← hC, List.length_map]; exact hMl
  have c1 : ∀ d1 d3, compGo (.sq (.lst (M.map D.int))) (M.map D.int) (.nm 4) mYes (mCall fAbs (mCons (mCall fInt (mCons (mVar 4) mNil)) mNil)) [some (.lst (ns.map D.int)), d1, none, d3, none] (M.map D.int) [] A = .ok (C.map D.int) A := fun d1 d3 => by
    rw [comp_pure (p := fun _ => true) (f := fun d => match d with | .int i => D.int (if i < 0 then -i else i) | d => d) rfl _ _ fun x hx => ?_]
    · rw [filter_true, cz, hC]; rfl
    · obtain ⟨i, _, rfl⟩ := List.mem_map.mp hx
      exact ⟨_, rfl, rfl, fun _ => rfl⟩
  obtain ⟨s', d, s0, s1, st⟩ := stir_go (d0 := some (.lst (ns.map D.int))) (d1 := some (.int b)) (d2 := some (.lst (C.map D.int))) (d4 := none) (all := C.map D.int) (A := A) C (52387 + 811 * b) (by omega) (by omega)
  have pw : CPow 10 18 := ⟨by decide, by decide, by decide⟩
  have c2 : ∀ d3, compGo (.sq (.lst (C.map D.int))) (C.map D.int) (.nm 4) (mTst (mOp fGe (mVar 4) (mOp fPow (mK (.int 10)) (mK (.int 18))))) (mVar 4) [some (.lst (ns.map D.int)), some (.int b), some (.lst (C.map D.int)), d3, none] (C.map D.int) [] A = .ok ((C.filter fun i => decide ((10 : Int) ^ 18 ≤ i)).map D.int) A := fun d3 => by
    rw [comp_pure (p := fun d => match d with | .int i => decide ((10 : Int) ^ 18 ≤ i) | _ => true) (f := fun d => d) rfl _ _ fun x hx => ?_]
    · rw [List.map_id', List.filter_map]; rfl
    · obtain ⟨i, _, rfl⟩ := List.mem_map.mp hx
      refine ⟨_, rfl, ?_, fun _ => rfl⟩
      simp only [mTst, mOp, mVar, mK, bindT, List.set_cons_succ, List.set_cons_zero, List.getElem?_cons_zero, List.getElem?_cons_succ, bind_ok, fPow, fI, pw, if_true, fGe, fI0]
      rfl
  generalize hF : (C.filter fun i => decide ((10 : Int) ^ 18 ≤ i)) = F at *
  have hFl : F.length ≤ 63 := by rw [← hF]; exact Nat.le_trans (List.length_filter_le _ _) hCl
  have e63 : cutD (ns.map D.int) none (some 63) = M.map D.int := by rw [← hM]; exact cut_take _ 63
  have z1 : (M.map D.int).length ≤ 16777216 := by rw [List.length_map]; omega
  have z2 : (C.map D.int).length ≤ 16777216 := by rw [List.length_map]; omega
  refine ⟨A.length + 1, A.length, A ++ [.lst (F.map D.int).reverse] ++ [.lst [.ref A.length, .int s']], ?_, ⟨by omega, F.reverse, s', ?_, ?_, by rw [List.length_reverse]; exact hFl, s0, s1⟩, by simp, rfl, rfl, fun n hn => ?_⟩
  · unfold heapM
    refine fun_rt ?_
    refine (seq_nx (ρ1 := [some (.lst (ns.map D.int)), some (.int b), some (.lst (C.map D.int)), none, none]) (A1 := A) ?_).trans ?_
    · simp only [ev_var, ev_K, ev_op, ev_neg, ev_tst, ev_and, ev_or, ev_not, ev_andV, ev_orV, ev_notV, ev_if, ev_chn, ev_nil, ev_cons, ev_tup, ev_lst, ev_new, ev_call, ev_callF, ev_callK, ev_met, ev_sl, ev_some, ev_none, ev_rev, ev_yes, ev_sq, ev_r1, ev_next, ev_drop, ev_ret, ev_ifs, ev_set, ev_par2, ev_par3, ev_asg, ev_nm, List.getElem?_cons_zero, List.getElem?_cons_succ, List.set_cons_zero, List.set_cons_succ, bind_ok, lift_ok, List.length_cons, List.length_nil, Nat.reduceAdd, Nat.reduceLeDiff, ↓reduceIte, if_true, if_false, Bool.false_eq_true, ev_lc, fSl, seqOf, e63, itemsOf, z1, wipeD, List.map_cons, List.map_nil, List.replicate, List.cons_append, List.nil_append, List.foldl_cons, List.foldl_nil, Nat.reduceSub, c1]
    refine (seq_nx (ρ1 := [some (.lst (ns.map D.int)), some (.int b), some (.lst (C.map D.int)), some (.int (52387 + 811 * b)), none]) (A1 := A) ?_).trans ?_
    · simp only [ev_var, ev_K, ev_op, ev_neg, ev_tst, ev_and, ev_or, ev_not, ev_andV, ev_orV, ev_notV, ev_if, ev_chn, ev_nil, ev_cons, ev_tup, ev_lst, ev_new, ev_call, ev_callF, ev_callK, ev_met, ev_sl, ev_some, ev_none, ev_rev, ev_yes, ev_sq, ev_r1, ev_next, ev_drop, ev_ret, ev_ifs, ev_set, ev_par2, ev_par3, ev_asg, ev_nm, List.getElem?_cons_zero, List.getElem?_cons_succ, List.set_cons_zero, List.set_cons_succ, bind_ok, lift_ok, List.length_cons, List.length_nil, Nat.reduceAdd, Nat.reduceLeDiff, ↓reduceIte, if_true, if_false, Bool.false_eq_true, fMul, fI, cm, fAdd]
    refine (seq_nx (ρ1 := [some (.lst (ns.map D.int)), some (.int b), some (.lst (C.map D.int)), some (.int s'), d]) (A1 := A) ?_).trans ?_
    · simp only [ev_var, ev_K, ev_op, ev_neg, ev_tst, ev_and, ev_or, ev_not, ev_andV, ev_orV, ev_notV, ev_if, ev_chn, ev_nil, ev_cons, ev_tup, ev_lst, ev_new, ev_call, ev_callF, ev_callK, ev_met, ev_sl, ev_some, ev_none, ev_rev, ev_yes, ev_sq, ev_r1, ev_next, ev_drop, ev_ret, ev_ifs, ev_set, ev_par2, ev_par3, ev_asg, ev_nm, List.getElem?_cons_zero, List.getElem?_cons_succ, List.set_cons_zero, List.set_cons_succ, bind_ok, lift_ok, List.length_cons, List.length_nil, Nat.reduceAdd, Nat.reduceLeDiff, ↓reduceIte, if_true, if_false, Bool.false_eq_true, ev_for, itemsOf, seqOf]
      exact st
    simp only [ev_var, ev_K, ev_op, ev_neg, ev_tst, ev_and, ev_or, ev_not, ev_andV, ev_orV, ev_notV, ev_if, ev_chn, ev_nil, ev_cons, ev_tup, ev_lst, ev_new, ev_call, ev_callF, ev_callK, ev_met, ev_sl, ev_some, ev_none, ev_rev, ev_yes, ev_sq, ev_r1, ev_next, ev_drop, ev_ret, ev_ifs, ev_set, ev_par2, ev_par3, ev_asg, ev_nm, List.getElem?_cons_zero, List.getElem?_cons_succ, List.set_cons_zero, List.set_cons_succ, bind_ok, lift_ok, List.length_cons, List.length_nil, Nat.reduceAdd, Nat.reduceLeDiff, ↓reduceIte, if_true, if_false, Bool.false_eq_true, ev_lc, seqOf, itemsOf, z2, wipeD, List.foldl_cons, List.foldl_nil, c2, isTup]
    simp
  · rw [List.getElem?_append_right (by simp)]; simp
  · rw [List.getElem?_append_left (by simp), List.getElem?_append_right (by simp)]; simp
  · rw [List.getElem?_append_left (by simp; omega), List.getElem?_append_left hn]
end DM
end
section
set_option maxHeartbeats 1000000
namespace DM
open PySem PySem.Spec PyProof.Rows L2
/-- octets as data -/
def dI (os : List Nat) : List D := os.map fun n : Nat => D.int (n : Int)
theorem dI_length (os : List Nat) : (dI os).length = os.length := by simp [dI]
theorem dI_append (a b : List Nat) : dI (a ++ b) = dI a ++ dI b := by simp [dI]
theorem dI_take (a : List Nat) (k : Nat) : (dI a).take k = dI (a.take k) := by simp [dI, List.map_take]
theorem dI_drop (a : List Nat) (k : Nat) : (dI a).drop k = dI (a.drop k) := by simp [dI, List.map_drop]
theorem dI_ints (a : List Nat) : dI a = (a.map fun n : Nat => (n : Int)).map D.int := by simp [dI, List.map_map, Function.comp_def]
theorem Drawn.refl {h q : Nat} {A : AH} (hs : HS h q A) : Drawn h q A A := ⟨rfl, hs, fun _ _ _ => rfl⟩
/-- a comprehension whose parts draw -/
theorem comp_draw {iv : ItV} {all : List D} {t : Tg} {tt : MT} {me : ME} {ρ : DM.Env} {h q : Nat} {Pd : D → Prop} {G : AH → Prop} (hit : ∀ A, itemsOf A iv = some all) (hG : ∀ A A', G A → Drawn h q A A' → G A') : ∀ (xs acc : List D) (A : AH), HS h q A → G A →
    (∀ x ∈ xs, ∀ A, HS h q A → G A → ∃ ρ1 y A1, bindT t x ρ = some ρ1 ∧ tt ρ1 A = .ok true A ∧ me ρ1 A = .ok y A1 ∧ Pd y ∧ Drawn h q A A1) →
    ∃ ys A', compGo iv all t tt me ρ xs acc A = .ok (acc ++ ys) A' ∧ ys.length = xs.length ∧ (∀ y ∈ ys, Pd y) ∧ Drawn h q A A'
  | [], acc, A, hs, g, _ => ⟨[], A, by unfold compGo; rw [if_pos (hit A)]; simp, rfl, by simp, Drawn.refl hs⟩
  | x :: xs, acc, A, hs, g, st => by
    obtain ⟨ρ1, y, A1, e1, e2, e3, p, d⟩ := st x List.mem_cons_self A hs g
    obtain ⟨ys, A', w, l, ps, d'⟩ := comp_draw (t := t) (tt := tt) (me := me) (ρ := ρ) (Pd := Pd) (G := G) hit hG xs (acc ++ [y]) A1 d.2.1 (hG _ _ g d) fun z hz => st z (List.mem_cons_of_mem _ hz)
    refine ⟨y :: ys, A', ?_, by simp [l], ?_, d.trans d'⟩
    · unfold compGo
      rw [if_pos (hit A), e1]
      simp only [e2, e3]
      rw [w]
      simp
    · intro z hz
      rcases List.mem_cons.mp hz with rfl | hz
      · exact p
      · exact ps z hz
def Oct (d : D) : Prop := ∃ b : Nat, d = .int b ∧ b < 256
theorem octs : ∀ ys : List D, (∀ y ∈ ys, Oct y) → ∃ bs : List Nat, ys = dI bs ∧ ∀ b ∈ bs, b < 256
  | [], _ => ⟨[], rfl, by simp⟩
  | y :: ys, h => by
    obtain ⟨b, rfl, hb⟩ := h y List.mem_cons_self
    obtain ⟨bs, rfl, hs⟩ := octs ys fun z hz => h z (List.mem_cons_of_mem _ hz)
    exact ⟨b :: bs, rfl, by simp; exact ⟨hb, hs⟩⟩
theorem body_ok {h q : Nat} {A : AH} {most : Nat} (hs : HS h q A) (hm : most < 100) : ∃ (bs : List Nat) (A' : AH), bodyM drawM (pickM drawM) [.ref h, .int most] A = .ok (.tup (dI bs)) A' ∧ bs.length ≤ most ∧ (∀ b ∈ bs, b < 256) ∧ Drawn h q A A' := by
  obtain ⟨v, A1, e1, v0, v1, d1⟩ := draw_ok (k := (most : Int) + 1) hs (by omega) (by omega)
  obtain ⟨n, rfl⟩ : ∃ n : Nat, v = n := ⟨v.toNat, by omega⟩
  have hn : n ≤ most := by omega
  obtain ⟨ys, A2, w, l, ps, d2⟩ := comp_draw (iv := .rng 0 n) (all := (List.range n).map fun i : Nat => D.int (0 + (i : Int))) (t := .nm 3) (tt := mYes) (ρ := [some (.ref h), some (.int most), some (.int n), none]) (Pd := Oct) (G := fun _ => True)
    (me := mCallF 2 (pickM drawM) (mCons (mVar 0) (mCons (mLst (mCons (mK (.int 0)) (mCons (mK (.int 255)) (mCons (mK (.int 1)) (mCons (mCallF 2 drawM (mCons (mVar 0) (mCons (mK (.int 256)) (mNil)))) (mCons (mCallF 2 drawM (mCons (mVar 0) (mCons (mK (.int 256)) (mNil)))) (mNil))))))) (mNil))))
    (by intro A; simp [itemsOf]) (fun _ _ _ _ => trivial) ((List.range n).map fun i : Nat => D.int (0 + (i : Int))) [] A1 d1.2.1 trivial (by
      intro x _ A hs _
      obtain ⟨a, B, ea, a0, a1, da⟩ := draw_ok (k := 256) hs (by decide) (by decide)
      obtain ⟨b, C, eb, b0, b1, db⟩ := draw_ok (k := 256) da.2.1 (by decide) (by decide)
      obtain ⟨i, hi, E, ec, dc⟩ := pick_ok (xs := [D.int 0, .int 255, .int 1, .int a, .int b]) db.2.1 (by simp) (by simp)
      have hi5 : i < 5 := hi
      refine ⟨_, [D.int 0, .int 255, .int 1, .int a, .int b][i], E, rfl, rfl, ?_, ?_, (da.trans db).trans dc⟩
      · simp only [ev_var, ev_K, ev_op, ev_neg, ev_tst, ev_and, ev_or, ev_not, ev_andV, ev_orV, ev_notV, ev_if, ev_chn, ev_nil, ev_cons, ev_tup, ev_lst, ev_new, ev_call, ev_callF, ev_callK, ev_met, ev_sl, ev_some, ev_none, ev_rev, ev_yes, ev_sq, ev_next, ev_drop, ev_ret, ev_ifs, ev_set, ev_par2, ev_par3, ev_asg, ev_nm, List.getElem?_cons_zero, List.getElem?_cons_succ, List.set_cons_zero, List.set_cons_succ, bind_ok, lift_ok, List.length_cons, List.length_nil, Nat.reduceAdd, Nat.reduceLeDiff, ↓reduceIte, if_true, if_false, Bool.false_eq_true, ea, eb]
        exact ec
      · rcases i with _ | _ | _ | _ | _ | i
        · exact ⟨0, rfl, by decide⟩
        · exact ⟨255, rfl, by decide⟩
        · exact ⟨1, rfl, by decide⟩
        · exact ⟨a.toNat, by simp; omega, by omega⟩
        · exact ⟨b.toNat, by simp; omega, by omega⟩
        · omega)
  obtain ⟨bs, rfl, hb⟩ := octs ys ps
  refine ⟨bs, A2, ?_, ?_, hb, d1.trans d2⟩
  · unfold bodyM
    refine fun_rt ?_
    refine (seq_nx (ρ1 := [some (.ref h), some (.int most), some (.int n), none]) (A1 := A1) ?_).trans ?_
    · simp only [ev_var, ev_K, ev_op, ev_neg, ev_tst, ev_and, ev_or, ev_not, ev_andV, ev_orV, ev_notV, ev_if, ev_chn, ev_nil, ev_cons, ev_tup, ev_lst, ev_new, ev_call, ev_callF, ev_callK, ev_met, ev_sl, ev_some, ev_none, ev_rev, ev_yes, ev_sq, ev_next, ev_drop, ev_ret, ev_ifs, ev_set, ev_par2, ev_par3, ev_asg, ev_nm, List.getElem?_cons_zero, List.getElem?_cons_succ, List.set_cons_zero, List.set_cons_succ, bind_ok, lift_ok, List.length_cons, List.length_nil, Nat.reduceAdd, Nat.reduceLeDiff, ↓reduceIte, if_true, if_false, Bool.false_eq_true, fAdd, List.map_cons, List.map_nil, List.replicate, List.cons_append, List.nil_append, Nat.reduceSub, e1]
    have z : ((List.range n).map fun i : Nat => D.int (0 + (i : Int))).length ≤ 16777216 := by simp; omega
    have z1 : itemsOf A1 (.rng 0 (n : Int)) = some ((List.range n).map fun i : Nat => D.int (0 + (i : Int))) := by simp [itemsOf]
    have z2 : -(2 ^ 62) ≤ (n : Int) ∧ (n : Int) < 2 ^ 62 := by omega
    have h1 : mR1 (mCons (mVar 2) mNil) [some (.ref h), some (.int most), some (.int n), none] A1 = .ok (.rng 0 n) A1 := r1_at (by simp only [ev_cons, ev_nil, ev_var, List.getElem?_cons_zero, List.getElem?_cons_succ, bind_ok]) z2
    simp only [ev_var, ev_K, ev_op, ev_neg, ev_tst, ev_and, ev_or, ev_not, ev_andV, ev_orV, ev_notV, ev_if, ev_chn, ev_nil, ev_cons, ev_tup, ev_lst, ev_new, ev_call, ev_callF, ev_callK, ev_met, ev_sl, ev_some, ev_none, ev_rev, ev_yes, ev_sq, ev_next, ev_drop, ev_ret, ev_ifs, ev_set, ev_par2, ev_par3, ev_asg, ev_nm, List.getElem?_cons_zero, List.getElem?_cons_succ, List.set_cons_zero, List.set_cons_succ, bind_ok, lift_ok, List.length_cons, List.length_nil, Nat.reduceAdd, Nat.reduceLeDiff, ↓reduceIte, if_true, if_false, Bool.false_eq_true, ev_lc, h1, z1, z, wipeD, w]
    simp [fTup, seqOf]
  · rw [dI_length] at l
    simp at l
    omega
end DM
end
section
set_option maxHeartbeats 1000000
namespace DM
open PySem PySem.Spec PyProof.Rows L2
noncomputable def checkM : List D → AH → Res D := mFun 3 (mSeq (mSet 1 (mK (.int 1))) (mSeq (mFor (mSq (mVar 0)) (.nm 2) (mSet 1 (mOp fMod (mOp fAdd (mOp fMul (mVar 1) (mK (.int 256))) (mVar 2))
    (mK (.int 4294967291))))) (mRet (mVar 1))))
noncomputable def pairM : List D → AH → Res D := mFun 1 (mRet (mTup (mCons (mOp fShr (mVar 0) (mK (.int 8))) (mCons (mOp fAnd (mVar 0) (mK (.int 255))) (mNil)))))
noncomputable def sumM (c_check_sum : List D → AH → Res D) (c_pair_of : List D → AH → Res D) : List D → AH → Res D := mFun 2 (mSeq (mSet 1 (mCallF 1 c_check_sum (mCons (mVar 0) (mNil)))) (mRet
    (mOp fAdd (mCallF 1 c_pair_of (mCons (mOp fShr (mVar 1) (mK (.int 16))) (mNil))) (mCallF 1 c_pair_of (mCons (mOp fAnd (mVar 1) (mK (.int 65535))) (mNil))))))
noncomputable def putM (c_sum_octets : List D → AH → Res D) (c_pair_of : List D → AH → Res D) : List D → AH → Res D := mFun 2 (mSeq (mIfS (mTst (mOp fGt (mCall fLen (mCons (mVar 0) (mNil))) (mK
    (.int 65535)))) (mBad) (mNext)) (mSeq (mSet 1 (mOp fAdd (mOp fAdd (mCallF 1 c_pair_of (mCons (mCall fLen (mCons (mVar 0) (mNil))) (mNil))) (mCallF 1 c_pair_of (mCons (mOp fSub (mK (.int 65535))
    (mCall fLen (mCons (mVar 0) (mNil)))) (mNil)))) (mCall fTup (mCons (mVar 0) (mNil))))) (mRet (mOp fAdd (mVar 1) (mCallF 1 c_sum_octets (mCons (mVar 1) (mNil)))))))
noncomputable def faultM (c_sum_octets : List D → AH → Res D) : List D → AH → Res D := mFun 4 (mSeq (mIfS (mTst (mOp fLt (mCall fLen (mCons (mVar 0) (mNil))) (mOp fAdd (mVar 1) (mK (.int 4)))))
    (mRet (mK (.str "cut"))) (mNext)) (mSeq (mSet 2 (mOp fAdd (mOp fMul (mOp fIx (mVar 0) (mVar 1)) (mK (.int 256))) (mOp fIx (mVar 0) (mOp fAdd (mVar 1) (mK (.int 1)))))) (mSeq (mIfS (mTst (mOp (fEq
    true) (mOp fAdd (mOp fAdd (mVar 2) (mOp fMul (mOp fIx (mVar 0) (mOp fAdd (mVar 1) (mK (.int 2)))) (mK (.int 256)))) (mOp fIx (mVar 0) (mOp fAdd (mVar 1) (mK (.int 3))))) (mK (.int 65535)))) (mRet
    (mK (.str "broken"))) (mNext)) (mSeq (mSet 3 (mOp fAdd (mOp fAdd (mVar 1) (mVar 2)) (mK (.int 8)))) (mSeq (mIfS (mTst (mOp fLt (mCall fLen (mCons (mVar 0) (mNil))) (mVar 3))) (mRet (mK (.str
    "cut"))) (mNext)) (mRet (mIf (mTst (mOp (fEq false) (mCall fTup (mCons (mSl (mVar 0) (mSome (mOp fSub (mVar 3) (mK (.int 4)))) (mSome (mVar 3))) (mNil))) (mCallF 1 c_sum_octets (mCons (mSl (mVar 0)
    (mSome (mVar 1)) (mSome (mOp fSub (mVar 3) (mK (.int 4))))) (mNil))))) (mK .non) (mK (.str "broken")))))))))
/-! ### the sum -/
def cs (os : List Nat) : Nat := os.foldl (fun t o => (t * 256 + o) % 4294967291) 1
theorem cs_step {x : Option D} {i j : Int} {A : AH} (cm : CMul i 256) : mSet 1 (mOp fMod (mOp fAdd (mOp fMul (mVar 1) (mK (.int 256))) (mVar 2)) (mK (.int 4294967291))) [x, some (.int i), some (.int j)] A = .nx [x, some (.int ((i * 256 + j) % 4294967291)), some (.int j)] A := by
  simp only [ev_var, ev_K, ev_op, ev_neg, ev_tst, ev_and, ev_or, ev_not, ev_andV, ev_orV, ev_notV, ev_if, ev_chn, ev_nil, ev_cons, ev_tup, ev_lst, ev_new, ev_call, ev_callF, ev_callK, ev_met, ev_sl, ev_some, ev_none, ev_rev, ev_yes, ev_sq, ev_next, ev_drop, ev_ret, ev_ifs, ev_set, ev_par2, ev_par3, ev_asg, ev_nm, List.getElem?_cons_zero, List.getElem?_cons_succ, List.set_cons_zero, List.set_cons_succ, bind_ok, lift_ok, List.length_cons, List.length_nil, Nat.reduceAdd, Nat.reduceLeDiff, ↓reduceIte, if_true, if_false, Bool.false_eq_true, fMul, fI, cm, fAdd, fMod, show (0 : Int) < 4294967291 by decide]
theorem cs_go {x : Option D} {all : List D} {A : AH} (hx : x = some (.tup all)) : ∀ (os : List Nat) (t : Nat) (d : Option D), t < 4294967291 → ∃ d',
    forGo (.sq (.tup all)) all (.nm 2) (mSet 1 (mOp fMod (mOp fAdd (mOp fMul (mVar 1) (mK (.int 256))) (mVar 2)) (mK (.int 4294967291)))) (dI os) [x, some (.int (t : Int)), d] A
      = .nx [x, some (.int ((os.foldl (fun t o => (t * 256 + o) % 4294967291) t : Nat) : Int)), d'] A
  | [], t, d, _ => ⟨d, for_nil rfl⟩
  | o :: os, t, d, ht => by
    obtain ⟨d', e⟩ := cs_go (x := x) (all := all) (A := A) hx os ((t * 256 + o) % 4294967291) (some (.int o)) (Nat.mod_lt _ (by decide))
    refine ⟨d', ?_⟩
    rw [List.foldl_cons, show dI (o :: os) = .int o :: dI os from rfl]
    have cm : CMul (t : Int) 256 := .inl ⟨by omega, by omega⟩
    have e1 : ((t : Int) * 256 + o) % 4294967291 = (((t * 256 + o) % 4294967291 : Nat) : Int) := by omega
    have st := cs_step (x := x) (A := A) (i := t) (j := o) cm
    rw [e1] at st
    exact (for_nx rfl rfl st).trans e
theorem check_ok {os : List Nat} {A : AH} : checkM [.tup (dI os)] A = .ok (.int (cs os : Nat)) A := by
  obtain ⟨d', e⟩ := cs_go (x := some (.tup (dI os))) (all := dI os) (A := A) rfl os 1 none (by decide)
  unfold checkM
  refine fun_rt ?_
  refine (seq_nx (ρ1 := [some (.tup (dI os)), some (.int (1 : Nat)), none]) (A1 := A) rfl).trans ?_
  refine (seq_nx (ρ1 := [some (.tup (dI os)), some (.int ((cs os : Nat) : Int)), d']) (A1 := A) ?_).trans ?_
  · simp only [ev_var, ev_K, ev_op, ev_neg, ev_tst, ev_and, ev_or, ev_not, ev_andV, ev_orV, ev_notV, ev_if, ev_chn, ev_nil, ev_cons, ev_tup, ev_lst, ev_new, ev_call, ev_callF, ev_callK, ev_met, ev_sl, ev_some, ev_none, ev_rev, ev_yes, ev_sq, ev_next, ev_drop, ev_ret, ev_ifs, ev_set, ev_par2, ev_par3, ev_asg, ev_nm, List.getElem?_cons_zero, List.getElem?_cons_succ, List.set_cons_zero, List.set_cons_succ, bind_ok, lift_ok, List.length_cons, List.length_nil, Nat.reduceAdd, Nat.reduceLeDiff, ↓reduceIte, if_true, if_false, Bool.false_eq_true, ev_for, itemsOf, seqOf]
    exact e
  · simp only [ev_var, ev_K, ev_op, ev_neg, ev_tst, ev_and, ev_or, ev_not, ev_andV, ev_orV, ev_notV, ev_if, ev_chn, ev_nil, ev_cons, ev_tup, ev_lst, ev_new, ev_call, ev_callF, ev_callK, ev_met, ev_sl, ev_some, ev_none, ev_rev, ev_yes, ev_sq, ev_next, ev_drop, ev_ret, ev_ifs, ev_set, ev_par2, ev_par3, ev_asg, ev_nm, List.getElem?_cons_zero, List.getElem?_cons_succ, List.set_cons_zero, List.set_cons_succ, bind_ok, lift_ok, List.length_cons, List.length_nil, Nat.reduceAdd, Nat.reduceLeDiff, ↓reduceIte, if_true, if_false, Bool.false_eq_true]
theorem pair_ok {n : Nat} {A : AH} : pairM [.int n] A = .ok (.tup (dI [n / 256, n % 256])) A := by
  have e1 : (n : Int) / 2 ^ (Int.toNat 8) = ((n / 256 : Nat) : Int) := by
    show (n : Int) / 256 = _
    omega
  have e2 : Builtin.bitAnd (n : Int) 255 = ((n % 256 : Nat) : Int) := by
    have h := Bits.bitAnd_mask (x := (n : Int)) 8 (by omega)
    have h2 : ((2 : Int) ^ 8 - 1) = 255 := rfl
    rw [h2] at h
    rw [h]
    show (n : Int) % 256 = _
    omega
  unfold pairM
  refine fun_rt ?_
  simp only [ev_var, ev_K, ev_op, ev_neg, ev_tst, ev_and, ev_or, ev_not, ev_andV, ev_orV, ev_notV, ev_if, ev_chn, ev_nil, ev_cons, ev_tup, ev_lst, ev_new, ev_call, ev_callF, ev_callK, ev_met, ev_sl, ev_some, ev_none, ev_rev, ev_yes, ev_sq, ev_next, ev_drop, ev_ret, ev_ifs, ev_set, ev_par2, ev_par3, ev_asg, ev_nm, List.getElem?_cons_zero, List.getElem?_cons_succ, List.set_cons_zero, List.set_cons_succ, bind_ok, lift_ok, List.length_cons, List.length_nil, Nat.reduceAdd, Nat.reduceLeDiff, ↓reduceIte, if_true, if_false, Bool.false_eq_true, fShr, fAnd, fI, fI0, show (0 : Int) ≤ 8 by decide, List.map_cons, List.map_nil, List.replicate, List.cons_append, List.nil_append, e1, e2]
  rfl
theorem and_word {n : Nat} : Builtin.bitAnd (n : Int) 65535 = ((n % 65536 : Nat) : Int) := by
  have h := Bits.bitAnd_mask (x := (n : Int)) 16 (by omega)
  have h2 : ((2 : Int) ^ 16 - 1) = 65535 := rfl
  rw [h2] at h
  rw [h]
  show (n : Int) % 65536 = _
  omega
def s4 (os : List Nat) : List Nat := [cs os / 65536 / 256, cs os / 65536 % 256, cs os % 65536 / 256, cs os % 65536 % 256]
theorem add_tup {xs ys : List D} {A : AH} (h : xs.length + ys.length ≤ 16777216) : fAdd (.tup xs) (.tup ys) A = .ok (.tup (xs ++ ys)) A := if_pos h
theorem sum_ok {os : List Nat} {A : AH} : sumM checkM pairM [.tup (dI os)] A = .ok (.tup (dI (s4 os))) A := by
  have e1 : (cs os : Int) / 2 ^ (Int.toNat 16) = ((cs os / 65536 : Nat) : Int) := by
    show (cs os : Int) / 65536 = _
    omega
  unfold sumM
  refine fun_rt ?_
  refine (seq_nx (ρ1 := [some (.tup (dI os)), some (.int (cs os : Nat))]) (A1 := A) ?_).trans ?_
  · simp only [ev_var, ev_K, ev_op, ev_neg, ev_tst, ev_and, ev_or, ev_not, ev_andV, ev_orV, ev_notV, ev_if, ev_chn, ev_nil, ev_cons, ev_tup, ev_lst, ev_new, ev_call, ev_callF, ev_callK, ev_met, ev_sl, ev_some, ev_none, ev_rev, ev_yes, ev_sq, ev_next, ev_drop, ev_ret, ev_ifs, ev_set, ev_par2, ev_par3, ev_asg, ev_nm, List.getElem?_cons_zero, List.getElem?_cons_succ, List.set_cons_zero, List.set_cons_succ, bind_ok, lift_ok, List.length_cons, List.length_nil, Nat.reduceAdd, Nat.reduceLeDiff, ↓reduceIte, if_true, if_false, Bool.false_eq_true, List.map_cons, List.map_nil, List.replicate, List.cons_append, List.nil_append, Nat.reduceSub, check_ok]
  simp only [ev_var, ev_K, ev_op, ev_neg, ev_tst, ev_and, ev_or, ev_not, ev_andV, ev_orV, ev_notV, ev_if, ev_chn, ev_nil, ev_cons, ev_tup, ev_lst, ev_new, ev_call, ev_callF, ev_callK, ev_met, ev_sl, ev_some, ev_none, ev_rev, ev_yes, ev_sq, ev_next, ev_drop, ev_ret, ev_ifs, ev_set, ev_par2, ev_par3, ev_asg, ev_nm, List.getElem?_cons_zero, List.getElem?_cons_succ, List.set_cons_zero, List.set_cons_succ, bind_ok, lift_ok, List.length_cons, List.length_nil, Nat.reduceAdd, Nat.reduceLeDiff, ↓reduceIte, if_true, if_false, Bool.false_eq_true, fShr, fAnd, fI, fI0, show (0 : Int) ≤ 16 by decide, e1, and_word, pair_ok]
  rw [add_tup (by simp [dI])]
  rfl
/-! ### a frame -/
def hd4 (b : List Nat) : List Nat := [b.length / 256, b.length % 256, (65535 - b.length) / 256, (65535 - b.length) % 256]
def pf (b : List Nat) : List Nat := hd4 b ++ b ++ s4 (hd4 b ++ b)
theorem pf_length (b : List Nat) : (pf b).length = b.length + 8 := by
  simp [pf, hd4, s4]
theorem len_tup {os : List Nat} {A : AH} : fLen [.tup (dI os)] A = .ok (.int (os.length : Nat)) A := by
  simp only [fLen, seqOf, dI_length]
theorem tup_tup {xs : List D} {A : AH} : fTup [.tup xs] A = .ok (.tup xs) A := rfl
theorem put_ok {b : List Nat} {A : AH} (hb : b.length ≤ 65535) : putM (sumM checkM pairM) pairM [.tup (dI b)] A = .ok (.tup (dI (pf b))) A := by
  have e0 : decide ((b.length : Int) > 65535) = false := decide_eq_false (by omega)
  have e1 : (65535 : Int) - (b.length : Int) = ((65535 - b.length : Nat) : Int) := by omega
  unfold putM
  refine fun_rt ?_
  refine (seq_nx (ρ1 := [some (.tup (dI b)), none]) (A1 := A) ?_).trans ?_
  · simp only [ev_var, ev_K, ev_op, ev_neg, ev_tst, ev_and, ev_or, ev_not, ev_andV, ev_orV, ev_notV, ev_if, ev_chn, ev_nil, ev_cons, ev_tup, ev_lst, ev_new, ev_call, ev_callF, ev_callK, ev_met, ev_sl, ev_some, ev_none, ev_rev, ev_yes, ev_sq, ev_next, ev_drop, ev_ret, ev_ifs, ev_set, ev_par2, ev_par3, ev_asg, ev_nm, List.getElem?_cons_zero, List.getElem?_cons_succ, List.set_cons_zero, List.set_cons_succ, bind_ok, lift_ok, List.length_cons, List.length_nil, Nat.reduceAdd, Nat.reduceLeDiff, ↓reduceIte, if_true, if_false, Bool.false_eq_true, List.map_cons, List.map_nil, List.replicate, List.cons_append, List.nil_append, Nat.reduceSub, len_tup, fGt, fI0, e0]
  refine (seq_nx (ρ1 := [some (.tup (dI b)), some (.tup (dI (hd4 b ++ b)))]) (A1 := A) ?_).trans ?_
  · simp only [ev_var, ev_K, ev_op, ev_neg, ev_tst, ev_and, ev_or, ev_not, ev_andV, ev_orV, ev_notV, ev_if, ev_chn, ev_nil, ev_cons, ev_tup, ev_lst, ev_new, ev_call, ev_callF, ev_callK, ev_met, ev_sl, ev_some, ev_none, ev_rev, ev_yes, ev_sq, ev_next, ev_drop, ev_ret, ev_ifs, ev_set, ev_par2, ev_par3, ev_asg, ev_nm, List.getElem?_cons_zero, List.getElem?_cons_succ, List.set_cons_zero, List.set_cons_succ, bind_ok, lift_ok, List.length_cons, List.length_nil, Nat.reduceAdd, Nat.reduceLeDiff, ↓reduceIte, if_true, if_false, Bool.false_eq_true, len_tup, fSub, fI0, e1, pair_ok, tup_tup]
    rw [add_tup (by simp [dI])]
    simp only [bind_ok, ↓reduceIte]
    rw [add_tup (by simp [dI]; omega)]
    simp only [lift_ok, ← dI_append, List.set_cons_zero, List.set_cons_succ]
    rfl
  · simp only [ev_var, ev_K, ev_op, ev_neg, ev_tst, ev_and, ev_or, ev_not, ev_andV, ev_orV, ev_notV, ev_if, ev_chn, ev_nil, ev_cons, ev_tup, ev_lst, ev_new, ev_call, ev_callF, ev_callK, ev_met, ev_sl, ev_some, ev_none, ev_rev, ev_yes, ev_sq, ev_next, ev_drop, ev_ret, ev_ifs, ev_set, ev_par2, ev_par3, ev_asg, ev_nm, List.getElem?_cons_zero, List.getElem?_cons_succ, List.set_cons_zero, List.set_cons_succ, bind_ok, lift_ok, List.length_cons, List.length_nil, Nat.reduceAdd, Nat.reduceLeDiff, ↓reduceIte, if_true, if_false, Bool.false_eq_true, sum_ok]
    rw [add_tup (by simp [dI, s4, hd4]; omega), ← dI_append]
    rfl
end DM
end
section
set_option maxHeartbeats 1000000
namespace DM
open PySem PySem.Spec PyProof.Rows L2
section
variable {S : List D → AH → Res D} {T : D} {A : AH} {p n ia ib ic id : Int}
theorem fault_g1 (hl : fLen [T] A = .ok (.int n) A) (h1 : n < p + 4) : faultM S [T, .int p] A = .ok (.str "cut") A := by
  unfold faultM
  refine fun_rt ?_
  refine (seq_rt (d := .str "cut") (A1 := A) ?_)
  simp only [ev_var, ev_K, ev_op, ev_neg, ev_tst, ev_and, ev_or, ev_not, ev_andV, ev_orV, ev_notV, ev_if, ev_chn, ev_nil, ev_cons, ev_tup, ev_lst, ev_new, ev_call, ev_callF, ev_callK, ev_met, ev_sl, ev_some, ev_none, ev_rev, ev_yes, ev_sq, ev_next, ev_drop, ev_ret, ev_ifs, ev_set, ev_par2, ev_par3, ev_asg, ev_nm, List.getElem?_cons_zero, List.getElem?_cons_succ, List.set_cons_zero, List.set_cons_succ, bind_ok, lift_ok, List.length_cons, List.length_nil, Nat.reduceAdd, Nat.reduceLeDiff, ↓reduceIte, if_true, if_false, Bool.false_eq_true, List.map_cons, List.map_nil, List.replicate, List.cons_append, List.nil_append, Nat.reduceSub, hl, fAdd, fLt, fI0, decide_eq_true h1]
theorem fault_g2 (hl : fLen [T] A = .ok (.int n) A) (h1 : ¬ n < p + 4) (x0 : fIx T (.int p) A = .ok (.int ia) A) (x1 : fIx T (.int (p + 1)) A = .ok (.int ib) A) (x2 : fIx T (.int (p + 2)) A = .ok (.int ic) A) (x3 : fIx T (.int (p + 3)) A = .ok (.int id) A)
    (ca : CMul ia 256) (cc : CMul ic 256) (h2 : ia * 256 + ib + ic * 256 + id ≠ 65535) : faultM S [T, .int p] A = .ok (.str "broken") A := by
  unfold faultM
  refine fun_rt ?_
  refine (seq_nx (ρ1 := [some T, some (.int p), none, none]) (A1 := A) ?_).trans ?_
  · simp only [ev_var, ev_K, ev_op, ev_neg, ev_tst, ev_and, ev_or, ev_not, ev_andV, ev_orV, ev_notV, ev_if, ev_chn, ev_nil, ev_cons, ev_tup, ev_lst, ev_new, ev_call, ev_callF, ev_callK, ev_met, ev_sl, ev_some, ev_none, ev_rev, ev_yes, ev_sq, ev_next, ev_drop, ev_ret, ev_ifs, ev_set, ev_par2, ev_par3, ev_asg, ev_nm, List.getElem?_cons_zero, List.getElem?_cons_succ, List.set_cons_zero, List.set_cons_succ, bind_ok, lift_ok, List.length_cons, List.length_nil, Nat.reduceAdd, Nat.reduceLeDiff, ↓reduceIte, if_true, if_false, Bool.false_eq_true, List.map_cons, List.map_nil, List.replicate, List.cons_append, List.nil_append, Nat.reduceSub, hl, fAdd, fLt, fI0, decide_eq_false h1]
  refine (seq_nx (ρ1 := [some T, some (.int p), some (.int (ia * 256 + ib)), none]) (A1 := A) ?_).trans ?_
  · simp only [ev_var, ev_K, ev_op, ev_neg, ev_tst, ev_and, ev_or, ev_not, ev_andV, ev_orV, ev_notV, ev_if, ev_chn, ev_nil, ev_cons, ev_tup, ev_lst, ev_new, ev_call, ev_callF, ev_callK, ev_met, ev_sl, ev_some, ev_none, ev_rev, ev_yes, ev_sq, ev_next, ev_drop, ev_ret, ev_ifs, ev_set, ev_par2, ev_par3, ev_asg, ev_nm, List.getElem?_cons_zero, List.getElem?_cons_succ, List.set_cons_zero, List.set_cons_succ, bind_ok, lift_ok, List.length_cons, List.length_nil, Nat.reduceAdd, Nat.reduceLeDiff, ↓reduceIte, if_true, if_false, Bool.false_eq_true, x0, x1, fAdd, fMul, fI, ca]
  refine (seq_rt (d := .str "broken") (A1 := A) ?_)
  simp only [ev_var, ev_K, ev_op, ev_neg, ev_tst, ev_and, ev_or, ev_not, ev_andV, ev_orV, ev_notV, ev_if, ev_chn, ev_nil, ev_cons, ev_tup, ev_lst, ev_new, ev_call, ev_callF, ev_callK, ev_met, ev_sl, ev_some, ev_none, ev_rev, ev_yes, ev_sq, ev_next, ev_drop, ev_ret, ev_ifs, ev_set, ev_par2, ev_par3, ev_asg, ev_nm, List.getElem?_cons_zero, List.getElem?_cons_succ, List.set_cons_zero, List.set_cons_succ, bind_ok, lift_ok, List.length_cons, List.length_nil, Nat.reduceAdd, Nat.reduceLeDiff, ↓reduceIte, if_true, if_false, Bool.false_eq_true, x2, x3, fAdd, fMul, fI, cc, eq_ints, decide_eq_false h2, Bool.not_false]
theorem fault_g3 (hl : fLen [T] A = .ok (.int n) A) (h1 : ¬ n < p + 4) (x0 : fIx T (.int p) A = .ok (.int ia) A) (x1 : fIx T (.int (p + 1)) A = .ok (.int ib) A) (x2 : fIx T (.int (p + 2)) A = .ok (.int ic) A) (x3 : fIx T (.int (p + 3)) A = .ok (.int id) A)
    (ca : CMul ia 256) (cc : CMul ic 256) (h2 : ia * 256 + ib + ic * 256 + id = 65535) (h3 : n < p + (ia * 256 + ib) + 8) : faultM S [T, .int p] A = .ok (.str "cut") A := by
  unfold faultM
  refine fun_rt ?_
  refine (seq_nx (ρ1 := [some T, some (.int p), none, none]) (A1 := A) ?_).trans ?_
  · simp only [ev_var, ev_K, ev_op, ev_neg, ev_tst, ev_and, ev_or, ev_not, ev_andV, ev_orV, ev_notV, ev_if, ev_chn, ev_nil, ev_cons, ev_tup, ev_lst, ev_new, ev_call, ev_callF, ev_callK, ev_met, ev_sl, ev_some, ev_none, ev_rev, ev_yes, ev_sq, ev_next, ev_drop, ev_ret, ev_ifs, ev_set, ev_par2, ev_par3, ev_asg, ev_nm, List.getElem?_cons_zero, List.getElem?_cons_succ, List.set_cons_zero, List.set_cons_succ, bind_ok, lift_ok, List.length_cons, List.length_nil, Nat.reduceAdd, Nat.reduceLeDiff, ↓reduceIte, if_true, if_false, Bool.false_eq_true, List.map_cons, List.map_nil, List.replicate, List.cons_append, List.nil_append, Nat.reduceSub, hl, fAdd, fLt, fI0, decide_eq_false h1]
  refine (seq_nx (ρ1 := [some T, some (.int p), some (.int (ia * 256 + ib)), none]) (A1 := A) ?_).trans ?_
  · simp only [ev_var, ev_K, ev_op, ev_neg, ev_tst, ev_and, ev_or, ev_not, ev_andV, ev_orV, ev_notV, ev_if, ev_chn, ev_nil, ev_cons, ev_tup, ev_lst, ev_new, ev_call, ev_callF, ev_callK, ev_met, ev_sl, ev_some, ev_none, ev_rev, ev_yes, ev_sq, ev_next, ev_drop, ev_ret, ev_ifs, ev_set, ev_par2, ev_par3, ev_asg, ev_nm, List.getElem?_cons_zero, List.getElem?_cons_succ, List.set_cons_zero, List.set_cons_succ, bind_ok, lift_ok, List.length_cons, List.length_nil, Nat.reduceAdd, Nat.reduceLeDiff, ↓reduceIte, if_true, if_false, Bool.false_eq_true, x0, x1, fAdd, fMul, fI, ca]
  refine (seq_nx (ρ1 := [some T, some (.int p), some (.int (ia * 256 + ib)), none]) (A1 := A) ?_).trans ?_
  · simp only [ev_var, ev_K, ev_op, ev_neg, ev_tst, ev_and, ev_or, ev_not, ev_andV, ev_orV, ev_notV, ev_if, ev_chn, ev_nil, ev_cons, ev_tup, ev_lst, ev_new, ev_call, ev_callF, ev_callK, ev_met, ev_sl, ev_some, ev_none, ev_rev, ev_yes, ev_sq, ev_next, ev_drop, ev_ret, ev_ifs, ev_set, ev_par2, ev_par3, ev_asg, ev_nm, List.getElem?_cons_zero, List.getElem?_cons_succ, List.set_cons_zero, List.set_cons_succ, bind_ok, lift_ok, List.length_cons, List.length_nil, Nat.reduceAdd, Nat.reduceLeDiff, ↓reduceIte, if_true, if_false, Bool.false_eq_true, x2, x3, fAdd, fMul, fI, cc, eq_ints, decide_eq_true h2, Bool.not_true]
  refine (seq_nx (ρ1 := [some T, some (.int p), some (.int (ia * 256 + ib)), some (.int (p + (ia * 256 + ib) + 8))]) (A1 := A) ?_).trans ?_
  · simp only [ev_var, ev_K, ev_op, ev_neg, ev_tst, ev_and, ev_or, ev_not, ev_andV, ev_orV, ev_notV, ev_if, ev_chn, ev_nil, ev_cons, ev_tup, ev_lst, ev_new, ev_call, ev_callF, ev_callK, ev_met, ev_sl, ev_some, ev_none, ev_rev, ev_yes, ev_sq, ev_next, ev_drop, ev_ret, ev_ifs, ev_set, ev_par2, ev_par3, ev_asg, ev_nm, List.getElem?_cons_zero, List.getElem?_cons_succ, List.set_cons_zero, List.set_cons_succ, bind_ok, lift_ok, List.length_cons, List.length_nil, Nat.reduceAdd, Nat.reduceLeDiff, ↓reduceIte, if_true, if_false, Bool.false_eq_true, fAdd]
  refine (seq_rt (d := .str "cut") (A1 := A) ?_)
  simp only [ev_var, ev_K, ev_op, ev_neg, ev_tst, ev_and, ev_or, ev_not, ev_andV, ev_orV, ev_notV, ev_if, ev_chn, ev_nil, ev_cons, ev_tup, ev_lst, ev_new, ev_call, ev_callF, ev_callK, ev_met, ev_sl, ev_some, ev_none, ev_rev, ev_yes, ev_sq, ev_next, ev_drop, ev_ret, ev_ifs, ev_set, ev_par2, ev_par3, ev_asg, ev_nm, List.getElem?_cons_zero, List.getElem?_cons_succ, List.set_cons_zero, List.set_cons_succ, bind_ok, lift_ok, List.length_cons, List.length_nil, Nat.reduceAdd, Nat.reduceLeDiff, ↓reduceIte, if_true, if_false, Bool.false_eq_true, hl, fLt, fI0, decide_eq_true h3]
theorem fault_g4 {U U' V W : D} {k : Bool} (hl : fLen [T] A = .ok (.int n) A) (h1 : ¬ n < p + 4) (x0 : fIx T (.int p) A = .ok (.int ia) A) (x1 : fIx T (.int (p + 1)) A = .ok (.int ib) A) (x2 : fIx T (.int (p + 2)) A = .ok (.int ic) A) (x3 : fIx T (.int (p + 3)) A = .ok (.int id) A)
    (ca : CMul ia 256) (cc : CMul ic 256) (h2 : ia * 256 + ib + ic * 256 + id = 65535) (h3 : ¬ n < p + (ia * 256 + ib) + 8)
    (y1 : fSl T (some (p + (ia * 256 + ib) + 8 - 4)) (some (p + (ia * 256 + ib) + 8)) A = .ok U A) (y2 : fTup [U] A = .ok U' A) (y3 : fSl T (some p) (some (p + (ia * 256 + ib) + 8 - 4)) A = .ok V A) (y4 : S [V] A = .ok W A) (y5 : fEq false U' W A = .ok (.bl k) A) :
    faultM S [T, .int p] A = .ok (if k then .non else .str "broken") A := by
  unfold faultM
  refine fun_rt ?_
  refine (seq_nx (ρ1 := [some T, some (.int p), none, none]) (A1 := A) ?_).trans ?_
  · simp only [ev_var, ev_K, ev_op, ev_neg, ev_tst, ev_and, ev_or, ev_not, ev_andV, ev_orV, ev_notV, ev_if, ev_chn, ev_nil, ev_cons, ev_tup, ev_lst, ev_new, ev_call, ev_callF, ev_callK, ev_met, ev_sl, ev_some, ev_none, ev_rev, ev_yes, ev_sq, ev_next, ev_drop, ev_ret, ev_ifs, ev_set, ev_par2, ev_par3, ev_asg, ev_nm, List.getElem?_cons_zero, List.getElem?_cons_succ, List.set_cons_zero, List.set_cons_succ, bind_ok, lift_ok, List.length_cons, List.length_nil, Nat.reduceAdd, Nat.reduceLeDiff, ↓reduceIte, if_true, if_false, Bool.false_eq_true, List.map_cons, List.map_nil, List.replicate, List.cons_append, List.nil_append, Nat.reduceSub, hl, fAdd, fLt, fI0, decide_eq_false h1]
  refine (seq_nx (ρ1 := [some T, some (.int p), some (.int (ia * 256 + ib)), none]) (A1 := A) ?_).trans ?_
  · simp only [ev_var, ev_K, ev_op, ev_neg, ev_tst, ev_and, ev_or, ev_not, ev_andV, ev_orV, ev_notV, ev_if, ev_chn, ev_nil, ev_cons, ev_tup, ev_lst, ev_new, ev_call, ev_callF, ev_callK, ev_met, ev_sl, ev_some, ev_none, ev_rev, ev_yes, ev_sq, ev_next, ev_drop, ev_ret, ev_ifs, ev_set, ev_par2, ev_par3, ev_asg, ev_nm, List.getElem?_cons_zero, List.getElem?_cons_succ, List.set_cons_zero, List.set_cons_succ, bind_ok, lift_ok, List.length_cons, List.length_nil, Nat.reduceAdd, Nat.reduceLeDiff, ↓reduceIte, if_true, if_false, Bool.false_eq_true, x0, x1, fAdd, fMul, fI, ca]
  refine (seq_nx (ρ1 := [some T, some (.int p), some (.int (ia * 256 + ib)), none]) (A1 := A) ?_).trans ?_
  · simp only [ev_var, ev_K, ev_op, ev_neg, ev_tst, ev_and, ev_or, ev_not, ev_andV, ev_orV, ev_notV, ev_if, ev_chn, ev_nil, ev_cons, ev_tup, ev_lst, ev_new, ev_call, ev_callF, ev_callK, ev_met, ev_sl, ev_some, ev_none, ev_rev, ev_yes, ev_sq, ev_next, ev_drop, ev_ret, ev_ifs, ev_set, ev_par2, ev_par3, ev_asg, ev_nm, List.getElem?_cons_zero, List.getElem?_cons_succ, List.set_cons_zero, List.set_cons_succ, bind_ok, lift_ok, List.length_cons, List.length_nil, Nat.reduceAdd, Nat.reduceLeDiff, ↓reduceIte, if_true, if_false, Bool.false_eq_true, x2, x3, fAdd, fMul, fI, cc, eq_ints, decide_eq_true h2, Bool.not_true]
  refine (seq_nx (ρ1 := [some T, some (.int p), some (.int (ia * 256 + ib)), some (.int (p + (ia * 256 + ib) + 8))]) (A1 := A) ?_).trans ?_
  · simp only [ev_var, ev_K, ev_op, ev_neg, ev_tst, ev_and, ev_or, ev_not, ev_andV, ev_orV, ev_notV, ev_if, ev_chn, ev_nil, ev_cons, ev_tup, ev_lst, ev_new, ev_call, ev_callF, ev_callK, ev_met, ev_sl, ev_some, ev_none, ev_rev, ev_yes, ev_sq, ev_next, ev_drop, ev_ret, ev_ifs, ev_set, ev_par2, ev_par3, ev_asg, ev_nm, List.getElem?_cons_zero, List.getElem?_cons_succ, List.set_cons_zero, List.set_cons_succ, bind_ok, lift_ok, List.length_cons, List.length_nil, Nat.reduceAdd, Nat.reduceLeDiff, ↓reduceIte, if_true, if_false, Bool.false_eq_true, fAdd]
  refine (seq_nx (ρ1 := [some T, some (.int p), some (.int (ia * 256 + ib)), some (.int (p + (ia * 256 + ib) + 8))]) (A1 := A) ?_).trans ?_
  · simp only [ev_var, ev_K, ev_op, ev_neg, ev_tst, ev_and, ev_or, ev_not, ev_andV, ev_orV, ev_notV, ev_if, ev_chn, ev_nil, ev_cons, ev_tup, ev_lst, ev_new, ev_call, ev_callF, ev_callK, ev_met, ev_sl, ev_some, ev_none, ev_rev, ev_yes, ev_sq, ev_next, ev_drop, ev_ret, ev_ifs, ev_set, ev_par2, ev_par3, ev_asg, ev_nm, List.getElem?_cons_zero, List.getElem?_cons_succ, List.set_cons_zero, List.set_cons_succ, bind_ok, lift_ok, List.length_cons, List.length_nil, Nat.reduceAdd, Nat.reduceLeDiff, ↓reduceIte, if_true, if_false, Bool.false_eq_true, hl, fLt, fI0, decide_eq_false h3]
  simp only [ev_var, ev_K, ev_op, ev_neg, ev_tst, ev_and, ev_or, ev_not, ev_andV, ev_orV, ev_notV, ev_if, ev_chn, ev_nil, ev_cons, ev_tup, ev_lst, ev_new, ev_call, ev_callF, ev_callK, ev_met, ev_sl, ev_some, ev_none, ev_rev, ev_yes, ev_sq, ev_next, ev_drop, ev_ret, ev_ifs, ev_set, ev_par2, ev_par3, ev_asg, ev_nm, List.getElem?_cons_zero, List.getElem?_cons_succ, List.set_cons_zero, List.set_cons_succ, bind_ok, lift_ok, List.length_cons, List.length_nil, Nat.reduceAdd, Nat.reduceLeDiff, ↓reduceIte, if_true, if_false, Bool.false_eq_true, fSub, fI0, y1, y2, y3, y4, y5]
  cases k <;> rfl
end
/-! ### what is told of the octets from a place on -/
def ffR : List Nat → D
  | a :: b :: c :: d :: r => if a * 256 + b + c * 256 + d ≠ 65535 then .str "broken" else if r.length < a * 256 + b + 4 then .str "cut" else
      if (r.drop (a * 256 + b)).take 4 = s4 ((a :: b :: c :: d :: r).take (a * 256 + b + 4)) then .non else .str "broken"
  | _ => .str "cut"
theorem eqvAll_ints : ∀ L M : List Int, PyData.eqvAll (L.map PyData.int) (M.map PyData.int) = decide (L = M)
  | [], [] => rfl
  | [], _ :: _ => rfl
  | _ :: _, [] => rfl
  | x :: L, y :: M => by
    simp only [List.map_cons, PyData.eqvAll, PyData.eqv, eqvAll_ints L M]
    by_cases h : x = y <;> simp [h]
theorem cast_inj {L M : List Nat} : ((L.map fun n : Nat => (n : Int)) = M.map fun n : Nat => (n : Int)) ↔ L = M := by
  constructor
  · intro h
    exact List.map_inj_right (f := fun n : Nat => (n : Int)) (by intro a b h; exact Int.ofNat.inj h) |>.mp h
  · rintro rfl; rfl
theorem eq_tups {L M : List Nat} {A : AH} {neg : Bool} : fEq neg (.tup (dI L)) (.tup (dI M)) A = .ok (.bl (if neg then !decide (L = M) else decide (L = M))) A := by
  have e : cEq A (.tup (dI L)) (.tup (dI M)) = some (decide (L = M)) := by
    unfold cEq
    simp only [dI_ints, toPyA, toPy, toPys_ints, Option.map_some, shaped_tints, and_self, if_true, PyData.eqv, eqvAll_ints, cast_inj]
  unfold fEq
  rw [e]
theorem ix_dI {os : List Nat} {k v : Nat} {j : Int} {A : AH} (h : os[k]? = some v) (hj : j = k) : fIx (.tup (dI os)) (.int j) A = .ok (.int v) A := by
  subst hj
  refine ix_tup (atI_nat ?_)
  simp [dI, h]
theorem cut_nat {xs : List D} {lo hi : Nat} (h1 : lo ≤ hi) (h2 : hi ≤ xs.length) : cutD xs (some (lo : Int)) (some (hi : Int)) = (xs.drop lo).take (hi - lo) := by
  unfold cutD
  rw [HT.sIx_nat, HT.sIx_nat, Nat.min_eq_left h2, Nat.min_eq_left (Nat.le_trans h1 h2)]
theorem sl_dI {os : List Nat} {lo hi : Nat} {i j : Int} {A : AH} (h1 : lo ≤ hi) (h2 : hi ≤ os.length) (e1 : i = lo) (e2 : j = hi) : fSl (.tup (dI os)) (some i) (some j) A = .ok (.tup (dI ((os.drop lo).take (hi - lo)))) A := by
  subst e1; subst e2
  simp only [fSl]
  rw [cut_nat h1 (by rw [dI_length]; exact h2), dI_drop, dI_take]
theorem fault_ok {os : List Nat} {p : Nat} {A : AH} (hb : ∀ b ∈ os, b < 256) (hp : p ≤ os.length) : faultM (sumM checkM pairM) [.tup (dI os), .int p] A = .ok (ffR (os.drop p)) A := by
  by_cases h4 : os.length < p + 4
  · rw [fault_g1 len_tup (by omega)]
    have hl : (os.drop p).length < 4 := by rw [List.length_drop]; omega
    match hr : os.drop p, hl with
    | [], _ => rfl
    | [_], _ => rfl
    | [_, _], _ => rfl
    | [_, _, _], _ => rfl
    | _ :: _ :: _ :: _ :: _, hl => simp at hl; omega
  · have hl : 4 ≤ (os.drop p).length := by rw [List.length_drop]; omega
    match hr : os.drop p, hl with
    | a :: b :: c :: d :: r, _ =>
      have hi : ∀ i : Nat, os[p + i]? = (a :: b :: c :: d :: r)[i]? := fun i => by rw [← hr, List.getElem?_drop]
      have hrl : os.length = p + (r.length + 4) := by
        have := congrArg List.length hr
        simp at this
        omega
      have hm : ∀ (i v : Nat), os[p + i]? = some v → v < 256 := fun i v h => hb v (List.mem_of_getElem? h)
      have ga : os[p]? = some a := hi 0
      have gb : os[p + 1]? = some b := hi 1
      have gc : os[p + 2]? = some c := hi 2
      have gd : os[p + 3]? = some d := hi 3
      have ba := hm 0 a ga
      have bc := hm 2 c gc
      have ca : CMul (a : Int) 256 := .inl ⟨by omega, by omega⟩
      have cc : CMul (c : Int) 256 := .inl ⟨by omega, by omega⟩
      have x0 := ix_dI (j := (p : Int)) (A := A) ga rfl
      have x1 := ix_dI (j := (p : Int) + 1) (A := A) gb (by omega)
      have x2 := ix_dI (j := (p : Int) + 2) (A := A) gc (by omega)
      have x3 := ix_dI (j := (p : Int) + 3) (A := A) gd (by omega)
      have h1 : ¬ (os.length : Int) < (p : Int) + 4 := by omega
      by_cases h2 : a * 256 + b + c * 256 + d = 65535
      · by_cases h3 : r.length < a * 256 + b + 4
        · rw [fault_g3 len_tup h1 x0 x1 x2 x3 ca cc (by omega) (by omega)]
          simp only [ffR, h2, ne_eq, not_true_eq_false, if_false, h3, if_true]
        · have hd1 : (os.drop (p + (a * 256 + b) + 4)).take 4 = (r.drop (a * 256 + b)).take 4 := by
            have : os.drop (p + (a * 256 + b) + 4) = r.drop (a * 256 + b) := by
              rw [show p + (a * 256 + b) + 4 = p + (a * 256 + b + 4) by omega, ← List.drop_drop, hr]
              rfl
            rw [this]
          have y1 := sl_dI (os := os) (A := A) (lo := p + (a * 256 + b) + 4) (hi := p + (a * 256 + b) + 8) (i := (p : Int) + ((a : Int) * 256 + b) + 8 - 4) (j := (p : Int) + ((a : Int) * 256 + b) + 8) (by omega) (by omega) (by omega) (by omega)
          have y3 := sl_dI (os := os) (A := A) (lo := p) (hi := p + (a * 256 + b) + 4) (i := (p : Int)) (j := (p : Int) + ((a : Int) * 256 + b) + 8 - 4) (by omega) (by omega) rfl (by omega)
          rw [show p + (a * 256 + b) + 8 - (p + (a * 256 + b) + 4) = 4 by omega, hd1] at y1
          rw [show p + (a * 256 + b) + 4 - p = a * 256 + b + 4 by omega, hr] at y3
          rw [fault_g4 len_tup h1 x0 x1 x2 x3 ca cc (by omega) (by omega) y1 tup_tup y3 sum_ok eq_tups]
          simp only [ffR, h2, ne_eq, not_true_eq_false, if_false, h3]
          by_cases h5 : (r.drop (a * 256 + b)).take 4 = s4 ((a :: b :: c :: d :: r).take (a * 256 + b + 4))
          · rw [if_pos h5, decide_eq_true h5]; rfl
          · rw [if_neg h5, decide_eq_false h5]; rfl
      · rw [fault_g2 len_tup h1 x0 x1 x2 x3 ca cc (by omega)]
        simp only [ffR, ne_eq, h2, not_false_eq_true, if_true]
end DM
end
section
set_option maxHeartbeats 1000000
namespace DM
open PySem PySem.Spec PyProof.Rows L2
noncomputable def getM (c_frame_fault : List D → AH → Res D) : List D → AH → Res D := mFun 4 (mSeq (mSet 2 (mCallF 2 c_frame_fault (mCons (mVar 0) (mCons (mVar 1) (mNil))))) (mSeq (mIfS (mTst
    (mOp (fIsN true) (mVar 2) (mK .non))) (mBad) (mNext)) (mSeq (mSet 3 (mOp fAdd (mOp fAdd (mOp fAdd (mVar 1) (mOp fMul (mOp fIx (mVar 0) (mVar 1)) (mK (.int 256)))) (mOp fIx (mVar 0) (mOp fAdd (mVar
    1) (mK (.int 1))))) (mK (.int 8)))) (mRet (mTup (mCons (mCall fTup (mCons (mSl (mVar 0) (mSome (mOp fAdd (mVar 1) (mK (.int 4)))) (mSome (mOp fSub (mVar 3) (mK (.int 4))))) (mNil))) (mCons (mVar 3)
    (mNil))))))))
def rdBody (c_frame_fault : List D → AH → Res D) (c_get_frame : List D → AH → Res D) : MS := (mSeq (mAsg (.tp [.nm 4, .nm 2]) (mCallF 2
    c_get_frame (mCons (mVar 0) (mCons (mVar 2) (mNil))))) (mSeq (mDrop (mMet fApp (mVar 1) (mCons (mVar 4) (mNil)))) (mSet 3 (mCallF 2 c_frame_fault (mCons (mVar 0) (mCons (mVar 2) (mNil)))))))
def rdTst : MT := mTst (mOp (fIsN false) (mVar 3) (mK .non))
noncomputable def readM (c_frame_fault : List D → AH → Res D) (c_get_frame : List D → AH → Res D) : List D → AH → Res D := mFun 5 (mSeq (mPar3 1 2 3 (mCons (mNew (mNil)) (mCons (mK (.int 0))
    (mCons (mCallF 2 c_frame_fault (mCons (mVar 0) (mCons (mK (.int 0)) (mNil)))) (mNil))))) (mSeq (mWhile rdTst (rdBody c_frame_fault c_get_frame)) (mRet
    (mTup (mCons (mCall fTup (mCons (mVar 1) (mNil))) (mCons (mVar 2) (mCons (mIf (mTst (mOp (fEq false) (mVar 2) (mCall fLen (mCons (mVar 0) (mNil))))) (mK (.str "whole")) (mVar 3)) (mNil))))))))
section
variable {F G : List D → AH → Res D} {T U U' : D} {A : AH} {p n ia ib ic id : Int}
theorem get_g (hf : F [T, .int p] A = .ok .non A) (x0 : fIx T (.int p) A = .ok (.int ia) A) (x1 : fIx T (.int (p + 1)) A = .ok (.int ib) A) (ca : CMul ia 256)
    (y1 : fSl T (some (p + 4)) (some (p + ia * 256 + ib + 8 - 4)) A = .ok U A) (y2 : fTup [U] A = .ok U' A) : getM F [T, .int p] A = .ok (.tup [U', .int (p + ia * 256 + ib + 8)]) A := by
  unfold getM
  refine fun_rt ?_
  refine (seq_nx (ρ1 := [some T, some (.int p), some .non, none]) (A1 := A) ?_).trans ?_
  · simp only [ev_var, ev_K, ev_op, ev_neg, ev_tst, ev_and, ev_or, ev_not, ev_andV, ev_orV, ev_notV, ev_if, ev_chn, ev_nil, ev_cons, ev_tup, ev_lst, ev_new, ev_call, ev_callF, ev_callK, ev_met, ev_sl, ev_some, ev_none, ev_rev, ev_yes, ev_sq, ev_next, ev_drop, ev_ret, ev_ifs, ev_set, ev_par2, ev_par3, ev_asg, ev_nm, List.getElem?_cons_zero, List.getElem?_cons_succ, List.set_cons_zero, List.set_cons_succ, bind_ok, lift_ok, List.length_cons, List.length_nil, Nat.reduceAdd, Nat.reduceLeDiff, ↓reduceIte, if_true, if_false, Bool.false_eq_true, List.map_cons, List.map_nil, List.replicate, List.cons_append, List.nil_append, Nat.reduceSub, hf]
  refine (seq_nx (ρ1 := [some T, some (.int p), some .non, none]) (A1 := A) ?_).trans ?_
  · simp only [ev_var, ev_K, ev_op, ev_neg, ev_tst, ev_and, ev_or, ev_not, ev_andV, ev_orV, ev_notV, ev_if, ev_chn, ev_nil, ev_cons, ev_tup, ev_lst, ev_new, ev_call, ev_callF, ev_callK, ev_met, ev_sl, ev_some, ev_none, ev_rev, ev_yes, ev_sq, ev_next, ev_drop, ev_ret, ev_ifs, ev_set, ev_par2, ev_par3, ev_asg, ev_nm, List.getElem?_cons_zero, List.getElem?_cons_succ, List.set_cons_zero, List.set_cons_succ, bind_ok, lift_ok, List.length_cons, List.length_nil, Nat.reduceAdd, Nat.reduceLeDiff, ↓reduceIte, if_true, if_false, Bool.false_eq_true, fIsN, isNon, Bool.not_true]
  refine (seq_nx (ρ1 := [some T, some (.int p), some .non, some (.int (p + ia * 256 + ib + 8))]) (A1 := A) ?_).trans ?_
  · simp only [ev_var, ev_K, ev_op, ev_neg, ev_tst, ev_and, ev_or, ev_not, ev_andV, ev_orV, ev_notV, ev_if, ev_chn, ev_nil, ev_cons, ev_tup, ev_lst, ev_new, ev_call, ev_callF, ev_callK, ev_met, ev_sl, ev_some, ev_none, ev_rev, ev_yes, ev_sq, ev_next, ev_drop, ev_ret, ev_ifs, ev_set, ev_par2, ev_par3, ev_asg, ev_nm, List.getElem?_cons_zero, List.getElem?_cons_succ, List.set_cons_zero, List.set_cons_succ, bind_ok, lift_ok, List.length_cons, List.length_nil, Nat.reduceAdd, Nat.reduceLeDiff, ↓reduceIte, if_true, if_false, Bool.false_eq_true, x0, x1, fAdd, fMul, fI, ca]
  simp only [ev_var, ev_K, ev_op, ev_neg, ev_tst, ev_and, ev_or, ev_not, ev_andV, ev_orV, ev_notV, ev_if, ev_chn, ev_nil, ev_cons, ev_tup, ev_lst, ev_new, ev_call, ev_callF, ev_callK, ev_met, ev_sl, ev_some, ev_none, ev_rev, ev_yes, ev_sq, ev_next, ev_drop, ev_ret, ev_ifs, ev_set, ev_par2, ev_par3, ev_asg, ev_nm, List.getElem?_cons_zero, List.getElem?_cons_succ, List.set_cons_zero, List.set_cons_succ, bind_ok, lift_ok, List.length_cons, List.length_nil, Nat.reduceAdd, Nat.reduceLeDiff, ↓reduceIte, if_true, if_false, Bool.false_eq_true, fAdd, fSub, fI0, y1, y2]
theorem bind_pair {x y : D} {i j : Nat} {ρ : DM.Env} : bindT (.tp [.nm i, .nm j]) (.tup [x, y]) ρ = some ((ρ.set i (some x)).set j (some y)) := rfl
theorem read_turn {b w : D} {e : Int} {n : Nat} {xs : List D} (hA : A[n]? = some (.lst xs)) (hx : xs.length < 16777216) (hg : G [T, .int p] A = .ok (.tup [b, .int e]) A) (hf : F [T, .int e] (A.set n (.lst (xs ++ [b]))) = .ok w (A.set n (.lst (xs ++ [b])))) {o : Option D} :
    rdBody F G [some T, some (.ref n), some (.int p), some .non, o] A = .nx [some T, some (.ref n), some (.int e), some w, some b] (A.set n (.lst (xs ++ [b]))) := by
  unfold rdBody
  refine (seq_nx (ρ1 := [some T, some (.ref n), some (.int e), some .non, some b]) (A1 := A) ?_).trans ?_
  · simp only [ev_var, ev_K, ev_op, ev_neg, ev_tst, ev_and, ev_or, ev_not, ev_andV, ev_orV, ev_notV, ev_if, ev_chn, ev_nil, ev_cons, ev_tup, ev_lst, ev_new, ev_call, ev_callF, ev_callK, ev_met, ev_sl, ev_some, ev_none, ev_rev, ev_yes, ev_sq, ev_next, ev_drop, ev_ret, ev_ifs, ev_set, ev_par2, ev_par3, ev_asg, ev_nm, List.getElem?_cons_zero, List.getElem?_cons_succ, List.set_cons_zero, List.set_cons_succ, bind_ok, lift_ok, List.length_cons, List.length_nil, Nat.reduceAdd, Nat.reduceLeDiff, ↓reduceIte, if_true, if_false, Bool.false_eq_true, hg, bind_pair]
  refine (seq_nx (ρ1 := [some T, some (.ref n), some (.int e), some .non, some b]) (A1 := A.set n (.lst (xs ++ [b]))) ?_).trans ?_
  · simp only [ev_var, ev_K, ev_op, ev_neg, ev_tst, ev_and, ev_or, ev_not, ev_andV, ev_orV, ev_notV, ev_if, ev_chn, ev_nil, ev_cons, ev_tup, ev_lst, ev_new, ev_call, ev_callF, ev_callK, ev_met, ev_sl, ev_some, ev_none, ev_rev, ev_yes, ev_sq, ev_next, ev_drop, ev_ret, ev_ifs, ev_set, ev_par2, ev_par3, ev_asg, ev_nm, List.getElem?_cons_zero, List.getElem?_cons_succ, List.set_cons_zero, List.set_cons_succ, bind_ok, lift_ok, List.length_cons, List.length_nil, Nat.reduceAdd, Nat.reduceLeDiff, ↓reduceIte, if_true, if_false, Bool.false_eq_true, fApp, hA, hx]
  simp only [ev_var, ev_K, ev_op, ev_neg, ev_tst, ev_and, ev_or, ev_not, ev_andV, ev_orV, ev_notV, ev_if, ev_chn, ev_nil, ev_cons, ev_tup, ev_lst, ev_new, ev_call, ev_callF, ev_callK, ev_met, ev_sl, ev_some, ev_none, ev_rev, ev_yes, ev_sq, ev_next, ev_drop, ev_ret, ev_ifs, ev_set, ev_par2, ev_par3, ev_asg, ev_nm, List.getElem?_cons_zero, List.getElem?_cons_succ, List.set_cons_zero, List.set_cons_succ, bind_ok, lift_ok, List.length_cons, List.length_nil, Nat.reduceAdd, Nat.reduceLeDiff, ↓reduceIte, if_true, if_false, Bool.false_eq_true, hf]
theorem read_tst {x0 x1 x2 x4 : Option D} {w : D} : rdTst [x0, x1, x2, some w, x4] A = .ok (isNon w) A := by
  unfold rdTst
  simp only [ev_var, ev_K, ev_op, ev_neg, ev_tst, ev_and, ev_or, ev_not, ev_andV, ev_orV, ev_notV, ev_if, ev_chn, ev_nil, ev_cons, ev_tup, ev_lst, ev_new, ev_call, ev_callF, ev_callK, ev_met, ev_sl, ev_some, ev_none, ev_rev, ev_yes, ev_sq, ev_next, ev_drop, ev_ret, ev_ifs, ev_set, ev_par2, ev_par3, ev_asg, ev_nm, List.getElem?_cons_zero, List.getElem?_cons_succ, List.set_cons_zero, List.set_cons_succ, bind_ok, lift_ok, List.length_cons, List.length_nil, Nat.reduceAdd, Nat.reduceLeDiff, ↓reduceIte, if_true, if_false, Bool.false_eq_true, fIsN]
theorem eq_len {i j : Int} : fEq false (.int i) (.int j) A = .ok (.bl (decide (i = j))) A := rfl
end
/-! ### frames told and read -/
theorem hd4_app (b r : List Nat) : hd4 b ++ r = (b.length / 256) :: (b.length % 256) :: ((65535 - b.length) / 256) :: ((65535 - b.length) % 256) :: r := rfl
theorem pf_eq (b : List Nat) : pf b = (b.length / 256) :: (b.length % 256) :: ((65535 - b.length) / 256) :: ((65535 - b.length) % 256) :: (b ++ s4 (hd4 b ++ b)) := by
  unfold pf
  rw [List.append_assoc, hd4_app]
theorem s4_length (os : List Nat) : (s4 os).length = 4 := rfl
theorem ffR_cons {a b c d : Nat} {r : List Nat} : ffR (a :: b :: c :: d :: r) = if a * 256 + b + c * 256 + d ≠ 65535 then .str "broken" else if r.length < a * 256 + b + 4 then .str "cut" else if (r.drop (a * 256 + b)).take 4 = s4 ((a :: b :: c :: d :: r).take (a * 256 + b + 4)) then .non else .str "broken" := rfl
theorem ffR_whole {b rest : List Nat} (hb : b.length ≤ 65535) : ffR (pf b ++ rest) = .non := by
  rw [pf_eq]
  simp only [List.cons_append]
  rw [ffR_cons]
  have e : b.length / 256 * 256 + b.length % 256 = b.length := by omega
  rw [if_neg (by omega), e, if_neg (by simp [s4_length])]
  rw [if_pos]
  rw [← hd4_app, List.append_assoc, List.drop_left, List.take_left' (s4_length _), show b.length + 4 = (hd4 b ++ b).length by simp [hd4]]
  rw [← List.append_assoc, List.take_left]
theorem ffR_cut {b : List Nat} {c : Nat} (hb : b.length ≤ 65535) (hc : c < b.length + 8) : ffR ((pf b).take c) = .str "cut" := by
  rw [pf_eq]
  match c with
  | 0 => rfl
  | 1 => rfl
  | 2 => rfl
  | 3 => rfl
  | c + 4 =>
    simp only [List.take_succ_cons]
    rw [ffR_cons, if_neg (by omega), if_pos]
    rw [List.length_take, List.length_append, s4_length]
    omega
theorem s4_oct (os : List Nat) : ∀ b ∈ s4 os, b < 256 := by
  have h : cs os < 4294967296 := by
    suffices hh : ∀ (os : List Nat) (t : Nat), t < 4294967296 → os.foldl (fun t o => (t * 256 + o) % 4294967291) t < 4294967296 from hh os 1 (by decide)
    intro os
    induction os with
    | nil => intro t h; exact h
    | cons o os ih =>
      intro t _
      rw [List.foldl_cons]
      exact ih _ (Nat.lt_trans (Nat.mod_lt _ (by decide)) (by decide))
  intro b hb
  simp only [s4, List.mem_cons, List.not_mem_nil, or_false] at hb
  omega
theorem pf_oct {b : List Nat} (hb : b.length ≤ 65535) (h : ∀ x ∈ b, x < 256) : ∀ x ∈ pf b, x < 256 := by
  intro x hx
  unfold pf hd4 at hx
  rw [List.mem_append, List.mem_append] at hx
  rcases hx with (hx | hx) | hx
  · simp only [List.mem_cons, List.not_mem_nil, or_false] at hx
    omega
  · exact h x hx
  · exact s4_oct _ x hx
theorem get_ok {os b rest : List Nat} {p : Nat} {A : AH} (ho : ∀ x ∈ os, x < 256) (hb : b.length ≤ 65535) (hr : os.drop p = pf b ++ rest) :
    getM (faultM (sumM checkM pairM)) [.tup (dI os), .int p] A = .ok (.tup [.tup (dI b), .int ((p + b.length + 8 : Nat) : Int)]) A := by
  have hl : os.length - p = b.length + 8 + rest.length := by
    rw [← List.length_drop, hr, List.length_append, pf_length]
  have hp : p ≤ os.length := by omega
  have hi : ∀ i : Nat, os[p + i]? = (pf b ++ rest)[i]? := fun i => by rw [← hr, List.getElem?_drop]
  have ga : os[p]? = some (b.length / 256) := by rw [show p = p + 0 by omega, hi 0, pf_eq]; rfl
  have gb : os[p + 1]? = some (b.length % 256) := by rw [hi 1, pf_eq]; rfl
  have hd : (os.drop (p + 4)).take b.length = b := by
    rw [← List.drop_drop, hr, pf_eq]
    simp only [List.cons_append, List.drop_succ_cons, List.drop_zero, List.append_assoc]
    exact List.take_left
  have x0 := ix_dI (j := (p : Int)) (A := A) ga rfl
  have x1 := ix_dI (j := (p : Int) + 1) (A := A) gb (by omega)
  have hf : faultM (sumM checkM pairM) [.tup (dI os), .int p] A = .ok .non A := by
    rw [fault_ok ho hp, hr, ffR_whole hb]
  have y1 := sl_dI (os := os) (A := A) (lo := p + 4) (hi := p + 4 + b.length) (i := (p : Int) + 4) (j := (p : Int) + ((b.length / 256 : Nat) : Int) * 256 + ((b.length % 256 : Nat) : Int) + 8 - 4) (by omega) (by omega) (by omega) (by omega)
  rw [show p + 4 + b.length - (p + 4) = b.length by omega, hd] at y1
  rw [get_g hf x0 x1 (.inl ⟨by omega, by omega⟩) y1 tup_tup, show (p : Int) + ((b.length / 256 : Nat) : Int) * 256 + ((b.length % 256 : Nat) : Int) + 8 = ((p + b.length + 8 : Nat) : Int) by omega]
def tups (bs : List (List Nat)) : List D := bs.map fun b => D.tup (dI b)
def tot (bs : List (List Nat)) : Nat := (bs.map fun b => b.length + 8).sum
theorem set_get {A : AH} {n : Nat} {o u : AO} (h : A[n]? = some o) : (A.set n u)[n]? = some u := List.getElem?_set_self (List.getElem?_eq_some_iff.mp h).1
theorem read_go {os rest : List Nat} {w : D} {n : Nat} (ho : ∀ x ∈ os, x < 256) (hw : ffR rest = w) (hn : isNon w = false) : ∀ (bs : List (List Nat)) (p : Nat) (xs : List D) (A : AH) (o : Option D), (∀ b ∈ bs, b.length ≤ 65535) → os.drop p = (bs.map pf).flatten ++ rest → p ≤ os.length → A[n]? = some (.lst xs) → xs.length + bs.length < 16777216 →
    ∃ o', iterW rdTst (rdBody (faultM (sumM checkM pairM)) (getM (faultM (sumM checkM pairM)))) (bs.length + 1) [some (.tup (dI os)), some (.ref n), some (.int p), some (ffR (os.drop p)), o] A
      = .nx [some (.tup (dI os)), some (.ref n), some (.int ((p + tot bs : Nat) : Int)), some w, o'] (A.set n (.lst (xs ++ tups bs)))
  | [], p, xs, A, o, _, hr, hp, hA, _ => by
    refine ⟨o, ?_⟩
    rw [hr]
    have e : A.set n (.lst (xs ++ tups [])) = A := by
      have h1 := List.getElem?_eq_some_iff.mp hA
      rw [show xs ++ tups [] = xs by simp [tups], ← h1.2]
      exact List.set_getElem_self h1.1
    rw [e]
    simp only [List.map_nil, List.flatten_nil, List.nil_append, hw]
    unfold iterW
    rw [read_tst, hn]
    simp [tot]
  | b :: bs, p, xs, A, o, hb, hr, hp, hA, hl => by
    have hb1 : b.length ≤ 65535 := hb b List.mem_cons_self
    simp only [List.map_cons, List.flatten_cons, List.append_assoc] at hr
    simp only [List.length_cons] at hl
    have hlen : os.length - p = b.length + 8 + ((bs.map pf).flatten ++ rest).length := by
      rw [← List.length_drop, hr, List.length_append, pf_length]
    have hr2 : os.drop (p + b.length + 8) = (bs.map pf).flatten ++ rest := by
      rw [Nat.add_assoc, ← List.drop_drop, hr, ← pf_length b, List.drop_left]
    obtain ⟨o', ih⟩ := read_go ho hw hn bs (p + b.length + 8) (xs ++ [.tup (dI b)]) (A.set n (.lst (xs ++ [.tup (dI b)]))) (some (.tup (dI b))) (fun x hx => hb x (List.mem_cons_of_mem _ hx)) hr2 (by omega) (set_get hA) (by simp; omega)
    refine ⟨o', ?_⟩
    have t1 : ffR (os.drop p) = .non := by rw [hr, ffR_whole hb1]
    rw [t1]
    have turn := read_turn (F := faultM (sumM checkM pairM)) (G := getM (faultM (sumM checkM pairM))) (o := o) (T := .tup (dI os)) (w := ffR (os.drop (p + b.length + 8))) hA (by omega) (get_ok (A := A) ho hb1 hr) (fault_ok ho (by omega))
    rw [List.length_cons]
    conv => lhs; unfold iterW
    rw [read_tst]
    simp only [isNon, turn]
    rw [ih, List.set_set]
    simp only [tot, tups, List.map_cons, List.sum_cons, List.append_assoc, List.cons_append, List.nil_append]
    rw [show p + b.length + 8 + (bs.map fun b => b.length + 8).sum = p + (b.length + 8 + (bs.map fun b => b.length + 8).sum) by omega]
/-- what read_frames tells -/
def rdD (bs : List (List Nat)) (full : Bool) (w : D) : D := .tup [.tup (tups bs), .int ((tot bs : Nat) : Int), if full then .str "whole" else w]
theorem read_ok {os rest : List Nat} {w : D} {bs : List (List Nat)} {A : AH} (ho : ∀ x ∈ os, x < 256) (hw : ffR rest = w) (hn : isNon w = false) (hb : ∀ b ∈ bs, b.length ≤ 65535) (hr : os = (bs.map pf).flatten ++ rest) (hl : bs.length < 16777216) :
    readM (faultM (sumM checkM pairM)) (getM (faultM (sumM checkM pairM))) [.tup (dI os)] A = .ok (rdD bs (decide (tot bs = os.length)) w) (A ++ [.lst (tups bs)]) := by
  have hA : (A ++ [AO.lst []])[A.length]? = some (.lst []) := by simp
  obtain ⟨o', h⟩ := read_go (n := A.length) ho hw hn bs 0 [] (A ++ [AO.lst []]) none hb (by rw [List.drop_zero]; exact hr) (by omega) hA (by simpa using hl)
  have hset : (A ++ [AO.lst []]).set A.length (.lst (tups bs)) = A ++ [.lst (tups bs)] := by
    rw [List.set_append_right _ _ (Nat.le_refl _)]; simp
  rw [List.nil_append, hset, Nat.zero_add, List.drop_zero] at h
  have f0 := fault_ok (p := 0) (A := A ++ [AO.lst []]) ho (Nat.zero_le _)
  rw [List.drop_zero] at f0
  unfold readM
  refine fun_rt ?_
  refine (seq_nx (ρ1 := [some (.tup (dI os)), some (.ref A.length), some (.int ((0 : Nat) : Int)), some (ffR os), none]) (A1 := A ++ [AO.lst []]) ?_).trans ?_
  · simp only [ev_var, ev_K, ev_op, ev_neg, ev_tst, ev_and, ev_or, ev_not, ev_andV, ev_orV, ev_notV, ev_if, ev_chn, ev_nil, ev_cons, ev_tup, ev_lst, ev_new, ev_call, ev_callF, ev_callK, ev_met, ev_sl, ev_some, ev_none, ev_rev, ev_yes, ev_sq, ev_next, ev_drop, ev_ret, ev_ifs, ev_set, ev_par2, ev_par3, ev_asg, ev_nm, List.getElem?_cons_zero, List.getElem?_cons_succ, List.set_cons_zero, List.set_cons_succ, bind_ok, lift_ok, List.length_cons, List.length_nil, Nat.reduceAdd, Nat.reduceLeDiff, ↓reduceIte, if_true, if_false, Bool.false_eq_true, List.map_cons, List.map_nil, List.replicate, List.cons_append, List.nil_append, Nat.reduceSub]
    rw [show (D.int 0) = .int ((0 : Nat) : Int) from rfl, f0]
    simp only [bind_ok, lift_ok, List.set_cons_zero, List.set_cons_succ]
  refine (seq_nx (A1 := A ++ [.lst (tups bs)]) (mWhile_eq h (by intro z; cases z))).trans ?_
  have hx : (A ++ [AO.lst (tups bs)])[A.length]? = some (.lst (tups bs)) := by simp
  have tu : fTup [.ref A.length] (A ++ [AO.lst (tups bs)]) = .ok (.tup (tups bs)) (A ++ [AO.lst (tups bs)]) := by
    simp only [fTup, seqOf, hx]
  have ed : decide (((tot bs : Nat) : Int) = ((os.length : Nat) : Int)) = decide (tot bs = os.length) := by
    by_cases h : tot bs = os.length
    · rw [decide_eq_true h, decide_eq_true (by omega)]
    · rw [decide_eq_false h, decide_eq_false (by omega)]
  simp only [ev_ret, ev_tup, ev_cons, ev_call, ev_var, ev_if, ev_tst, ev_op, ev_nil, ev_K, List.getElem?_cons_zero, List.getElem?_cons_succ, bind_ok, tu, len_tup, eq_len, ed]
  unfold rdD
  cases decide (tot bs = os.length) <;> rfl
end DM
end
section
set_option maxHeartbeats 1000000
namespace DM
open PySem PySem.Spec PyProof.Rows L2
/-- data of few and small parts -/
structure Few (k w : Nat) (d : PyData) : Prop where
  lay : d.canLay0 = true
  short : d.leavesShort 13 = true
  sh : d.showable = true
  dep : d.depth ≤ k
  wt : d.weight ≤ w
theorem Few.mono {k w k' w' : Nat} {d : PyData} (h : Few k w d) (hk : k ≤ k') (hw : w ≤ w') : Few k' w' d := ⟨h.lay, h.short, h.sh, Nat.le_trans h.dep hk, Nat.le_trans h.wt hw⟩
theorem few_int {i : Int} (h : i.natAbs < 10 ^ 12) : Few 0 40 (.int i) := by
  have hl : i.natAbs.log2 < 40 := by
    by_cases h0 : i.natAbs = 0
    · rw [h0]; decide
    · exact (Nat.log2_lt h0).mpr (Nat.lt_trans h (by decide))
  refine ⟨rfl, ?_, ?_, Nat.le_refl _, ?_⟩
  · simp only [PyData.leavesShort]
    exact decide_eq_true (PyData.shown_int_le h)
  · simp only [PyData.showable]
    exact decide_eq_true (by omega)
  · simp only [PyData.weight]
    split <;> omega
theorem few_all {k w : Nat} : ∀ xs : List PyData, (∀ x ∈ xs, Few k w x) → PyData.canLayAll0 xs = true ∧ PyData.leavesShortAll 13 xs = true ∧ PyData.showableAll xs = true ∧ PyData.depthAll xs ≤ k ∧ PyData.weightAll xs ≤ xs.length * (w + 1)
  | [], _ => ⟨rfl, rfl, rfl, Nat.zero_le _, by simp [PyData.weightAll]⟩
  | x :: xs, h => by
    obtain ⟨a, b, c, d, e⟩ := few_all xs fun y hy => h y (List.mem_cons_of_mem _ hy)
    have f := h x List.mem_cons_self
    refine ⟨?_, ?_, ?_, ?_, ?_⟩
    · simp only [PyData.canLayAll0, f.lay, a, Bool.and_self]
    · simp only [PyData.leavesShortAll, f.short, b, Bool.and_self]
    · simp only [PyData.showableAll, f.sh, c, Bool.and_self]
    · simp only [PyData.depthAll]
      exact Nat.max_le.mpr ⟨f.dep, d⟩
    · simp only [PyData.weightAll, List.length_cons, Nat.add_mul, Nat.one_mul]
      have := f.wt
      omega
theorem few_tuple {k w : Nat} {xs : List PyData} (h : ∀ x ∈ xs, Few k w x) : Few (k + 1) (xs.length * (w + 1)) (.tuple xs) := by
  obtain ⟨a, b, c, d, e⟩ := few_all xs h
  exact ⟨by simpa only [PyData.canLay0] using a, by simpa only [PyData.leavesShort] using b, by simpa only [PyData.showable] using c, by simp only [PyData.depth]; omega, by simpa only [PyData.weight] using e⟩
theorem few_list {k w : Nat} {xs : List PyData} (h : ∀ x ∈ xs, Few k w x) : Few (k + 1) (xs.length * (w + 1)) (.list xs) := by
  obtain ⟨a, b, c, d, e⟩ := few_all xs h
  exact ⟨by simpa only [PyData.canLay0] using a, by simpa only [PyData.leavesShort] using b, by simpa only [PyData.showable] using c, by simp only [PyData.depth]; omega, by simpa only [PyData.weight] using e⟩
mutual
theorem eqv_self : ∀ d : PyData, d.canLay0 = true → PyData.eqv d d = true
  | .none, _ => rfl
  | .bool b, _ => by cases b <;> rfl
  | .int i, _ => by simp [PyData.eqv]
  | .str x, _ => by simp [PyData.eqv]
  | .list xs, h => by
    simp only [PyData.eqv]
    exact eqvAll_self xs (by simpa only [PyData.canLay0] using h)
  | .tuple xs, h => by
    simp only [PyData.eqv]
    exact eqvAll_self xs (by simpa only [PyData.canLay0] using h)
  | .dict kvs, h => by simp [PyData.canLay0] at h
theorem eqvAll_self : ∀ xs : List PyData, PyData.canLayAll0 xs = true → PyData.eqvAll xs xs = true
  | [], _ => rfl
  | x :: xs, h => by
    simp only [PyData.canLayAll0, Bool.and_eq_true] at h
    simp only [PyData.eqvAll, eqv_self x h.1, eqvAll_self xs h.2, Bool.and_self]
end
theorem Few.shaped {k w : Nat} {d : PyData} (h : Few k w d) (hk : k ≤ 64) : SeqAt.shaped d = true := by
  unfold SeqAt.shaped
  rw [h.lay, decide_eq_true (Nat.le_trans h.dep hk)]
  rfl
theorem repr_few {xs : List D} {q : PyData} {k w : Nat} {A : AH} (h : toPy (.tup xs) = some q) (f : Few k w q) (hk : k ≤ 32) (hw : w ≤ 1048576) : fRepr [.tup xs] A = .ok (.str q.shown) A := by
  have e : toPyA A (.tup xs) = some q := h
  have hs : q.shown.length ≤ sizeLine := PyData.shown_fits (B := 13) (by decide) (by decide) f.short (Nat.le_trans f.wt (by simpa using hw))
  rw [sizeLine_eq] at hs
  unfold fRepr
  simp only [e]
  exact if_pos ⟨f.sh, hs, Nat.le_trans f.dep hk⟩
theorem eq_few {xs : List D} {q : PyData} {k w : Nat} {A : AH} (h : toPy (.tup xs) = some q) (f : Few k w q) (hk : k ≤ 64) {neg : Bool} : fEq neg (.tup xs) (.tup xs) A = .ok (.bl (!neg)) A := by
  have e : toPyA A (.tup xs) = some q := h
  have c : cEq A (.tup xs) (.tup xs) = some true := by
    unfold cEq
    simp only [e, f.shaped hk, and_self, if_true, eqv_self q f.lay]
  unfold fEq
  rw [c]
  cases neg <;> rfl
theorem eq_strs {x : Str} {A : AH} {neg : Bool} : fEq neg (.str x) (.str x) A = .ok (.bl (!neg)) A := by
  have c : cEq A (.str x) (.str x) = some true := by
    unfold cEq
    simp only [decide_true]
  unfold fEq
  rw [c]
  cases neg <;> rfl
/-! ### octets and bodies -/
def pyT (b : List Nat) : PyData := .tuple ((b.map fun n : Nat => (n : Int)).map PyData.int)
theorem toPy_dI (b : List Nat) : toPy (.tup (dI b)) = some (pyT b) := by
  rw [dI_ints]
  simp only [toPy, toPys_ints, Option.map_some, pyT]
theorem toPys_tups : ∀ bs : List (List Nat), toPys (tups bs) = some (bs.map pyT)
  | [] => rfl
  | b :: bs => by
    have ih := toPys_tups bs
    unfold tups at ih ⊢
    rw [List.map_cons, List.map_cons, toPys, toPy_dI, ih]
theorem few_pyT {b : List Nat} (h : ∀ x ∈ b, x < 256) : Few 1 (b.length * 41) (pyT b) := by
  have := few_tuple (k := 0) (w := 40) (xs := (b.map fun n : Nat => (n : Int)).map PyData.int) (by
    intro x hx
    obtain ⟨i, hi, rfl⟩ := List.mem_map.mp hx
    obtain ⟨n, hn, rfl⟩ := List.mem_map.mp hi
    exact few_int (by have := h n hn; simp; omega))
  simp only [List.length_map] at this
  exact this
theorem few_word {x : Str} (h1 : PyData.canLay0 (.str x) = true) (h2 : PyData.leavesShort 13 (.str x) = true) (h3 : x.cps.size ≤ 40) : Few 0 40 (.str x) := ⟨h1, h2, rfl, Nat.zero_le _, h3⟩
end DM
end
section
set_option maxHeartbeats 1000000
namespace DM
open PySem PySem.Spec PyProof.Rows L2
/-! ### where the frames end -/
theorem tot_append (a b : List (List Nat)) : tot (a ++ b) = tot a + tot b := by simp [tot]
theorem tot_one (b : List Nat) : tot [b] = b.length + 8 := by simp [tot]
theorem take_snoc {α : Type} {bs : List α} {i : Nat} {b : α} (h : bs[i]? = some b) : bs.take (i + 1) = bs.take i ++ [b] := by
  rw [List.take_succ, h]; rfl
theorem tot_succ {bs : List (List Nat)} {i : Nat} {b : List Nat} (h : bs[i]? = some b) : tot (bs.take (i + 1)) = tot (bs.take i) + (b.length + 8) := by
  rw [take_snoc h, tot_append, tot_one]
theorem flat_len : ∀ bs : List (List Nat), ((bs.map pf).flatten).length = tot bs
  | [] => rfl
  | b :: bs => by
    rw [List.map_cons, List.flatten_cons, List.length_append, pf_length, flat_len bs, show tot (b :: bs) = tot ([b] ++ bs) from rfl, tot_append, tot_one]
def eN (bs : List (List Nat)) (k : Nat) : List Int := (List.range (k + 1)).map fun i => ((tot (bs.take i) : Nat) : Int)
theorem eN_length (bs : List (List Nat)) (k : Nat) : (eN bs k).length = k + 1 := by simp [eN]
theorem eN_at {bs : List (List Nat)} {k i : Nat} (h : i ≤ k) : (eN bs k)[i]? = some ((tot (bs.take i) : Nat) : Int) := by
  unfold eN
  rw [List.getElem?_map, List.getElem?_range (by omega)]
  rfl
theorem eN_succ (bs : List (List Nat)) (k : Nat) : eN bs (k + 1) = eN bs k ++ [((tot (bs.take (k + 1)) : Nat) : Int)] := by
  unfold eN
  rw [List.range_succ, List.map_append]
  rfl
theorem eN_snoc (bs : List (List Nat)) (k : Nat) : ∃ L, eN bs k = L ++ [((tot (bs.take k) : Nat) : Int)] := by
  unfold eN
  rw [List.range_succ, List.map_append]
  exact ⟨_, rfl⟩
theorem tot_lt {bs : List (List Nat)} : ∀ {j i : Nat}, i < j → j ≤ bs.length → tot (bs.take i) < tot (bs.take j)
  | 0, i, h, _ => by omega
  | j + 1, i, h, hj => by
    have e := tot_succ (List.getElem?_eq_getElem (show j < bs.length by omega))
    rcases Nat.lt_or_ge i j with h1 | h1
    · have := tot_lt h1 (show j ≤ bs.length by omega)
      omega
    · have : i = j := by omega
      subst this
      omega
theorem tot_le {bs : List (List Nat)} {i j : Nat} (h : i ≤ j) (hj : j ≤ bs.length) : tot (bs.take i) ≤ tot (bs.take j) := by
  rcases Nat.lt_or_ge i j with h1 | h1
  · exact Nat.le_of_lt (tot_lt h1 hj)
  · have : i = j := by omega
    subst this; exact Nat.le_refl _
theorem many_is (bs : List (List Nat)) (c : Nat) : ∀ k : Nat, ∃ m, m ≤ k ∧ tot (bs.take m) ≤ c ∧ (m < k → c < tot (bs.take (m + 1)))
  | 0 => ⟨0, Nat.le_refl _, by simp [tot], by omega⟩
  | k + 1 => by
    obtain ⟨m, h1, h2, h3⟩ := many_is bs c k
    rcases Nat.lt_or_ge m k with h | h
    · exact ⟨m, by omega, h2, fun _ => h3 h⟩
    · have : m = k := by omega
      subst this
      rcases Nat.lt_or_ge c (tot (bs.take (m + 1))) with g | g
      · exact ⟨m, by omega, h2, fun _ => g⟩
      · exact ⟨m + 1, Nat.le_refl _, g, fun h => by omega⟩
theorem count_is (m : Nat) : ∀ k : Nat, ((List.range (k + 1)).filter fun i => decide (1 ≤ i) && decide (i ≤ m)).length = min m k
  | 0 => by simp
  | k + 1 => by
    rw [List.range_succ, List.filter_append, List.length_append, count_is m k]
    by_cases h : k + 1 ≤ m
    · have e : (decide (1 ≤ k + 1) && decide (k + 1 ≤ m)) = true := by simp; exact h
      rw [List.filter_cons, if_pos e]
      simp; omega
    · have e : ¬ (decide (1 ≤ k + 1) && decide (k + 1 ≤ m)) = true := by simp; omega
      rw [List.filter_cons, if_neg e]
      simp; omega
theorem many_count {bs : List (List Nat)} {c m : Nat} (h1 : m ≤ bs.length) (h2 : tot (bs.take m) ≤ c) (h3 : m < bs.length → c < tot (bs.take (m + 1))) :
    ((eN bs bs.length).filter fun i => decide (0 < i) && decide (i ≤ (c : Int))).length = m := by
  unfold eN
  rw [List.filter_map, List.length_map]
  have e : (List.range (bs.length + 1)).filter ((fun i : Int => decide (0 < i) && decide (i ≤ (c : Int))) ∘ fun i => ((tot (bs.take i) : Nat) : Int)) = (List.range (bs.length + 1)).filter fun i => decide (1 ≤ i) && decide (i ≤ m) := by
    refine List.filter_congr fun i hi => ?_
    have hi' : i ≤ bs.length := by have := List.mem_range.mp hi; omega
    have a : decide ((0 : Int) < ((tot (bs.take i) : Nat) : Int)) = decide (1 ≤ i) := by
      rcases Nat.eq_zero_or_pos i with rfl | h
      · rfl
      · have := tot_lt h hi'
        rw [decide_eq_true (show 1 ≤ i from h), decide_eq_true (by omega)]
    have b : decide (((tot (bs.take i) : Nat) : Int) ≤ (c : Int)) = decide (i ≤ m) := by
      rcases Nat.lt_or_ge m i with h | h
      · have := tot_le (bs := bs) (show m + 1 ≤ i from h) hi'
        have := h3 (by omega)
        rw [decide_eq_false (show ¬ i ≤ m by omega), decide_eq_false (by omega)]
      · have := tot_le (bs := bs) h h1
        rw [decide_eq_true h, decide_eq_true (by omega)]
    simp only [Function.comp, a, b]
  rw [e, count_is, Nat.min_eq_left h1]
theorem in_ends {bs : List (List Nat)} {c m : Nat} (h1 : m ≤ bs.length) (h2 : tot (bs.take m) ≤ c) (h3 : m < bs.length → c < tot (bs.take (m + 1))) :
    ((eN bs bs.length).any fun i => i == (c : Int)) = decide (tot (bs.take m) = c) := by
  by_cases h : tot (bs.take m) = c
  · rw [decide_eq_true h, List.any_eq_true]
    exact ⟨_, List.mem_of_getElem? (eN_at h1), by simp [h]⟩
  · rw [decide_eq_false h, List.any_eq_false]
    intro x hx
    obtain ⟨i, hi, rfl⟩ := List.mem_map.mp hx
    have hi' : i ≤ bs.length := by have := List.mem_range.mp hi; omega
    intro he
    have he : tot (bs.take i) = c := by have := eq_of_beq he; omega
    rcases Nat.lt_or_ge m i with g | g
    · have := tot_le (bs := bs) (show m + 1 ≤ i from g) hi'
      have := h3 (by omega)
      omega
    · rcases Nat.lt_or_ge i m with g' | g'
      · have := tot_lt g' h1
        omega
      · have : i = m := by omega
        subst this
        exact h he
/-- a cut of whole frames: the whole ones, and a piece that ends too soon -/
theorem cut_is {bs : List (List Nat)} {c m : Nat} (hb : ∀ b ∈ bs, b.length ≤ 65535) (h1 : m ≤ bs.length) (h2 : tot (bs.take m) ≤ c) (h3 : m < bs.length → c < tot (bs.take (m + 1))) (hc : c ≤ tot bs) :
    ∃ rest, ((bs.map pf).flatten).take c = ((bs.take m).map pf).flatten ++ rest ∧ ffR rest = .str "cut" := by
  have hl := flat_len (bs.take m)
  have hs : (bs.map pf).flatten = ((bs.take m).map pf).flatten ++ ((bs.drop m).map pf).flatten := by
    rw [← List.flatten_append, ← List.map_append, List.take_append_drop]
  rw [hs, List.take_append, hl, List.take_of_length_le (by omega)]
  refine ⟨_, rfl, ?_⟩
  rcases Nat.lt_or_ge m bs.length with g | g
  · have hg := h3 g
    have he := List.getElem?_eq_getElem g
    rw [tot_succ he] at hg
    rw [List.drop_eq_getElem_cons g, List.map_cons, List.flatten_cons, List.take_append_of_le_length (by rw [pf_length]; omega)]
    exact ffR_cut (hb _ (List.getElem_mem g)) (by omega)
  · rw [List.drop_eq_nil_of_le g]
    simp [ffR]
end DM
end
section
set_option maxHeartbeats 1000000
namespace DM
open PySem PySem.Spec PyProof.Rows L2
/-! ### one octet changed, or two beside one another -/
def csF (t : Nat) (os : List Nat) : Nat := os.foldl (fun t o => (t * 256 + o) % 4294967291) t
theorem csF_lt : ∀ (os : List Nat) (t : Nat), t < 4294967291 → csF t os < 4294967291
  | [], t, h => h
  | o :: os, t, h => csF_lt os _ (Nat.mod_lt _ (by decide))
theorem cs_lt (os : List Nat) : cs os < 4294967291 := csF_lt os 1 (by decide)
theorem csF_cons (t o : Nat) (os : List Nat) : csF t (o :: os) = csF ((t * 256 + o) % 4294967291) os := rfl
theorem csF_append (t : Nat) (a b : List Nat) : csF t (a ++ b) = csF (csF t a) b := List.foldl_append ..
theorem csF_inj : ∀ (os : List Nat) (t u : Nat), t < 4294967291 → u < 4294967291 → csF t os = csF u os → t = u
  | [], t, u, _, _, h => h
  | o :: os, t, u, ht, hu, h => by
    have e := csF_inj os _ _ (Nat.mod_lt _ (by decide)) (Nat.mod_lt _ (by decide)) h
    omega
theorem mod_in (a v : Nat) : (a % 4294967291 * 256 + v) % 4294967291 = (a * 256 + v) % 4294967291 := by
  rw [Nat.add_mod, Nat.mul_mod, Nat.mod_mod, ← Nat.mul_mod, ← Nat.add_mod]
theorem mul_zero_of (d n : Int) (h : d = 4294967291 * n) (h1 : -70000 ≤ d) (h2 : d ≤ 70000) : d = 0 := by
  have hn : n = 0 := by omega
  subst hn
  omega
theorem low_apart (d m n : Int) (h : d = 16777216 * m + 4294967291 * n) (h1 : -255 ≤ d) (h2 : d ≤ 255) (h3 : -255 ≤ m) (h4 : m ≤ 255) : d = 0 := by
  have hn : n = 0 := by
    rcases Int.lt_trichotomy n 0 with g | g | g
    · have : 4294967291 * n ≤ -4294967291 := by omega
      omega
    · exact g
    · have : 4294967291 ≤ 4294967291 * n := by omega
      omega
  subst hn
  omega
theorem two_eq {x u v u' v' k k' r : Int} (a : 4294967291 * k' + r = (x * 256 + u') * 256 + v') (b : 4294967291 * k + r = (x * 256 + u) * 256 + v) : (u' - u) * 256 + (v' - v) = 4294967291 * (k' - k) := by omega
theorem two_nat {x u v u' v' k k' r : Nat} (hu : u < 256) (hv : v < 256) (hu' : u' < 256) (hv' : v' < 256) (a : 4294967291 * k' + r = (x * 256 + u') * 256 + v') (b : 4294967291 * k + r = (x * 256 + u) * 256 + v) : u' = u := by
  have e := mul_zero_of _ _ (two_eq (x := x) (u := u) (v := v) (u' := u') (v' := v') (k := k) (k' := k') (r := r) (by omega) (by omega)) (by omega) (by omega)
  omega
theorem two_apart {x u v u' v' : Nat} (hu : u < 256) (hv : v < 256) (hu' : u' < 256) (hv' : v' < 256) (h : ((x * 256 + u') * 256 + v') % 4294967291 = ((x * 256 + u) * 256 + v) % 4294967291) : u' = u := by
  have a := Nat.div_add_mod ((x * 256 + u') * 256 + v') 4294967291
  have b := Nat.div_add_mod ((x * 256 + u) * 256 + v) 4294967291
  rw [h] at a
  exact two_nat hu hv hu' hv' a b
theorem one_eq {x u u' k k' q q' s : Int} (a : 4294967291 * k' + (16777216 * q' + s) = x * 256 + u') (b : 4294967291 * k + (16777216 * q + s) = x * 256 + u) : u' - u = 16777216 * (q' - q) + 4294967291 * (k' - k) := by omega
theorem one_nat {x u u' k k' q q' s r r' : Nat} (hu : u < 256) (hu' : u' < 256) (a : 4294967291 * k' + r' = x * 256 + u') (b : 4294967291 * k + r = x * 256 + u) (a2 : 16777216 * q' + s = r') (b2 : 16777216 * q + s = r) (la : r' < 4294967291) (lb : r < 4294967291) : u' = u := by
  have ea : (4294967291 : Int) * k' + (16777216 * q' + s) = (x : Int) * 256 + u' := by
    clear b b2 la lb hu hu'
    omega
  have eb : (4294967291 : Int) * k + (16777216 * q + s) = (x : Int) * 256 + u := by
    clear a a2 la lb hu hu'
    omega
  have q1 : q' ≤ 255 := by
    clear a b b2 ea eb lb
    omega
  have q2 : q ≤ 255 := by
    clear a b a2 ea eb la
    omega
  have e0 := one_eq ea eb
  clear a b a2 b2 ea eb la lb
  have e := low_apart _ _ _ e0 (by clear e0; omega) (by clear e0; omega) (by clear e0; omega) (by clear e0; omega)
  clear e0
  omega
theorem prime_pos : 0 < 4294967291 := by omega
theorem one_apart {x u u' : Nat} (hu : u < 256) (hu' : u' < 256) (h : (x * 256 + u') % 4294967291 % 16777216 = (x * 256 + u) % 4294967291 % 16777216) : u' = u := by
  have a2 := Nat.div_add_mod ((x * 256 + u') % 4294967291) 16777216
  rw [h] at a2
  exact one_nat hu hu' (Nat.div_add_mod (x * 256 + u') 4294967291) (Nat.div_add_mod (x * 256 + u) 4294967291) a2 (Nat.div_add_mod ((x * 256 + u) % 4294967291) 16777216) (Nat.mod_lt _ prime_pos) (Nat.mod_lt _ prime_pos)
theorem cs_two {P2 S : List Nat} {u v u' v' : Nat} (hu : u < 256) (hv : v < 256) (hu' : u' < 256) (hv' : v' < 256) (hne : u' ≠ u) : cs (P2 ++ u' :: v' :: S) ≠ cs (P2 ++ u :: v :: S) := by
  intro h
  have h : csF 1 (P2 ++ u' :: v' :: S) = csF 1 (P2 ++ u :: v :: S) := h
  rw [csF_append, csF_append, csF_cons, csF_cons, csF_cons, csF_cons] at h
  have := csF_inj _ _ _ (Nat.mod_lt _ (by decide)) (Nat.mod_lt _ (by decide)) h
  rw [mod_in, mod_in] at this
  exact hne (two_apart hu hv hu' hv' this)
theorem cs_last {P2 : List Nat} {u u' : Nat} (hu : u < 256) (hu' : u' < 256) (hne : u' ≠ u) : cs (P2 ++ [u']) % 16777216 ≠ cs (P2 ++ [u]) % 16777216 := by
  have h1 : cs (P2 ++ [u']) = (csF 1 P2 * 256 + u') % 4294967291 := by
    show csF 1 _ = _
    rw [csF_append]; rfl
  have h2 : cs (P2 ++ [u]) = (csF 1 P2 * 256 + u) % 4294967291 := by
    show csF 1 _ = _
    rw [csF_append]; rfl
  rw [h1, h2]
  intro h
  exact hne (one_apart hu hu' h)
theorem s4_inj {a b : List Nat} (h : s4 a = s4 b) : cs a = cs b := by
  simp only [s4, List.cons.injEq, and_true] at h
  omega
theorem s4_low {a b : List Nat} {t : Nat} (h : s4 a = t :: (s4 b).tail) : cs a % 16777216 = cs b % 16777216 := by
  simp only [s4, List.tail_cons, List.cons.injEq, and_true] at h
  omega
theorem drop1 {v : Nat} {S S' : List Nat} (hl : S'.length = (v :: S).length) (hd : S'.drop 1 = (v :: S).drop 1) : ∃ v', S' = v' :: S := by
  cases S' with
  | nil => simp at hl
  | cons v' S2 => exact ⟨v', by simp at hd; rw [hd]⟩
/-- the frame's own part of what stands from its place on -/
theorem ff_frame {b0 b : List Nat} {t rest : List Nat} {w x y z : Nat} (hh : w * 256 + x + y * 256 + z = 65535) (hs : w * 256 + x = b.length) (ht : t.length = 4) (hne : t ≠ s4 (w :: x :: y :: z :: b)) : ffR (w :: x :: y :: z :: (b ++ (t ++ rest))) = .str "broken" := by
  rw [ffR_cons, if_neg (by omega), hs, if_neg (by simp [ht]), if_neg]
  rw [List.drop_left, List.take_left' ht]
  intro h
  apply hne
  rw [h, show (w :: x :: y :: z :: (b ++ (t ++ rest))) = (w :: x :: y :: z :: b) ++ (t ++ rest) by simp, List.take_left' (by simp)]
theorem app_cut {α : Type} : ∀ {P b : List α} {u : α} {S T : List α}, P ++ u :: S = b ++ T → P.length < b.length → ∃ b2, b = P ++ u :: b2 ∧ S = b2 ++ T
  | [], [], _, _, _, _, h => by simp at h
  | [], x :: b, u, S, T, e, _ => by
    simp at e
    exact ⟨b, by simp [e.1], e.2⟩
  | p :: P, [], _, _, _, _, h => by simp at h
  | p :: P, x :: b, u, S, T, e, h => by
    simp at e
    obtain ⟨b2, h1, h2⟩ := app_cut e.2 (by simpa using h)
    exact ⟨b2, by simp [e.1, h1], h2⟩
theorem app_past {α : Type} : ∀ {P b : List α} {u : α} {S T : List α}, P ++ u :: S = b ++ T → b.length ≤ P.length → ∃ P3, P = b ++ P3 ∧ P3 ++ u :: S = T
  | P, [], _, _, _, e, _ => ⟨P, rfl, e⟩
  | [], x :: b, _, _, _, _, h => by simp at h
  | p :: P, x :: b, u, S, T, e, h => by
    simp at e
    obtain ⟨P3, h1, h2⟩ := app_past e.2 (by simpa using h)
    exact ⟨P3, by simp [e.1, h1], h2⟩
theorem bent_broken {b rest P S S' : List Nat} {u u' : Nat} (hb : b.length ≤ 65535) (ho : ∀ x ∈ b, x < 256) (he : P ++ u :: S = pf b ++ rest) (hP : P.length < b.length + 8) (hu : u' < 256) (hu' : u' ≠ u) (hS : ∀ x ∈ S', x < 256) (hl : S'.length = S.length) (hd : S'.drop 1 = S.drop 1) :
    ffR (P ++ u' :: S') = .str "broken" := by
  have hoct := pf_oct hb ho
  rw [pf_eq] at he
  simp only [List.cons_append] at he
  have hn : b.length / 256 * 256 + b.length % 256 = b.length := by omega
  have hm : (65535 - b.length) / 256 * 256 + (65535 - b.length) % 256 = 65535 - b.length := by omega
  have l1 : b.length / 256 < 256 := by omega
  have l2 : b.length % 256 < 256 := by omega
  have l3 : (65535 - b.length) / 256 < 256 := by omega
  have l4 : (65535 - b.length) % 256 < 256 := by omega
  match P, hP, he with
  | [], _, he =>
    simp only [List.nil_append, List.cons.injEq] at he
    obtain ⟨rfl, rfl⟩ := he
    obtain ⟨v', rfl⟩ := drop1 hl hd
    have hv := hS v' List.mem_cons_self
    simp only [List.nil_append]
    rw [ffR_cons, if_pos]
    omega
  | [a], _, he =>
    simp only [List.cons_append, List.nil_append, List.cons.injEq] at he
    obtain ⟨rfl, rfl, rfl⟩ := he
    obtain ⟨v', rfl⟩ := drop1 hl hd
    have hv := hS v' List.mem_cons_self
    simp only [List.cons_append, List.nil_append]
    rw [ffR_cons, if_pos]
    omega
  | [a, a2], _, he =>
    simp only [List.cons_append, List.nil_append, List.cons.injEq] at he
    obtain ⟨rfl, rfl, rfl, rfl⟩ := he
    obtain ⟨v', rfl⟩ := drop1 hl hd
    have hv := hS v' List.mem_cons_self
    simp only [List.cons_append, List.nil_append]
    rw [ffR_cons, if_pos]
    omega
  | [a, a2, a3], _, he =>
    simp only [List.cons_append, List.nil_append, List.cons.injEq] at he
    obtain ⟨rfl, rfl, rfl, rfl, rfl⟩ := he
    simp only [List.cons_append, List.nil_append]
    rw [ffR_cons, if_pos]
    omega
  | a :: a2 :: a3 :: a4 :: P2, hP, he =>
    simp only [List.cons_append, List.cons.injEq] at he
    obtain ⟨rfl, rfl, rfl, rfl, he⟩ := he
    simp only [List.length_cons] at hP
    have hfr : hd4 b ++ b = (b.length / 256) :: (b.length % 256) :: ((65535 - b.length) / 256) :: ((65535 - b.length) % 256) :: b := hd4_app b b
    rw [hfr, List.append_assoc] at he
    simp only [List.cons_append]
    rcases Nat.lt_or_ge P2.length b.length with g | g
    · obtain ⟨b2, h1, h2⟩ := app_cut he g
      have hub : u < 256 := ho u (by rw [h1]; simp)
      cases b2 with
      | cons v b2 =>
        have hvb : v < 256 := ho v (by rw [h1]; simp)
        rw [List.cons_append] at h2
        subst h2
        obtain ⟨v', rfl⟩ := drop1 hl hd
        have hv := hS v' List.mem_cons_self
        have hlen : (P2 ++ u' :: v' :: b2).length = b.length := by rw [h1]; simp
        rw [show P2 ++ u' :: v' :: (b2 ++ (s4 ((b.length / 256) :: (b.length % 256) :: ((65535 - b.length) / 256) :: ((65535 - b.length) % 256) :: b) ++ rest)) = (P2 ++ u' :: v' :: b2) ++ (s4 ((b.length / 256) :: (b.length % 256) :: ((65535 - b.length) / 256) :: ((65535 - b.length) % 256) :: b) ++ rest) by simp]
        refine ff_frame (b0 := b) (by omega) (by rw [hlen]; omega) (s4_length _) ?_
        intro h
        have hc := s4_inj h
        generalize hw : b.length / 256 = w at *
        generalize hx : b.length % 256 = x at *
        generalize hy : (65535 - b.length) / 256 = y at *
        generalize hz : (65535 - b.length) % 256 = z at *
        rw [h1] at hc
        exact cs_two (P2 := w :: x :: y :: z :: P2) (S := b2) hub hvb hu hv hu' hc.symm
      | nil =>
        rw [List.nil_append] at h2
        have h2' : S = cs ((b.length / 256) :: (b.length % 256) :: ((65535 - b.length) / 256) :: ((65535 - b.length) % 256) :: b) / 65536 / 256 :: ((s4 ((b.length / 256) :: (b.length % 256) :: ((65535 - b.length) / 256) :: ((65535 - b.length) % 256) :: b)).tail ++ rest) := h2
        subst h2'
        obtain ⟨v', rfl⟩ := drop1 hl hd
        have hlen : (P2 ++ [u']).length = b.length := by rw [h1]; simp
        rw [show P2 ++ u' :: v' :: ((s4 ((b.length / 256) :: (b.length % 256) :: ((65535 - b.length) / 256) :: ((65535 - b.length) % 256) :: b)).tail ++ rest) = (P2 ++ [u']) ++ (v' :: (s4 ((b.length / 256) :: (b.length % 256) :: ((65535 - b.length) / 256) :: ((65535 - b.length) % 256) :: b)).tail ++ rest) by simp]
        refine ff_frame (b0 := b) (by omega) (by rw [hlen]; omega) rfl ?_
        intro h
        have hc := s4_low h.symm
        generalize hw : b.length / 256 = w at *
        generalize hx : b.length % 256 = x at *
        generalize hy : (65535 - b.length) / 256 = y at *
        generalize hz : (65535 - b.length) % 256 = z at *
        rw [h1] at hc
        exact cs_last (P2 := w :: x :: y :: z :: P2) hub hu hu' hc
    · obtain ⟨P3, rfl, h2⟩ := app_past he g
      rw [List.length_append] at hP
      generalize hT : s4 ((b.length / 256) :: (b.length % 256) :: ((65535 - b.length) / 256) :: ((65535 - b.length) % 256) :: b) = T at *
      have hT4 : T.length = 4 := by rw [← hT]; rfl
      have key : ∃ T', P3 ++ u' :: S' = T' ++ (P3 ++ u' :: S').drop 4 ∧ T'.length = 4 ∧ T' ≠ T := by
        have hlen : (P3 ++ u' :: S').length = (T ++ rest).length := by rw [← h2]; simp [hl]
        refine ⟨(P3 ++ u' :: S').take 4, (List.take_append_drop _ _).symm, by rw [List.length_take, hlen, List.length_append]; omega, ?_⟩
        intro h
        have ht : (P3 ++ u :: S).take 4 = T := by rw [h2, List.take_left' hT4]
        rw [← ht] at h
        have e1 := congrArg (fun l => l[P3.length]?) h
        simp only [List.getElem?_take] at e1
        rw [if_pos (by omega), if_pos (by omega)] at e1
        simp at e1
        exact hu' e1
      obtain ⟨T', k1, k2, k3⟩ := key
      rw [List.append_assoc, k1]
      exact ff_frame (b0 := b) (by omega) hn k2 (by rw [hT]; exact k3)
end DM
end
section
set_option maxHeartbeats 1000000
namespace DM
open PySem PySem.Spec PyProof.Rows L2
/-! ### any octets are frames and a rest -/
theorem ffR_or (r : List Nat) : ffR r = .non ∨ ffR r = .str "cut" ∨ ffR r = .str "broken" := by
  match r with
  | [] => exact .inr (.inl rfl)
  | [_] => exact .inr (.inl rfl)
  | [_, _] => exact .inr (.inl rfl)
  | [_, _, _] => exact .inr (.inl rfl)
  | a :: b :: c :: d :: r =>
    rw [ffR_cons]
    split
    · exact .inr (.inr rfl)
    · split
      · exact .inr (.inl rfl)
      · split
        · exact .inl rfl
        · exact .inr (.inr rfl)
theorem ffR_split {r : List Nat} (ho : ∀ x ∈ r, x < 256) (h : ffR r = .non) : ∃ b rest, r = pf b ++ rest ∧ b.length ≤ 65535 ∧ ∀ x ∈ b, x < 256 := by
  match r, h, ho with
  | [], h, _ => cases h
  | [_], h, _ => cases h
  | [_, _], h, _ => cases h
  | [_, _, _], h, _ => cases h
  | a :: b :: c :: d :: r, h, ho =>
    rw [ffR_cons] at h
    split at h
    · cases h
    · rename_i h1
      split at h
      · cases h
      · rename_i h2
        split at h
        · rename_i h3
          have ha := ho a (by simp)
          have hb := ho b (by simp)
          have hc := ho c (by simp)
          have hd := ho d (by simp)
          have hl : (r.take (a * 256 + b)).length = a * 256 + b := by rw [List.length_take]; omega
          refine ⟨r.take (a * 256 + b), (r.drop (a * 256 + b)).drop 4, ?_, by omega, fun x hx => ho x (by simp; exact .inr (.inr (.inr (.inr (List.mem_of_mem_take hx)))))⟩
          rw [pf_eq, hl, hd4_app, hl, show (a * 256 + b) / 256 = a by omega, show (a * 256 + b) % 256 = b by omega, show (65535 - (a * 256 + b)) / 256 = c by omega, show (65535 - (a * 256 + b)) % 256 = d by omega]
          have e : (a :: b :: c :: d :: r).take (a * 256 + b + 4) = a :: b :: c :: d :: r.take (a * 256 + b) := by simp
          rw [e] at h3
          rw [← h3]
          simp only [List.cons_append, List.append_assoc, List.take_append_drop]
        · cases h
theorem parts : ∀ (n : Nat) (os : List Nat), os.length ≤ n → (∀ x ∈ os, x < 256) → ∃ (bs : List (List Nat)) (rest : List Nat), os = (bs.map pf).flatten ++ rest ∧ (ffR rest = .str "cut" ∨ ffR rest = .str "broken") ∧ (∀ b ∈ bs, b.length ≤ 65535) ∧ ∀ b ∈ bs, ∀ x ∈ b, x < 256
  | 0, os, hl, _ => by
    have : os = [] := List.length_eq_zero_iff.mp (by omega)
    subst this
    exact ⟨[], [], rfl, .inl rfl, by simp, by simp⟩
  | n + 1, os, hl, ho => by
    rcases ffR_or os with h | h
    · obtain ⟨b, rest, rfl, hb, hob⟩ := ffR_split ho h
      rw [List.length_append, pf_length] at hl
      obtain ⟨bs, r, rfl, h1, h2, h3⟩ := parts n rest (by omega) fun x hx => ho x (List.mem_append_right _ hx)
      refine ⟨b :: bs, r, by simp, h1, ?_, ?_⟩
      · intro x hx
        rcases List.mem_cons.mp hx with rfl | hx
        · exact hb
        · exact h2 x hx
      · intro x hx
        rcases List.mem_cons.mp hx with rfl | hx
        · exact hob
        · exact h3 x hx
    · exact ⟨[], os, rfl, h, by simp, by simp⟩
/-! ### the law's own sum and frame -/
noncomputable def lsumM : List D → AH → Res D := mFun 3 (mSeq (mSet 1 (mK (.int 1))) (mSeq (mFor (mSq (mVar 0)) (.nm 2) (mSet 1 (mOp fAdd (mOp fMul (mK (.int 256)) (mVar 1)) (mVar 2)))) (mRet (mOp
    fMod (mCall fInt (mCons (mVar 1) (mNil))) (mK (.int 4294967291))))))
def frBody : MS := (mSeq (mSet 5 (mOp fAdd (mLst (mCons (mOp fMod (mCall fInt (mCons (mVar 4) (mNil)))
    (mK (.int 256))) (mNil))) (mVar 5))) (mSet 4 (mOp fDiv (mVar 4) (mK (.int 256)))))
noncomputable def lframeM (c__law_sum : List D → AH → Res D) : List D → AH → Res D := mFun 7 (mSeq (mPar2 1 2 (mCons (mCall fLen (mCons (mVar 0) (mNil))) (mCons (mOp fSub (mK (.int 65535)) (mCall
    fLen (mCons (mVar 0) (mNil)))) (mNil)))) (mSeq (mSet 3 (mOp fAdd (mTup (mCons (mOp fDiv (mVar 1) (mK (.int 256))) (mCons (mOp fMod (mCall fInt (mCons (mVar 1) (mNil))) (mK (.int 256))) (mCons (mOp
    fDiv (mVar 2) (mK (.int 256))) (mCons (mOp fMod (mCall fInt (mCons (mVar 2) (mNil))) (mK (.int 256))) (mNil)))))) (mCall fTup (mCons (mVar 0) (mNil))))) (mSeq (mPar2 4 5 (mCons (mCallF 1 c__law_sum
    (mCons (mVar 3) (mNil))) (mCons (mLst (mNil)) (mNil)))) (mSeq (mFor (mR1 (mCons (mK (.int 4)) (mNil))) (.nm 6) frBody) (mRet (mOp fAdd (mVar 3) (mCall fTup (mCons (mVar 5) (mNil)))))))))
def hor (t : Nat) (os : List Nat) : Nat := os.foldl (fun t o => 256 * t + o) t
theorem hor_mod : ∀ (os : List Nat) (t : Nat), hor t os % 4294967291 = csF (t % 4294967291) os
  | [], t => rfl
  | o :: os, t => by
    show hor (256 * t + o) os % 4294967291 = _
    rw [hor_mod os, csF_cons, mod_in, Nat.mul_comm]
theorem hor_step {x : Option D} {i j : Int} {A : AH} : mSet 1 (mOp fAdd (mOp fMul (mK (.int 256)) (mVar 1)) (mVar 2)) [x, some (.int i), some (.int j)] A = .nx [x, some (.int (256 * i + j)), some (.int j)] A := by
  have cm : CMul 256 i := .inl ⟨by omega, by omega⟩
  simp only [ev_var, ev_K, ev_op, ev_neg, ev_tst, ev_and, ev_or, ev_not, ev_andV, ev_orV, ev_notV, ev_if, ev_chn, ev_nil, ev_cons, ev_tup, ev_lst, ev_new, ev_call, ev_callF, ev_callK, ev_met, ev_sl, ev_some, ev_none, ev_rev, ev_yes, ev_sq, ev_next, ev_drop, ev_ret, ev_ifs, ev_set, ev_par2, ev_par3, ev_asg, ev_nm, List.getElem?_cons_zero, List.getElem?_cons_succ, List.set_cons_zero, List.set_cons_succ, bind_ok, lift_ok, List.length_cons, List.length_nil, Nat.reduceAdd, Nat.reduceLeDiff, ↓reduceIte, if_true, if_false, Bool.false_eq_true, fMul, fI, cm, fAdd]
theorem hor_go {x : Option D} {all : List D} {A : AH} : ∀ (os : List Nat) (t : Nat) (d : Option D), ∃ d',
    forGo (.sq (.tup all)) all (.nm 2) (mSet 1 (mOp fAdd (mOp fMul (mK (.int 256)) (mVar 1)) (mVar 2))) (dI os) [x, some (.int (t : Int)), d] A = .nx [x, some (.int ((hor t os : Nat) : Int)), d'] A
  | [], t, d => ⟨d, for_nil rfl⟩
  | o :: os, t, d => by
    obtain ⟨d', e⟩ := hor_go (x := x) (all := all) (A := A) os (256 * t + o) (some (.int o))
    have st := hor_step (x := x) (A := A) (i := t) (j := o)
    rw [show (256 : Int) * t + o = ((256 * t + o : Nat) : Int) by omega] at st
    rw [show hor t (o :: os) = hor (256 * t + o) os from rfl]
    exact ⟨d', (for_nx rfl rfl st).trans e⟩
theorem lsum_ok {os : List Nat} {A : AH} : lsumM [.tup (dI os)] A = .ok (.int (cs os : Nat)) A := by
  obtain ⟨d', e⟩ := hor_go (x := some (.tup (dI os))) (all := dI os) (A := A) os 1 none
  have em : ((hor 1 os : Nat) : Int) % 4294967291 = ((cs os : Nat) : Int) := by
    have h := hor_mod os 1
    rw [show 1 % 4294967291 = 1 from rfl, show csF 1 os = cs os from rfl] at h
    rw [← h]
    rfl
  generalize hor 1 os = w at *
  generalize hi : ((w : Nat) : Int) = i at *
  unfold lsumM
  refine fun_rt ?_
  refine (seq_nx (ρ1 := [some (.tup (dI os)), some (.int (1 : Nat)), none]) (A1 := A) rfl).trans ?_
  refine (seq_nx (ρ1 := [some (.tup (dI os)), some (.int i), d']) (A1 := A) ?_).trans ?_
  · simp only [ev_var, ev_K, ev_op, ev_neg, ev_tst, ev_and, ev_or, ev_not, ev_andV, ev_orV, ev_notV, ev_if, ev_chn, ev_nil, ev_cons, ev_tup, ev_lst, ev_new, ev_call, ev_callF, ev_callK, ev_met, ev_sl, ev_some, ev_none, ev_rev, ev_yes, ev_sq, ev_next, ev_drop, ev_ret, ev_ifs, ev_set, ev_par2, ev_par3, ev_asg, ev_nm, List.getElem?_cons_zero, List.getElem?_cons_succ, List.set_cons_zero, List.set_cons_succ, bind_ok, lift_ok, List.length_cons, List.length_nil, Nat.reduceAdd, Nat.reduceLeDiff, ↓reduceIte, if_true, if_false, Bool.false_eq_true, ev_for, itemsOf, seqOf]
    exact e
  · simp only [ev_var, ev_K, ev_op, ev_neg, ev_tst, ev_and, ev_or, ev_not, ev_andV, ev_orV, ev_notV, ev_if, ev_chn, ev_nil, ev_cons, ev_tup, ev_lst, ev_new, ev_call, ev_callF, ev_callK, ev_met, ev_sl, ev_some, ev_none, ev_rev, ev_yes, ev_sq, ev_next, ev_drop, ev_ret, ev_ifs, ev_set, ev_par2, ev_par3, ev_asg, ev_nm, List.getElem?_cons_zero, List.getElem?_cons_succ, List.set_cons_zero, List.set_cons_succ, bind_ok, lift_ok, List.length_cons, List.length_nil, Nat.reduceAdd, Nat.reduceLeDiff, ↓reduceIte, if_true, if_false, Bool.false_eq_true, fInt, fMod, fI, show (0 : Int) < 4294967291 by decide, em]
theorem fr_step {x0 x1 x2 x3 : Option D} {i j t : Int} {L : List D} {A : AH} (hl : L.length ≤ 100) : frBody [x0, x1, x2, x3, some (.int t), some (.lst L), some (.int j)] A = .nx [x0, x1, x2, x3, some (.int (t / 256)), some (.lst (.int (t % 256) :: L)), some (.int j)] A := by
  have c : CDiv t 256 := ⟨by decide, by decide⟩
  have z : [D.int (t % 256)].length + L.length ≤ 16777216 := by simp; omega
  unfold frBody
  refine (seq_nx (ρ1 := [x0, x1, x2, x3, some (.int t), some (.lst (.int (t % 256) :: L)), some (.int j)]) (A1 := A) ?_).trans ?_
  · simp only [ev_var, ev_K, ev_op, ev_neg, ev_tst, ev_and, ev_or, ev_not, ev_andV, ev_orV, ev_notV, ev_if, ev_chn, ev_nil, ev_cons, ev_tup, ev_lst, ev_new, ev_call, ev_callF, ev_callK, ev_met, ev_sl, ev_some, ev_none, ev_rev, ev_yes, ev_sq, ev_next, ev_drop, ev_ret, ev_ifs, ev_set, ev_par2, ev_par3, ev_asg, ev_nm, List.getElem?_cons_zero, List.getElem?_cons_succ, List.set_cons_zero, List.set_cons_succ, bind_ok, lift_ok, List.length_cons, List.length_nil, Nat.reduceAdd, Nat.reduceLeDiff, ↓reduceIte, if_true, if_false, Bool.false_eq_true, fInt, fMod, fI, show (0 : Int) < 256 by decide]
    have e : fAdd (.lst [D.int (t % 256)]) (.lst L) A = .ok (.lst ([D.int (t % 256)] ++ L)) A := if_pos z
    rw [e]
    rfl
  · simp only [ev_var, ev_K, ev_op, ev_neg, ev_tst, ev_and, ev_or, ev_not, ev_andV, ev_orV, ev_notV, ev_if, ev_chn, ev_nil, ev_cons, ev_tup, ev_lst, ev_new, ev_call, ev_callF, ev_callK, ev_met, ev_sl, ev_some, ev_none, ev_rev, ev_yes, ev_sq, ev_next, ev_drop, ev_ret, ev_ifs, ev_set, ev_par2, ev_par3, ev_asg, ev_nm, List.getElem?_cons_zero, List.getElem?_cons_succ, List.set_cons_zero, List.set_cons_succ, bind_ok, lift_ok, List.length_cons, List.length_nil, Nat.reduceAdd, Nat.reduceLeDiff, ↓reduceIte, if_true, if_false, Bool.false_eq_true, fDiv, fI, c]
theorem lframe_ok {b : List Nat} {A : AH} (hb : b.length ≤ 65535) : lframeM lsumM [.tup (dI b)] A = .ok (.tup (dI (pf b))) A := by
  have e1 : (65535 : Int) - (b.length : Int) = ((65535 - b.length : Nat) : Int) := by omega
  unfold lframeM
  refine fun_rt ?_
  refine (seq_nx (ρ1 := [some (.tup (dI b)), some (.int (b.length : Nat)), some (.int (65535 - b.length : Nat)), none, none, none, none]) (A1 := A) ?_).trans ?_
  · simp only [ev_var, ev_K, ev_op, ev_neg, ev_tst, ev_and, ev_or, ev_not, ev_andV, ev_orV, ev_notV, ev_if, ev_chn, ev_nil, ev_cons, ev_tup, ev_lst, ev_new, ev_call, ev_callF, ev_callK, ev_met, ev_sl, ev_some, ev_none, ev_rev, ev_yes, ev_sq, ev_next, ev_drop, ev_ret, ev_ifs, ev_set, ev_par2, ev_par3, ev_asg, ev_nm, List.getElem?_cons_zero, List.getElem?_cons_succ, List.set_cons_zero, List.set_cons_succ, bind_ok, lift_ok, List.length_cons, List.length_nil, Nat.reduceAdd, Nat.reduceLeDiff, ↓reduceIte, if_true, if_false, Bool.false_eq_true, List.map_cons, List.map_nil, List.replicate, List.cons_append, List.nil_append, Nat.reduceSub, len_tup, fSub, fI0, e1]
  have hc : cs (hd4 b ++ b) < 4294967291 := cs_lt _
  have hh : dI (hd4 b ++ b) = [D.int ((b.length : Int) / 256), .int ((b.length : Int) % 256), .int (((65535 - b.length : Nat) : Int) / 256), .int (((65535 - b.length : Nat) : Int) % 256)] ++ dI b := by
    rw [dI_append]
    rfl
  have hr : dI (pf b) = dI (hd4 b ++ b) ++ [D.int ((cs (hd4 b ++ b) : Int) / 256 / 256 / 256 % 256), .int ((cs (hd4 b ++ b) : Int) / 256 / 256 % 256), .int ((cs (hd4 b ++ b) : Int) / 256 % 256), .int ((cs (hd4 b ++ b) : Int) % 256)] := by
    unfold pf
    rw [dI_append]
    congr 1
    unfold s4
    generalize cs (hd4 b ++ b) = c at *
    simp only [dI, List.map_cons, List.map_nil]
    rw [show ((c / 65536 / 256 : Nat) : Int) = (c : Int) / 256 / 256 / 256 % 256 by omega, show ((c / 65536 % 256 : Nat) : Int) = (c : Int) / 256 / 256 % 256 by omega, show ((c % 65536 / 256 : Nat) : Int) = (c : Int) / 256 % 256 by omega, show ((c % 65536 % 256 : Nat) : Int) = (c : Int) % 256 by omega]
  have hz : (4 : Nat) + (dI b).length ≤ 16777216 := by rw [dI_length]; omega
  have hz2 : (dI (hd4 b ++ b)).length + 4 ≤ 16777216 := by rw [dI_length]; simp [hd4]; omega
  rw [hr]
  have ls := lsum_ok (os := hd4 b ++ b) (A := A)
  generalize ((cs (hd4 b ++ b) : Nat) : Int) = c at *
  generalize ((b.length : Nat) : Int) = n at *
  generalize ((65535 - b.length : Nat) : Int) = k at *
  generalize dI (hd4 b ++ b) = F at *
  have c1 : CDiv n 256 := ⟨by decide, by decide⟩
  have c2 : CDiv k 256 := ⟨by decide, by decide⟩
  refine (seq_nx (ρ1 := [some (.tup (dI b)), some (.int n), some (.int k), some (.tup F), none, none, none]) (A1 := A) ?_).trans ?_
  · simp only [ev_var, ev_K, ev_op, ev_neg, ev_tst, ev_and, ev_or, ev_not, ev_andV, ev_orV, ev_notV, ev_if, ev_chn, ev_nil, ev_cons, ev_tup, ev_lst, ev_new, ev_call, ev_callF, ev_callK, ev_met, ev_sl, ev_some, ev_none, ev_rev, ev_yes, ev_sq, ev_next, ev_drop, ev_ret, ev_ifs, ev_set, ev_par2, ev_par3, ev_asg, ev_nm, List.getElem?_cons_zero, List.getElem?_cons_succ, List.set_cons_zero, List.set_cons_succ, bind_ok, lift_ok, List.length_cons, List.length_nil, Nat.reduceAdd, Nat.reduceLeDiff, ↓reduceIte, if_true, if_false, Bool.false_eq_true, fDiv, fI, c1, c2, fInt, fMod, show (0 : Int) < 256 by decide, tup_tup]
    rw [add_tup (by simp only [List.length_cons, List.length_nil]; omega), ← hh]
    simp only [lift_ok, List.set_cons_zero, List.set_cons_succ]
  refine (seq_nx (ρ1 := [some (.tup (dI b)), some (.int n), some (.int k), some (.tup F), some (.int c), some (.lst []), none]) (A1 := A) ?_).trans ?_
  · simp only [ev_var, ev_K, ev_op, ev_neg, ev_tst, ev_and, ev_or, ev_not, ev_andV, ev_orV, ev_notV, ev_if, ev_chn, ev_nil, ev_cons, ev_tup, ev_lst, ev_new, ev_call, ev_callF, ev_callK, ev_met, ev_sl, ev_some, ev_none, ev_rev, ev_yes, ev_sq, ev_next, ev_drop, ev_ret, ev_ifs, ev_set, ev_par2, ev_par3, ev_asg, ev_nm, List.getElem?_cons_zero, List.getElem?_cons_succ, List.set_cons_zero, List.set_cons_succ, bind_ok, lift_ok, List.length_cons, List.length_nil, Nat.reduceAdd, Nat.reduceLeDiff, ↓reduceIte, if_true, if_false, Bool.false_eq_true, ls, Nat.zero_le]
  refine (seq_nx (ρ1 := [some (.tup (dI b)), some (.int n), some (.int k), some (.tup F), some (.int (c / 256 / 256 / 256 / 256)), some (.lst [D.int (c / 256 / 256 / 256 % 256), .int (c / 256 / 256 % 256), .int (c / 256 % 256), .int (c % 256)]), some (.int 3)]) (A1 := A) ?_).trans ?_
  · rw [ev_for, r1_at (j := 4) (A1 := A) rfl (by omega), lift_ok]
    have hi : itemsOf A (.rng 0 4) = some [D.int 0, .int 1, .int 2, .int 3] := rfl
    rw [hi]
    refine (for_nx hi rfl (fr_step (i := 0) (by decide))).trans ?_
    refine (for_nx hi rfl (fr_step (i := 0) (by simp))).trans ?_
    refine (for_nx hi rfl (fr_step (i := 0) (by simp))).trans ?_
    refine (for_nx hi rfl (fr_step (i := 0) (by simp))).trans ?_
    exact for_nil hi
  · simp only [ev_var, ev_K, ev_op, ev_neg, ev_tst, ev_and, ev_or, ev_not, ev_andV, ev_orV, ev_notV, ev_if, ev_chn, ev_nil, ev_cons, ev_tup, ev_lst, ev_new, ev_call, ev_callF, ev_callK, ev_met, ev_sl, ev_some, ev_none, ev_rev, ev_yes, ev_sq, ev_next, ev_drop, ev_ret, ev_ifs, ev_set, ev_par2, ev_par3, ev_asg, ev_nm, List.getElem?_cons_zero, List.getElem?_cons_succ, List.set_cons_zero, List.set_cons_succ, bind_ok, lift_ok, List.length_cons, List.length_nil, Nat.reduceAdd, Nat.reduceLeDiff, ↓reduceIte, if_true, if_false, Bool.false_eq_true, fTup, seqOf]
    rw [add_tup (by simp only [List.length_cons, List.length_nil]; omega)]
    rfl
end DM
end
section
set_option maxHeartbeats 1000000
namespace DM
open PySem PySem.Spec PyProof.Rows L2
theorem for_rt {iv : ItV} {all xs : List D} {x d : D} {t : Tg} {sb : MS} {ρ ρ1 : DM.Env} {A A2 : AH} (h : itemsOf A iv = some all) (hb : bindT t x ρ = some ρ1) (hs : sb ρ1 A = .rt d A2) : forGo iv all t sb (x :: xs) ρ A = .rt d A2 := by
  conv => lhs; unfold forGo
  rw [if_pos h, hb]
  simp only [hs]
noncomputable def ow1 : MS := mSet 4 (mSl (mVar 0) (mSome (mVar 2)) (mNone))
noncomputable def ow2 : MS := (mIfS (mTst (mOp (fEq false) (mVar 4) (mTup (mNil)))) (mRet (mTup
    (mCons (mCall fTup (mCons (mVar 1) (mNil))) (mCons (mVar 2) (mCons (mK (.str "whole")) (mNil)))))) (mNext))
noncomputable def ow3 : MS := (mSet 5 (mIf (mTst (mOp fGt (mCall fLen (mCons (mVar 4) (mNil))) (mK (.int 3))))
    (mOp fAdd (mOp fMul (mOp fIx (mVar 4) (mK (.int 0))) (mK (.int 256))) (mOp fIx (mVar 4) (mK (.int 1)))) (mK (.int 0))))
noncomputable def ow4 : MS := (mIfS (mAnd (mTst (mOp fGt (mCall fLen (mCons (mVar 4) (mNil))) (mK
    (.int 3)))) (mTst (mOp (fEq true) (mOp fAdd (mOp fAdd (mVar 5) (mOp fMul (mOp fIx (mVar 4) (mK (.int 2))) (mK (.int 256)))) (mOp fIx (mVar 4) (mK (.int 3)))) (mK (.int 65535))))) (mRet (mTup (mCons
    (mCall fTup (mCons (mVar 1) (mNil))) (mCons (mVar 2) (mCons (mK (.str "broken")) (mNil)))))) (mNext))
noncomputable def ow5 : MS := (mIfS (mTst (mOp fLt (mCall fLen (mCons (mVar 4) (mNil))) (mOp fAdd (mVar 5) (mK (.int
    8))))) (mRet (mTup (mCons (mCall fTup (mCons (mVar 1) (mNil))) (mCons (mVar 2) (mCons (mK (.str "cut")) (mNil)))))) (mNext))
noncomputable def ow6 (c__law_frame : List D → AH → Res D) : MS := (mIfS (mTst (mOp (fEq true) (mCallF 1 c__law_frame (mCons (mSl
    (mVar 4) (mSome (mK (.int 4))) (mSome (mOp fAdd (mK (.int 4)) (mVar 5)))) (mNil))) (mSl (mVar 4) (mNone) (mSome (mOp fAdd (mVar 5) (mK (.int 8))))))) (mRet (mTup (mCons (mCall fTup (mCons (mVar 1)
    (mNil))) (mCons (mVar 2) (mCons (mK (.str "broken")) (mNil)))))) (mNext))
noncomputable def ow7 : MS := (mSeq (mDrop (mMet fApp (mVar 1) (mCons (mSl (mVar 4) (mSome (mK (.int 4))) (mSome (mOp fAdd (mK (.int 4)) (mVar 5))))
    (mNil)))) (mSet 2 (mOp fAdd (mOp fAdd (mVar 2) (mVar 5)) (mK (.int 8)))))
noncomputable def owBody (c__law_frame : List D → AH → Res D) : MS := mSeq ow1 (mSeq ow2 (mSeq ow3 (mSeq ow4 (mSeq ow5 (mSeq (ow6 c__law_frame) ow7)))))
noncomputable def ownM (c__law_frame : List D → AH → Res D) : List D → AH → Res D := mFun 6 (mSeq (mPar2 1 2 (mCons (mNew (mNil)) (mCons (mK (.int 0)) (mNil)))) (mSeq (mFor (mR1 (mCons (mOp fAdd
    (mCall fLen (mCons (mVar 0) (mNil))) (mK (.int 1))) (mNil))) (.nm 3) (owBody c__law_frame)) (mRet (mTup (mCons (mCall fTup (mCons (mVar 1) (mNil))) (mCons (mVar 2) (mCons (mK (.str "cut")) (mNil))))))))
section
variable {F : List D → AH → Res D} {T R U V Y : D} {x1 x3 x4 x5 : Option D} {A : AH} {e n s ia ib ic id : Int} {m : Nat} {xs : List D}
theorem ow1_ok (h : fSl T (some e) none A = .ok R A) : ow1 [some T, x1, some (.int e), x3, x4, x5] A = .nx [some T, x1, some (.int e), x3, some R, x5] A := by
  unfold ow1
  simp only [ev_var, ev_K, ev_op, ev_neg, ev_tst, ev_and, ev_or, ev_not, ev_andV, ev_orV, ev_notV, ev_if, ev_chn, ev_nil, ev_cons, ev_tup, ev_lst, ev_new, ev_call, ev_callF, ev_callK, ev_met, ev_sl, ev_some, ev_none, ev_rev, ev_yes, ev_sq, ev_next, ev_drop, ev_ret, ev_ifs, ev_set, ev_par2, ev_par3, ev_asg, ev_nm, List.getElem?_cons_zero, List.getElem?_cons_succ, List.set_cons_zero, List.set_cons_succ, bind_ok, lift_ok, List.length_cons, List.length_nil, Nat.reduceAdd, Nat.reduceLeDiff, ↓reduceIte, if_true, if_false, Bool.false_eq_true, h]
theorem tup3 {p : List D} {i : Int} {w : Str} (hA : A[m]? = some (.lst xs)) : fTup [.ref m] A = .ok (.tup xs) A := by
  simp only [fTup, seqOf, hA]
theorem ow2_t (hA : A[m]? = some (.lst xs)) (h : fEq false R (.tup []) A = .ok (.bl true) A) : ow2 [some T, some (.ref m), some (.int e), x3, some R, x5] A = .rt (.tup [.tup xs, .int e, .str "whole"]) A := by
  have ht : fTup [.ref m] A = .ok (.tup xs) A := by simp only [fTup, seqOf, hA]
  unfold ow2
  simp only [ev_var, ev_K, ev_op, ev_neg, ev_tst, ev_and, ev_or, ev_not, ev_andV, ev_orV, ev_notV, ev_if, ev_chn, ev_nil, ev_cons, ev_tup, ev_lst, ev_new, ev_call, ev_callF, ev_callK, ev_met, ev_sl, ev_some, ev_none, ev_rev, ev_yes, ev_sq, ev_next, ev_drop, ev_ret, ev_ifs, ev_set, ev_par2, ev_par3, ev_asg, ev_nm, List.getElem?_cons_zero, List.getElem?_cons_succ, List.set_cons_zero, List.set_cons_succ, bind_ok, lift_ok, List.length_cons, List.length_nil, Nat.reduceAdd, Nat.reduceLeDiff, ↓reduceIte, if_true, if_false, Bool.false_eq_true, h, ht, Nat.zero_le]
theorem ow2_f (h : fEq false R (.tup []) A = .ok (.bl false) A) : ow2 [some T, x1, some (.int e), x3, some R, x5] A = .nx [some T, x1, some (.int e), x3, some R, x5] A := by
  unfold ow2
  simp only [ev_var, ev_K, ev_op, ev_neg, ev_tst, ev_and, ev_or, ev_not, ev_andV, ev_orV, ev_notV, ev_if, ev_chn, ev_nil, ev_cons, ev_tup, ev_lst, ev_new, ev_call, ev_callF, ev_callK, ev_met, ev_sl, ev_some, ev_none, ev_rev, ev_yes, ev_sq, ev_next, ev_drop, ev_ret, ev_ifs, ev_set, ev_par2, ev_par3, ev_asg, ev_nm, List.getElem?_cons_zero, List.getElem?_cons_succ, List.set_cons_zero, List.set_cons_succ, bind_ok, lift_ok, List.length_cons, List.length_nil, Nat.reduceAdd, Nat.reduceLeDiff, ↓reduceIte, if_true, if_false, Bool.false_eq_true, h, Nat.zero_le]
theorem ow3_f (hl : fLen [R] A = .ok (.int n) A) (h : ¬ 3 < n) : ow3 [some T, x1, some (.int e), x3, some R, x5] A = .nx [some T, x1, some (.int e), x3, some R, some (.int 0)] A := by
  unfold ow3
  simp only [ev_var, ev_K, ev_op, ev_neg, ev_tst, ev_and, ev_or, ev_not, ev_andV, ev_orV, ev_notV, ev_if, ev_chn, ev_nil, ev_cons, ev_tup, ev_lst, ev_new, ev_call, ev_callF, ev_callK, ev_met, ev_sl, ev_some, ev_none, ev_rev, ev_yes, ev_sq, ev_next, ev_drop, ev_ret, ev_ifs, ev_set, ev_par2, ev_par3, ev_asg, ev_nm, List.getElem?_cons_zero, List.getElem?_cons_succ, List.set_cons_zero, List.set_cons_succ, bind_ok, lift_ok, List.length_cons, List.length_nil, Nat.reduceAdd, Nat.reduceLeDiff, ↓reduceIte, if_true, if_false, Bool.false_eq_true, hl, fGt, fI0, decide_eq_false h]
theorem ow3_t (hl : fLen [R] A = .ok (.int n) A) (h : 3 < n) (h0 : fIx R (.int 0) A = .ok (.int ia) A) (h1 : fIx R (.int 1) A = .ok (.int ib) A) (c : CMul ia 256) : ow3 [some T, x1, some (.int e), x3, some R, x5] A = .nx [some T, x1, some (.int e), x3, some R, some (.int (ia * 256 + ib))] A := by
  unfold ow3
  simp only [ev_var, ev_K, ev_op, ev_neg, ev_tst, ev_and, ev_or, ev_not, ev_andV, ev_orV, ev_notV, ev_if, ev_chn, ev_nil, ev_cons, ev_tup, ev_lst, ev_new, ev_call, ev_callF, ev_callK, ev_met, ev_sl, ev_some, ev_none, ev_rev, ev_yes, ev_sq, ev_next, ev_drop, ev_ret, ev_ifs, ev_set, ev_par2, ev_par3, ev_asg, ev_nm, List.getElem?_cons_zero, List.getElem?_cons_succ, List.set_cons_zero, List.set_cons_succ, bind_ok, lift_ok, List.length_cons, List.length_nil, Nat.reduceAdd, Nat.reduceLeDiff, ↓reduceIte, if_true, if_false, Bool.false_eq_true, hl, fGt, fI0, decide_eq_true h, h0, h1, fMul, fI, c, fAdd]
theorem ow4_s (hl : fLen [R] A = .ok (.int n) A) (h : ¬ 3 < n) : ow4 [some T, x1, some (.int e), x3, some R, x5] A = .nx [some T, x1, some (.int e), x3, some R, x5] A := by
  unfold ow4
  simp only [ev_var, ev_K, ev_op, ev_neg, ev_tst, ev_and, ev_or, ev_not, ev_andV, ev_orV, ev_notV, ev_if, ev_chn, ev_nil, ev_cons, ev_tup, ev_lst, ev_new, ev_call, ev_callF, ev_callK, ev_met, ev_sl, ev_some, ev_none, ev_rev, ev_yes, ev_sq, ev_next, ev_drop, ev_ret, ev_ifs, ev_set, ev_par2, ev_par3, ev_asg, ev_nm, List.getElem?_cons_zero, List.getElem?_cons_succ, List.set_cons_zero, List.set_cons_succ, bind_ok, lift_ok, List.length_cons, List.length_nil, Nat.reduceAdd, Nat.reduceLeDiff, ↓reduceIte, if_true, if_false, Bool.false_eq_true, hl, fGt, fI0, decide_eq_false h]
theorem ow4_f (hl : fLen [R] A = .ok (.int n) A) (h : 3 < n) (h2 : fIx R (.int 2) A = .ok (.int ic) A) (h3 : fIx R (.int 3) A = .ok (.int id) A) (c : CMul ic 256) (hs : s + ic * 256 + id = 65535) : ow4 [some T, x1, some (.int e), x3, some R, some (.int s)] A = .nx [some T, x1, some (.int e), x3, some R, some (.int s)] A := by
  unfold ow4
  simp only [ev_var, ev_K, ev_op, ev_neg, ev_tst, ev_and, ev_or, ev_not, ev_andV, ev_orV, ev_notV, ev_if, ev_chn, ev_nil, ev_cons, ev_tup, ev_lst, ev_new, ev_call, ev_callF, ev_callK, ev_met, ev_sl, ev_some, ev_none, ev_rev, ev_yes, ev_sq, ev_next, ev_drop, ev_ret, ev_ifs, ev_set, ev_par2, ev_par3, ev_asg, ev_nm, List.getElem?_cons_zero, List.getElem?_cons_succ, List.set_cons_zero, List.set_cons_succ, bind_ok, lift_ok, List.length_cons, List.length_nil, Nat.reduceAdd, Nat.reduceLeDiff, ↓reduceIte, if_true, if_false, Bool.false_eq_true, hl, fGt, fI0, decide_eq_true h, h2, h3, fMul, fI, c, fAdd, eq_ints, decide_eq_true hs, Bool.not_true]
theorem ow4_t (hA : A[m]? = some (.lst xs)) (hl : fLen [R] A = .ok (.int n) A) (h : 3 < n) (h2 : fIx R (.int 2) A = .ok (.int ic) A) (h3 : fIx R (.int 3) A = .ok (.int id) A) (c : CMul ic 256) (hs : ¬ s + ic * 256 + id = 65535) : ow4 [some T, some (.ref m), some (.int e), x3, some R, some (.int s)] A = .rt (.tup [.tup xs, .int e, .str "broken"]) A := by
  have ht : fTup [.ref m] A = .ok (.tup xs) A := by simp only [fTup, seqOf, hA]
  unfold ow4
  simp only [ev_var, ev_K, ev_op, ev_neg, ev_tst, ev_and, ev_or, ev_not, ev_andV, ev_orV, ev_notV, ev_if, ev_chn, ev_nil, ev_cons, ev_tup, ev_lst, ev_new, ev_call, ev_callF, ev_callK, ev_met, ev_sl, ev_some, ev_none, ev_rev, ev_yes, ev_sq, ev_next, ev_drop, ev_ret, ev_ifs, ev_set, ev_par2, ev_par3, ev_asg, ev_nm, List.getElem?_cons_zero, List.getElem?_cons_succ, List.set_cons_zero, List.set_cons_succ, bind_ok, lift_ok, List.length_cons, List.length_nil, Nat.reduceAdd, Nat.reduceLeDiff, ↓reduceIte, if_true, if_false, Bool.false_eq_true, hl, fGt, fI0, decide_eq_true h, h2, h3, fMul, fI, c, fAdd, eq_ints, decide_eq_false hs, Bool.not_false, ht]
theorem ow5_t (hA : A[m]? = some (.lst xs)) (hl : fLen [R] A = .ok (.int n) A) (h : n < s + 8) : ow5 [some T, some (.ref m), some (.int e), x3, some R, some (.int s)] A = .rt (.tup [.tup xs, .int e, .str "cut"]) A := by
  have ht : fTup [.ref m] A = .ok (.tup xs) A := by simp only [fTup, seqOf, hA]
  unfold ow5
  simp only [ev_var, ev_K, ev_op, ev_neg, ev_tst, ev_and, ev_or, ev_not, ev_andV, ev_orV, ev_notV, ev_if, ev_chn, ev_nil, ev_cons, ev_tup, ev_lst, ev_new, ev_call, ev_callF, ev_callK, ev_met, ev_sl, ev_some, ev_none, ev_rev, ev_yes, ev_sq, ev_next, ev_drop, ev_ret, ev_ifs, ev_set, ev_par2, ev_par3, ev_asg, ev_nm, List.getElem?_cons_zero, List.getElem?_cons_succ, List.set_cons_zero, List.set_cons_succ, bind_ok, lift_ok, List.length_cons, List.length_nil, Nat.reduceAdd, Nat.reduceLeDiff, ↓reduceIte, if_true, if_false, Bool.false_eq_true, hl, fAdd, fLt, fI0, decide_eq_true h, ht]
theorem ow5_f (hl : fLen [R] A = .ok (.int n) A) (h : ¬ n < s + 8) : ow5 [some T, x1, some (.int e), x3, some R, some (.int s)] A = .nx [some T, x1, some (.int e), x3, some R, some (.int s)] A := by
  unfold ow5
  simp only [ev_var, ev_K, ev_op, ev_neg, ev_tst, ev_and, ev_or, ev_not, ev_andV, ev_orV, ev_notV, ev_if, ev_chn, ev_nil, ev_cons, ev_tup, ev_lst, ev_new, ev_call, ev_callF, ev_callK, ev_met, ev_sl, ev_some, ev_none, ev_rev, ev_yes, ev_sq, ev_next, ev_drop, ev_ret, ev_ifs, ev_set, ev_par2, ev_par3, ev_asg, ev_nm, List.getElem?_cons_zero, List.getElem?_cons_succ, List.set_cons_zero, List.set_cons_succ, bind_ok, lift_ok, List.length_cons, List.length_nil, Nat.reduceAdd, Nat.reduceLeDiff, ↓reduceIte, if_true, if_false, Bool.false_eq_true, hl, fAdd, fLt, fI0, decide_eq_false h]
theorem ow6_t (hA : A[m]? = some (.lst xs)) (h1 : fSl R (some 4) (some (4 + s)) A = .ok U A) (h2 : F [U] A = .ok V A) (h3 : fSl R none (some (s + 8)) A = .ok Y A) (h4 : fEq true V Y A = .ok (.bl true) A) : ow6 F [some T, some (.ref m), some (.int e), x3, some R, some (.int s)] A = .rt (.tup [.tup xs, .int e, .str "broken"]) A := by
  have ht : fTup [.ref m] A = .ok (.tup xs) A := by simp only [fTup, seqOf, hA]
  unfold ow6
  simp only [ev_var, ev_K, ev_op, ev_neg, ev_tst, ev_and, ev_or, ev_not, ev_andV, ev_orV, ev_notV, ev_if, ev_chn, ev_nil, ev_cons, ev_tup, ev_lst, ev_new, ev_call, ev_callF, ev_callK, ev_met, ev_sl, ev_some, ev_none, ev_rev, ev_yes, ev_sq, ev_next, ev_drop, ev_ret, ev_ifs, ev_set, ev_par2, ev_par3, ev_asg, ev_nm, List.getElem?_cons_zero, List.getElem?_cons_succ, List.set_cons_zero, List.set_cons_succ, bind_ok, lift_ok, List.length_cons, List.length_nil, Nat.reduceAdd, Nat.reduceLeDiff, ↓reduceIte, if_true, if_false, Bool.false_eq_true, fAdd, h1, h2, h3, h4, ht]
theorem ow6_f (h1 : fSl R (some 4) (some (4 + s)) A = .ok U A) (h2 : F [U] A = .ok V A) (h3 : fSl R none (some (s + 8)) A = .ok Y A) (h4 : fEq true V Y A = .ok (.bl false) A) : ow6 F [some T, x1, some (.int e), x3, some R, some (.int s)] A = .nx [some T, x1, some (.int e), x3, some R, some (.int s)] A := by
  unfold ow6
  simp only [ev_var, ev_K, ev_op, ev_neg, ev_tst, ev_and, ev_or, ev_not, ev_andV, ev_orV, ev_notV, ev_if, ev_chn, ev_nil, ev_cons, ev_tup, ev_lst, ev_new, ev_call, ev_callF, ev_callK, ev_met, ev_sl, ev_some, ev_none, ev_rev, ev_yes, ev_sq, ev_next, ev_drop, ev_ret, ev_ifs, ev_set, ev_par2, ev_par3, ev_asg, ev_nm, List.getElem?_cons_zero, List.getElem?_cons_succ, List.set_cons_zero, List.set_cons_succ, bind_ok, lift_ok, List.length_cons, List.length_nil, Nat.reduceAdd, Nat.reduceLeDiff, ↓reduceIte, if_true, if_false, Bool.false_eq_true, fAdd, h1, h2, h3, h4]
theorem ow7_ok (hA : A[m]? = some (.lst xs)) (hx : xs.length < 16777216) (h1 : fSl R (some 4) (some (4 + s)) A = .ok U A) : ow7 [some T, some (.ref m), some (.int e), x3, some R, some (.int s)] A = .nx [some T, some (.ref m), some (.int (e + s + 8)), x3, some R, some (.int s)] (A.set m (.lst (xs ++ [U]))) := by
  unfold ow7
  refine (seq_nx (ρ1 := [some T, some (.ref m), some (.int e), x3, some R, some (.int s)]) (A1 := A.set m (.lst (xs ++ [U]))) ?_).trans ?_
  · simp only [ev_var, ev_K, ev_op, ev_neg, ev_tst, ev_and, ev_or, ev_not, ev_andV, ev_orV, ev_notV, ev_if, ev_chn, ev_nil, ev_cons, ev_tup, ev_lst, ev_new, ev_call, ev_callF, ev_callK, ev_met, ev_sl, ev_some, ev_none, ev_rev, ev_yes, ev_sq, ev_next, ev_drop, ev_ret, ev_ifs, ev_set, ev_par2, ev_par3, ev_asg, ev_nm, List.getElem?_cons_zero, List.getElem?_cons_succ, List.set_cons_zero, List.set_cons_succ, bind_ok, lift_ok, List.length_cons, List.length_nil, Nat.reduceAdd, Nat.reduceLeDiff, ↓reduceIte, if_true, if_false, Bool.false_eq_true, fAdd, h1, fApp, hA, hx]
  · simp only [ev_var, ev_K, ev_op, ev_neg, ev_tst, ev_and, ev_or, ev_not, ev_andV, ev_orV, ev_notV, ev_if, ev_chn, ev_nil, ev_cons, ev_tup, ev_lst, ev_new, ev_call, ev_callF, ev_callK, ev_met, ev_sl, ev_some, ev_none, ev_rev, ev_yes, ev_sq, ev_next, ev_drop, ev_ret, ev_ifs, ev_set, ev_par2, ev_par3, ev_asg, ev_nm, List.getElem?_cons_zero, List.getElem?_cons_succ, List.set_cons_zero, List.set_cons_succ, bind_ok, lift_ok, List.length_cons, List.length_nil, Nat.reduceAdd, Nat.reduceLeDiff, ↓reduceIte, if_true, if_false, Bool.false_eq_true, fAdd]
end
end DM
end
section
set_option maxHeartbeats 1000000
namespace DM
open PySem PySem.Spec PyProof.Rows L2
theorem sl_from {os : List Nat} {e : Nat} {A : AH} (h : e ≤ os.length) : fSl (.tup (dI os)) (some (e : Int)) none A = .ok (.tup (dI (os.drop e))) A := by
  simp only [fSl]
  unfold cutD
  rw [HT.sIx_nat, HT.sIx_none, dI_length, Nat.min_eq_left h, List.take_of_length_le (by rw [List.length_drop, dI_length]; exact Nat.le_refl _), dI_drop]
theorem sl_upto {os : List Nat} {k : Nat} {j : Int} {A : AH} (h : j = k) : fSl (.tup (dI os)) none (some j) A = .ok (.tup (dI (os.take k))) A := by
  subst h
  simp only [fSl, cut_take, dI_take]
theorem eq_nil {r : List Nat} {A : AH} : fEq false (.tup (dI r)) (.tup []) A = .ok (.bl (decide (r = []))) A := eq_tups (L := r) (M := [])
theorem pf_take {a b c d : Nat} {r : List Nat} (ha : a < 256) (hb : b < 256) (hc : c < 256) (hd : d < 256) (hs : a * 256 + b + c * 256 + d = 65535) (hl : a * 256 + b + 4 ≤ r.length) :
    pf (r.take (a * 256 + b)) = (a :: b :: c :: d :: r).take (a * 256 + b + 8) ↔ (r.drop (a * 256 + b)).take 4 = s4 ((a :: b :: c :: d :: r).take (a * 256 + b + 4)) := by
  have hl' : (r.take (a * 256 + b)).length = a * 256 + b := by rw [List.length_take]; omega
  rw [pf_eq, hl', hd4_app, hl', show (a * 256 + b) / 256 = a by omega, show (a * 256 + b) % 256 = b by omega, show (65535 - (a * 256 + b)) / 256 = c by omega, show (65535 - (a * 256 + b)) % 256 = d by omega]
  have e : (a :: b :: c :: d :: r).take (a * 256 + b + 4) = a :: b :: c :: d :: r.take (a * 256 + b) := by simp
  have e2 : (a :: b :: c :: d :: r).take (a * 256 + b + 8) = a :: b :: c :: d :: (r.take (a * 256 + b) ++ (r.drop (a * 256 + b)).take 4) := by
    rw [← List.take_add]; rfl
  rw [e, e2]
  constructor
  · intro h
    simp only [List.cons.injEq, true_and, List.append_cancel_left_eq] at h
    exact h.symm
  · intro h
    rw [h]
noncomputable abbrev lfrX := lframeM lsumM
theorem own_step {T : D} {A : AH} {n e : Nat} {r : List Nat} {xs : List D} {x3 x4 x5 : Option D} (ho : ∀ x ∈ r, x < 256) (hA : A[n]? = some (.lst xs)) (hx : xs.length < 16777216) (hT : fSl T (some (e : Int)) none A = .ok (.tup (dI r)) A) :
    (r = [] → owBody lfrX [some T, some (.ref n), some (.int (e : Nat)), x3, x4, x5] A = .rt (.tup [.tup xs, .int (e : Nat), .str "whole"]) A) ∧
    (∀ w, r ≠ [] → ffR r = .str w → owBody lfrX [some T, some (.ref n), some (.int (e : Nat)), x3, x4, x5] A = .rt (.tup [.tup xs, .int (e : Nat), .str w]) A) ∧
    (∀ b r2, r = pf b ++ r2 → b.length ≤ 65535 → ∃ y4 y5, owBody lfrX [some T, some (.ref n), some (.int (e : Nat)), x3, x4, x5] A = .nx [some T, some (.ref n), some (.int ((e + b.length + 8 : Nat) : Int)), x3, y4, y5] (A.set n (.lst (xs ++ [.tup (dI b)])))) := by
  have hl := len_tup (os := r) (A := A)
  have s1 := ow1_ok (x1 := some (.ref n)) (x3 := x3) (x4 := x4) (x5 := x5) hT
  refine ⟨fun h => ?_, fun w hne hw => ?_, fun b r2 hr hb => ?_⟩
  · refine (seq_nx s1).trans (seq_rt (ow2_t hA ?_))
    rw [eq_nil, decide_eq_true h]
  · have s2 := ow2_f (T := T) (x1 := some (.ref n)) (e := (e : Int)) (x3 := x3) (x5 := x5) (R := .tup (dI r)) (A := A) (by rw [eq_nil, decide_eq_false hne])
    refine (seq_nx s1).trans ((seq_nx s2).trans ?_)
    by_cases h4 : 4 ≤ r.length
    · match r, h4 with
      | a :: b :: c :: d :: r, _ =>
        have ha := ho a (by simp)
        have hb := ho b (by simp)
        have hc := ho c (by simp)
        have hd := ho d (by simp)
        have ca : CMul (a : Int) 256 := .inl ⟨by omega, by omega⟩
        have cc : CMul (c : Int) 256 := .inl ⟨by omega, by omega⟩
        have h3 : (3 : Int) < ((a :: b :: c :: d :: r).length : Nat) := by simp only [List.length_cons]; omega
        have x0 := ix_dI (os := a :: b :: c :: d :: r) (k := 0) (j := 0) (A := A) rfl rfl
        have x1 := ix_dI (os := a :: b :: c :: d :: r) (k := 1) (j := 1) (A := A) rfl rfl
        have x2 := ix_dI (os := a :: b :: c :: d :: r) (k := 2) (j := 2) (A := A) rfl rfl
        have x3 := ix_dI (os := a :: b :: c :: d :: r) (k := 3) (j := 3) (A := A) rfl rfl
        refine (seq_nx (ow3_t hl h3 x0 x1 ca)).trans ?_
        rw [ffR_cons] at hw
        by_cases g1 : a * 256 + b + c * 256 + d = 65535
        · rw [if_neg (by omega)] at hw
          refine (seq_nx (ow4_f hl h3 x2 x3 cc (by omega))).trans ?_
          by_cases g2 : r.length < a * 256 + b + 4
          · rw [if_pos g2] at hw
            cases hw
            exact seq_rt (ow5_t hA hl (by simp only [List.length_cons]; omega))
          · rw [if_neg g2] at hw
            refine (seq_nx (ow5_f hl (by simp only [List.length_cons]; omega))).trans ?_
            have hp := pf_take ha hb hc hd g1 (by omega : a * 256 + b + 4 ≤ r.length)
            have u1 := sl_dI (os := a :: b :: c :: d :: r) (A := A) (lo := 4) (hi := 4 + (a * 256 + b)) (i := 4) (j := 4 + ((a : Int) * 256 + b)) (by omega) (by simp only [List.length_cons]; omega) rfl (by omega)
            rw [show 4 + (a * 256 + b) - 4 = a * 256 + b by omega] at u1
            have u2 := lframe_ok (b := ((a :: b :: c :: d :: r).drop 4).take (a * 256 + b)) (A := A) (by rw [List.length_take]; omega)
            have u3 := sl_upto (os := a :: b :: c :: d :: r) (A := A) (k := a * 256 + b + 8) (j := (a : Int) * 256 + b + 8) (by omega)
            by_cases g3 : (r.drop (a * 256 + b)).take 4 = s4 ((a :: b :: c :: d :: r).take (a * 256 + b + 4))
            · rw [if_pos g3] at hw
              cases hw
            · rw [if_neg g3] at hw
              cases hw
              refine seq_rt (ow6_t hA u1 u2 u3 ?_)
              rw [eq_tups, show (a :: b :: c :: d :: r).drop 4 = r from rfl, decide_eq_false (fun h => g3 (hp.mp h))]
              rfl
        · rw [if_pos (by omega)] at hw
          cases hw
          exact seq_rt (ow4_t hA hl h3 x2 x3 cc (by omega))
    · have h3 : ¬ (3 : Int) < (r.length : Nat) := by omega
      refine (seq_nx (ow3_f hl h3)).trans ((seq_nx (ow4_s hl h3)).trans ?_)
      have hc : ffR r = .str "cut" := by
        match r, h4 with
        | [], _ => rfl
        | [_], _ => rfl
        | [_, _], _ => rfl
        | [_, _, _], _ => rfl
        | _ :: _ :: _ :: _ :: _, h4 => simp at h4
      rw [hc] at hw
      cases hw
      exact seq_rt (ow5_t hA hl (by omega))
  · have hne : r ≠ [] := by
      intro h
      rw [h] at hr
      have := congrArg List.length hr
      rw [List.length_append, pf_length, List.length_nil] at this
      omega
    have hlen : r.length = b.length + 8 + r2.length := by rw [hr, List.length_append, pf_length]
    have s2 := ow2_f (T := T) (x1 := some (.ref n)) (e := (e : Int)) (x3 := x3) (x5 := x5) (R := .tup (dI r)) (A := A) (by rw [eq_nil, decide_eq_false hne])
    have h3 : (3 : Int) < (r.length : Nat) := by omega
    have i0 : r[0]? = some (b.length / 256) := by rw [hr, pf_eq]; rfl
    have i1 : r[1]? = some (b.length % 256) := by rw [hr, pf_eq]; rfl
    have i2 : r[2]? = some ((65535 - b.length) / 256) := by rw [hr, pf_eq]; rfl
    have i3 : r[3]? = some ((65535 - b.length) % 256) := by rw [hr, pf_eq]; rfl
    have v0 := ix_dI (A := A) (j := 0) i0 rfl
    have v1 := ix_dI (A := A) (j := 1) i1 rfl
    have v2 := ix_dI (A := A) (j := 2) i2 rfl
    have v3 := ix_dI (A := A) (j := 3) i3 rfl
    have ca : CMul ((b.length / 256 : Nat) : Int) 256 := .inl ⟨by omega, by omega⟩
    have cc : CMul (((65535 - b.length) / 256 : Nat) : Int) 256 := .inl ⟨by omega, by omega⟩
    have hdt : (r.drop 4).take b.length = b := by
      rw [hr, pf_eq]
      simp only [List.cons_append, List.drop_succ_cons, List.drop_zero, List.append_assoc]
      exact List.take_left
    have u1 := sl_dI (os := r) (A := A) (lo := 4) (hi := 4 + b.length) (i := 4) (j := 4 + (((b.length / 256 : Nat) : Int) * 256 + ((b.length % 256 : Nat) : Int))) (by omega) (by omega) rfl (by omega)
    rw [show 4 + b.length - 4 = b.length by omega, hdt] at u1
    have u2 := lframe_ok (b := b) (A := A) hb
    have u3 := sl_upto (os := r) (A := A) (k := b.length + 8) (j := ((b.length / 256 : Nat) : Int) * 256 + ((b.length % 256 : Nat) : Int) + 8) (by omega)
    rw [hr, List.take_left' (pf_length b), ← hr] at u3
    have u4 : fEq true (.tup (dI (pf b))) (.tup (dI (pf b))) A = .ok (.bl false) A := by
      rw [eq_tups, decide_eq_true rfl]; rfl
    have fin := ow7_ok (T := T) (e := (e : Int)) (x3 := x3) (R := .tup (dI r)) hA hx u1
    rw [show (e : Int) + (((b.length / 256 : Nat) : Int) * 256 + ((b.length % 256 : Nat) : Int)) + 8 = ((e + b.length + 8 : Nat) : Int) by omega] at fin
    refine ⟨some (.tup (dI r)), some (.int (((b.length / 256 : Nat) : Int) * 256 + ((b.length % 256 : Nat) : Int))), ?_⟩
    refine (seq_nx s1).trans ((seq_nx s2).trans ((seq_nx (ow3_t hl h3 v0 v1 ca)).trans ((seq_nx (ow4_f hl h3 v2 v3 cc (by omega))).trans ((seq_nx (ow5_f hl (by omega))).trans ((seq_nx (ow6_f u1 u2 u3 u4)).trans ?_)))))
    exact fin
theorem tot_flat : ∀ bs : List (List Nat), ((bs.map pf).flatten).length = tot bs
  | [] => rfl
  | b :: bs => by
    rw [List.map_cons, List.flatten_cons, List.length_append, pf_length, tot_flat bs]
    simp [tot]
theorem tot_many : ∀ bs : List (List Nat), bs.length ≤ tot bs
  | [] => Nat.le_refl _
  | b :: bs => by
    have := tot_many bs
    have e : tot (b :: bs) = b.length + 8 + tot bs := by simp [tot]
    rw [e, List.length_cons]
    omega
theorem own_go {os rest : List Nat} {n : Nat} {iv : ItV} {all : List D} {w : Str} (ho : ∀ x ∈ os, x < 256) (hw : ffR rest = .str w) (hall : ∀ A, itemsOf A iv = some all) : ∀ (bs : List (List Nat)) (e : Nat) (xs ts : List D) (A : AH) (x3 x4 x5 : Option D), (∀ b ∈ bs, b.length ≤ 65535) → os.drop e = (bs.map pf).flatten ++ rest → e ≤ os.length → A[n]? = some (.lst xs) → xs.length + bs.length < 16777216 → bs.length < ts.length →
    forGo iv all (.nm 3) (owBody lfrX) ts [some (.tup (dI os)), some (.ref n), some (.int (e : Nat)), x3, x4, x5] A = .rt (.tup [.tup (xs ++ tups bs), .int ((e + tot bs : Nat) : Int), if rest = [] then .str "whole" else .str w]) (A.set n (.lst (xs ++ tups bs)))
  | [], e, xs, t :: ts, A, x3, x4, x5, _, hr, he, hA, hz, _ => by
    have hset : A.set n (.lst (xs ++ tups [])) = A := by
      have h1 := List.getElem?_eq_some_iff.mp hA
      rw [show xs ++ tups [] = xs by simp [tups], ← h1.2]
      exact List.set_getElem_self h1.1
    rw [hset, show xs ++ tups [] = xs by simp [tups], show e + tot [] = e by simp [tot]]
    simp only [List.map_nil, List.flatten_nil, List.nil_append] at hr
    obtain ⟨s1, s2, _⟩ := own_step (T := .tup (dI os)) (A := A) (n := n) (e := e) (r := os.drop e) (xs := xs) (x3 := some t) (x4 := x4) (x5 := x5) (fun x hx => ho x (List.mem_of_mem_drop hx)) hA (by omega) (sl_from he)
    by_cases h : rest = []
    · rw [if_pos h]
      exact for_rt (hall A) rfl (s1 (hr.trans h))
    · rw [if_neg h]
      exact for_rt (hall A) rfl (s2 w (by rw [hr]; exact h) (by rw [hr]; exact hw))
  | b :: bs, e, xs, t :: ts, A, x3, x4, x5, hb, hr, he, hA, hz, hl => by
    have hb1 : b.length ≤ 65535 := hb b List.mem_cons_self
    simp only [List.map_cons, List.flatten_cons, List.append_assoc] at hr
    simp only [List.length_cons] at hz hl
    have hlen : os.length - e = b.length + 8 + ((bs.map pf).flatten ++ rest).length := by
      rw [← List.length_drop, hr, List.length_append, pf_length]
    have hr2 : os.drop (e + b.length + 8) = (bs.map pf).flatten ++ rest := by
      rw [Nat.add_assoc, ← List.drop_drop, hr, ← pf_length b, List.drop_left]
    obtain ⟨_, _, s3⟩ := own_step (T := .tup (dI os)) (A := A) (n := n) (e := e) (r := os.drop e) (xs := xs) (x3 := some t) (x4 := x4) (x5 := x5) (fun x hx => ho x (List.mem_of_mem_drop hx)) hA (by omega) (sl_from he)
    obtain ⟨y4, y5, st⟩ := s3 b _ hr hb1
    have ih := own_go ho hw hall bs (e + b.length + 8) (xs ++ [.tup (dI b)]) ts (A.set n (.lst (xs ++ [.tup (dI b)]))) (some t) y4 y5 (fun x hx => hb x (List.mem_cons_of_mem _ hx)) hr2 (by omega) (set_get hA) (by simp; omega) (by omega)
    refine (for_nx (hall A) rfl st).trans (ih.trans ?_)
    rw [List.set_set]
    have e1 : tot (b :: bs) = b.length + 8 + tot bs := by simp [tot]
    rw [e1, show e + b.length + 8 + tot bs = e + (b.length + 8 + tot bs) by omega]
    simp only [tups, List.map_cons, List.append_assoc, List.cons_append, List.nil_append]
  | [], _, _, [], _, _, _, _, _, _, _, _, _, hl => by simp at hl
  | _ :: _, _, _, [], _, _, _, _, _, _, _, _, _, hl => by simp at hl
theorem own_ok {os rest : List Nat} {w : Str} {bs : List (List Nat)} {A : AH} (ho : ∀ x ∈ os, x < 256) (hw : ffR rest = .str w) (hb : ∀ b ∈ bs, b.length ≤ 65535) (hr : os = (bs.map pf).flatten ++ rest) (hz : os.length < 16777216) :
    ownM lfrX [.tup (dI os)] A = .ok (rdD bs (decide (tot bs = os.length)) (.str w)) (A ++ [.lst (tups bs)]) := by
  have hA : (A ++ [AO.lst []])[A.length]? = some (.lst []) := by simp
  have hlen : os.length = tot bs + rest.length := by rw [hr, List.length_append, tot_flat]
  have hm := tot_many bs
  have hall : ∀ A : AH, itemsOf A (.rng 0 ((os.length : Nat) + 1)) = some ((List.range (os.length + 1)).map fun i : Nat => D.int (i : Int)) := fun A => by
    have : (((os.length : Nat) : Int) + 1 - 0).toNat = os.length + 1 := by omega
    simp only [itemsOf, this, Int.zero_add]
  have g := own_go (n := A.length) ho hw hall bs 0 [] ((List.range (os.length + 1)).map fun i : Nat => D.int (i : Int)) (A ++ [AO.lst []]) none none none hb (by rw [List.drop_zero]; exact hr) (Nat.zero_le _) hA (by simp; omega) (by simp; omega)
  have hset : (A ++ [AO.lst []]).set A.length (.lst (tups bs)) = A ++ [.lst (tups bs)] := by
    rw [List.set_append_right _ _ (Nat.le_refl _)]; simp
  rw [List.nil_append, hset, Nat.zero_add] at g
  unfold ownM
  refine fun_rt ?_
  refine (seq_nx (ρ1 := [some (.tup (dI os)), some (.ref A.length), some (.int ((0 : Nat) : Int)), none, none, none]) (A1 := A ++ [AO.lst []]) rfl).trans ?_
  have h1 : mR1 (mCons (mOp fAdd (mCall fLen (mCons (mVar 0) (mNil))) (mK (.int 1))) (mNil)) [some (.tup (dI os)), some (.ref A.length), some (.int ((0 : Nat) : Int)), none, none, none] (A ++ [AO.lst []]) = .ok (.rng 0 ((os.length : Nat) + 1)) (A ++ [AO.lst []]) := by
    refine r1_at ?_ (by omega)
    simp only [ev_var, ev_K, ev_op, ev_neg, ev_tst, ev_and, ev_or, ev_not, ev_andV, ev_orV, ev_notV, ev_if, ev_chn, ev_nil, ev_cons, ev_tup, ev_lst, ev_new, ev_call, ev_callF, ev_callK, ev_met, ev_sl, ev_some, ev_none, ev_rev, ev_yes, ev_sq, ev_next, ev_drop, ev_ret, ev_ifs, ev_set, ev_par2, ev_par3, ev_asg, ev_nm, List.getElem?_cons_zero, List.getElem?_cons_succ, List.set_cons_zero, List.set_cons_succ, bind_ok, lift_ok, List.length_cons, List.length_nil, Nat.reduceAdd, Nat.reduceLeDiff, ↓reduceIte, if_true, if_false, Bool.false_eq_true, len_tup, fAdd]
  refine (seq_rt (d := rdD bs (decide (tot bs = os.length)) (.str w)) (A1 := A ++ [.lst (tups bs)]) ?_)
  rw [ev_for, h1, lift_ok, hall]
  refine g.trans ?_
  have hd : decide (tot bs = os.length) = decide (rest = []) := by
    by_cases h : rest = []
    · rw [h, List.length_nil] at hlen
      rw [decide_eq_true h, decide_eq_true (by omega)]
    · have : rest.length ≠ 0 := fun h0 => h (List.length_eq_zero_iff.mp h0)
      rw [decide_eq_false h, decide_eq_false (by omega)]
  rw [hd]
  unfold rdD
  by_cases h : rest = []
  · rw [if_pos h, decide_eq_true h]; rfl
  · rw [if_neg h, decide_eq_false h]; rfl
end DM
end
section
set_option maxHeartbeats 1000000
namespace DM
open PySem PySem.Spec PyProof.Rows L2
structure Sm (bs : List (List Nat)) : Prop where
  n : bs.length ≤ 4
  l : ∀ b ∈ bs, b.length ≤ 9
  o : ∀ b ∈ bs, ∀ x ∈ b, x < 256
theorem Sm.take {bs : List (List Nat)} (h : Sm bs) (k : Nat) : Sm (bs.take k) := ⟨by have := h.n; rw [List.length_take]; omega, fun b hb => h.l b (List.mem_of_mem_take hb), fun b hb => h.o b (List.mem_of_mem_take hb)⟩
theorem tot_small : ∀ bs : List (List Nat), (∀ b ∈ bs, b.length ≤ 9) → tot bs ≤ 17 * bs.length
  | [], _ => Nat.le_refl _
  | b :: bs, h => by
    have h1 := tot_small bs fun x hx => h x (List.mem_cons_of_mem _ hx)
    have h2 := h b List.mem_cons_self
    rw [show tot (b :: bs) = tot ([b] ++ bs) from rfl, tot_append, tot_one, List.length_cons]
    omega
theorem Sm.tot {bs : List (List Nat)} (h : Sm bs) : tot bs ≤ 68 := by
  have := tot_small bs h.l
  have := h.n
  omega
theorem Sm.oct {bs : List (List Nat)} (h : Sm bs) : ∀ x ∈ (bs.map pf).flatten, x < 256 := by
  intro x hx
  obtain ⟨l, hl, hx⟩ := List.mem_flatten.mp hx
  obtain ⟨b, hb, rfl⟩ := List.mem_map.mp hl
  exact pf_oct (by have := h.l b hb; omega) (h.o b hb) x hx
theorem Sm.fits {bs : List (List Nat)} (h : Sm bs) : ∀ b ∈ bs, b.length ≤ 65535 := fun b hb => by have := h.l b hb; omega
theorem few_three {a b c : PyData} {k w : Nat} (ha : Few k w a) (hb : Few k w b) (hc : Few k w c) : Few (k + 1) (3 * (w + 1)) (.tuple [a, b, c]) := few_tuple (xs := [a, b, c]) fun x hx => by
  simp only [List.mem_cons, List.not_mem_nil, or_false] at hx
  rcases hx with rfl | rfl | rfl
  · exact ha
  · exact hb
  · exact hc
theorem few_two {a b : PyData} {k w : Nat} (ha : Few k w a) (hb : Few k w b) : Few (k + 1) (2 * (w + 1)) (.tuple [a, b]) := few_tuple (xs := [a, b]) fun x hx => by
  simp only [List.mem_cons, List.not_mem_nil, or_false] at hx
  rcases hx with rfl | rfl
  · exact ha
  · exact hb
theorem few_whole : Few 0 40 (.str "whole") := few_word (by decide +kernel) (by decide +kernel) (by decide +kernel)
theorem few_cut : Few 0 40 (.str "cut") := few_word (by decide +kernel) (by decide +kernel) (by decide +kernel)
theorem py_three {xs : List D} {i : Int} {s : Str} {p : List PyData} (h : toPys xs = some p) : toPy (.tup [.tup xs, .int i, .str s]) = some (.tuple [.tuple p, .int i, .str s]) := by
  simp only [toPy, toPys, h, Option.map_some]
theorem rd_few {bs : List (List Nat)} {t : Nat} {s : Str} (h : Sm bs) (ht : t ≤ 1000) (hs : Few 0 40 (.str s)) : ∃ q, toPy (.tup [.tup (tups bs), .int (t : Nat), .str s]) = some q ∧ Few 3 5000 q := by
  refine ⟨_, py_three (toPys_tups bs), ?_⟩
  have f1 : Few 2 1480 (.tuple (bs.map pyT)) := (few_tuple (k := 1) (w := 369) (xs := bs.map pyT) fun x hx => by
    obtain ⟨b, hb, rfl⟩ := List.mem_map.mp hx
    exact (few_pyT (h.o b hb)).mono (Nat.le_refl _) (by have := h.l b hb; omega)).mono (Nat.le_refl _) (by have := h.n; rw [List.length_map]; omega)
  have f2 : Few 0 40 (.int (t : Nat)) := few_int (by simp; omega)
  exact (few_three f1 (f2.mono (by decide) (by decide)) (hs.mono (by decide) (by decide))).mono (by decide) (by decide)
theorem gt_few {b : List Nat} {t : Nat} (hl : b.length ≤ 9) (ho : ∀ x ∈ b, x < 256) (ht : t ≤ 1000) : ∃ q, toPy (.tup [.tup (dI b), .int (t : Nat)]) = some q ∧ Few 2 5000 q := by
  have e : toPy (.tup [.tup (dI b), .int (t : Nat)]) = some (.tuple [pyT b, .int (t : Nat)]) := by
    have h := toPy_dI b
    simp only [toPy] at h
    simp only [toPy, toPys, h, Option.map_some]
  refine ⟨_, e, ?_⟩
  have f2 : Few 0 40 (.int (t : Nat)) := few_int (by simp; omega)
  exact (few_two ((few_pyT ho).mono (Nat.le_refl _) (by omega : _ ≤ 400)) (f2.mono (by decide) (by decide))).mono (by decide) (by decide)
theorem items_rng {A : AH} {j : Int} {N : Nat} (h : j = N) : itemsOf A (.rng 0 j) = some ((List.range N).map fun i : Nat => D.int (i : Int)) := by
  subst h
  simp [itemsOf]
noncomputable abbrev sumX := sumM checkM pairM
noncomputable abbrev faultX := faultM sumX
noncomputable abbrev getX := getM faultX
noncomputable abbrev readX := readM faultX getX
noncomputable abbrev putX := putM sumX pairM
end DM
end
section
set_option maxHeartbeats 1000000
namespace DM
open PySem PySem.Spec PyProof.Rows L2
theorem HS.app {h q : Nat} {A : AH} {l : List AO} (hs : HS h q A) : HS h q (A ++ l) := by
  obtain ⟨a, L, s, h1, h2, h3⟩ := hs
  refine ⟨a, L, s, ?_, ?_, h3⟩
  · rw [List.getElem?_append_left (List.getElem?_eq_some_iff.mp h1).1]; exact h1
  · rw [List.getElem?_append_left (List.getElem?_eq_some_iff.mp h2).1]; exact h2
theorem at_app {A l : AH} {e : Nat} {o : AO} (h : A[e]? = some o) : (A ++ l)[e]? = some o := by
  rw [List.getElem?_append_left (List.getElem?_eq_some_iff.mp h).1]; exact h
/-! ### one octet turned -/
noncomputable def turnM : List D → AH → Res D := mFun 3 (mRet (mOp fAdd (mOp fAdd (mSl (mVar 0) (mNone) (mSome (mVar 1))) (mTup (mCons (mOp fMod (mCall fInt (mCons (mOp fAdd (mOp fIx (mVar 0)
    (mVar 1)) (mVar 2)) (mNil))) (mK (.int 256))) (mNil)))) (mSl (mVar 0) (mSome (mOp fAdd (mVar 1) (mK (.int 1)))) (mNone))))
def turn1 (os : List Nat) (k u : Nat) : List Nat := os.take k ++ u :: os.drop (k + 1)
theorem turn_g {T U V Y Z : D} {A : AH} {j a v : Int} (h1 : fSl T none (some j) A = .ok U A) (h2 : fIx T (.int j) A = .ok (.int a) A) (h3 : fAdd U (.tup [.int ((a + v) % 256)]) A = .ok V A) (h4 : fSl T (some (j + 1)) none A = .ok Y A) (h5 : fAdd V Y A = .ok Z A) : turnM [T, .int j, .int v] A = .ok Z A := by
  unfold turnM
  refine fun_rt ?_
  simp only [ev_var, ev_K, ev_op, ev_neg, ev_tst, ev_and, ev_or, ev_not, ev_andV, ev_orV, ev_notV, ev_if, ev_chn, ev_nil, ev_cons, ev_tup, ev_lst, ev_new, ev_call, ev_callF, ev_callK, ev_met, ev_sl, ev_some, ev_none, ev_rev, ev_yes, ev_sq, ev_next, ev_drop, ev_ret, ev_ifs, ev_set, ev_par2, ev_par3, ev_asg, ev_nm, List.getElem?_cons_zero, List.getElem?_cons_succ, List.set_cons_zero, List.set_cons_succ, bind_ok, lift_ok, List.length_cons, List.length_nil, Nat.reduceAdd, Nat.reduceLeDiff, ↓reduceIte, if_true, if_false, Bool.false_eq_true, List.map_cons, List.map_nil, List.replicate, List.cons_append, List.nil_append, Nat.reduceSub, h1, h2, fInt, fMod, fI, show (0 : Int) < 256 by decide]
  have e : fAdd (.int a) (.int v) A = .ok (.int (a + v)) A := rfl
  have e1 : fAdd (.int j) (.int 1) A = .ok (.int (j + 1)) A := rfl
  simp only [e, e1, bind_ok, fInt, fMod, fI, show (0 : Int) < 256 by decide, if_true, h3, h4, h5, lift_ok, List.length_cons, List.length_nil, Nat.reduceAdd, Nat.reduceLeDiff]
theorem turned_ok {os : List Nat} {k u v : Nat} {A : AH} (hk : os[k]? = some u) (hz : os.length ≤ 16777000) : turnM [.tup (dI os), .int (k : Nat), .int (v : Nat)] A = .ok (.tup (dI (turn1 os k ((u + v) % 256)))) A := by
  have hlt := (List.getElem?_eq_some_iff.mp hk).1
  have h1 := sl_upto (os := os) (A := A) (k := k) (j := (k : Int)) rfl
  have h2 := ix_dI (j := (k : Int)) (A := A) hk rfl
  have h4 := sl_from (os := os) (e := k + 1) (A := A) (by omega)
  rw [show ((k + 1 : Nat) : Int) = (k : Int) + 1 by omega] at h4
  have e : D.tup [D.int (((u : Int) + v) % 256)] = .tup (dI [(u + v) % 256]) := by
    show D.tup [D.int _] = D.tup [D.int _]
    rw [show ((u : Int) + v) % 256 = (((u + v) % 256 : Nat) : Int) by omega]
  refine turn_g h1 h2 (by rw [e]; exact add_tup (by rw [dI_length, dI_length, List.length_take]; simp; omega)) h4 ?_
  rw [← dI_append, add_tup (by rw [dI_length, dI_length, List.length_append, List.length_take, List.length_drop]; simp; omega), ← dI_append]
  simp [turn1]
theorem turn_length {os : List Nat} {k u : Nat} (h : k < os.length) : (turn1 os k u).length = os.length := by
  simp [turn1]; omega
theorem turn_oct {os : List Nat} {k u : Nat} (h : ∀ x ∈ os, x < 256) (hu : u < 256) : ∀ x ∈ turn1 os k u, x < 256 := by
  intro x hx
  unfold turn1 at hx
  rcases List.mem_append.mp hx with hx | hx
  · exact h x (List.mem_of_mem_take hx)
  · rcases List.mem_cons.mp hx with rfl | hx
    · exact hu
    · exact h x (List.mem_of_mem_drop hx)
/-- octets that part from whole frames at one place, or at two beside one another -/
theorem bent_read {bs : List (List Nat)} {m at' u u' : Nat} {b T : List Nat} {A : AH} (h : Sm bs) (hm : bs[m]? = some b) (h1 : tot (bs.take m) ≤ at') (h2 : at' < tot (bs.take m) + (b.length + 8)) (hu : ((bs.map pf).flatten)[at']? = some u) (hu' : u' < 256) (hne : u' ≠ u)
    (hT : T.length + (at' + 1) = tot bs) (hd : T.drop 1 = ((bs.map pf).flatten).drop (at' + 2)) (hoT : ∀ x ∈ T, x < 256) :
    readX [.tup (dI (((bs.map pf).flatten).take at' ++ u' :: T))] A = .ok (.tup [.tup (tups (bs.take m)), .int ((tot (bs.take m) : Nat) : Int), .str "broken"]) (A ++ [.lst (tups (bs.take m))]) := by
  have hlm := (List.getElem?_eq_some_iff.mp hm).1
  have hb : bs[m] = b := (List.getElem?_eq_some_iff.mp hm).2
  have hbm : b ∈ bs := hb ▸ List.getElem_mem hlm
  have hs : (bs.map pf).flatten = ((bs.take m).map pf).flatten ++ (pf b ++ ((bs.drop (m + 1)).map pf).flatten) := by
    rw [show pf b ++ ((bs.drop (m + 1)).map pf).flatten = ((bs.drop m).map pf).flatten by rw [List.drop_eq_getElem_cons hlm, hb, List.map_cons, List.flatten_cons], ← List.flatten_append, ← List.map_append, List.take_append_drop]
  have hl1 := flat_len (bs.take m)
  have hlen := flat_len bs
  obtain ⟨i, rfl⟩ : ∃ i, at' = tot (bs.take m) + i := ⟨at' - tot (bs.take m), by omega⟩
  generalize hR : pf b ++ ((bs.drop (m + 1)).map pf).flatten = R at *
  generalize hF : ((bs.take m).map pf).flatten = F at *
  have hRi : R[i]? = some u := by
    rw [hs, ← hl1, List.getElem?_append_right (by omega)] at hu
    rw [← hu]; congr 1; omega
  have hRl := (List.getElem?_eq_some_iff.mp hRi).1
  have hR2 : R.take i ++ u :: R.drop (i + 1) = R := by
    have := List.drop_eq_getElem_cons hRl
    rw [(List.getElem?_eq_some_iff.mp hRi).2] at this
    rw [← this, List.take_append_drop]
  have hos : ((bs.map pf).flatten).take (tot (bs.take m) + i) ++ u' :: T = F ++ (R.take i ++ u' :: T) := by
    rw [hs, ← hl1, List.take_length_add_append, List.append_assoc]
  have hoct := h.oct
  have hf : ffR (R.take i ++ u' :: T) = .str "broken" := by
    refine bent_broken (b := b) (rest := ((bs.drop (m + 1)).map pf).flatten) (P := R.take i) (S := R.drop (i + 1)) (u := u) (h.fits b hbm) (h.o b hbm) (by rw [hR2, hR]) (by rw [List.length_take]; omega) hu' hne hoT ?_ ?_
    · rw [List.length_drop]
      have : (bs.map pf).flatten.length = F.length + R.length := by rw [hs, List.length_append]
      omega
    · rw [hd, hs, List.drop_drop, ← hl1, show F.length + i + 2 = F.length + (i + 2) by omega, ← List.drop_drop, List.drop_left]
  have hlenB : (F ++ (R.take i ++ u' :: T)).length = tot bs := by
    rw [← hos, List.length_append, List.length_take, List.length_cons]
    omega
  rw [hos]
  have hall : ∀ x ∈ F ++ (R.take i ++ u' :: T), x < 256 := by
    rw [← hos]
    intro x hx
    rcases List.mem_append.mp hx with hx | hx
    · exact hoct x (List.mem_of_mem_take hx)
    · rcases List.mem_cons.mp hx with rfl | hx
      · exact hu'
      · exact hoT x hx
  have r := read_ok (A := A) (os := F ++ (R.take i ++ u' :: T)) (bs := bs.take m) (rest := R.take i ++ u' :: T) (w := .str "broken") hall hf rfl (h.take m).fits (by rw [hF]) (by have := (h.take m).n; omega)
  rw [hlenB, decide_eq_false (by have := tot_lt (bs := bs) hlm (Nat.le_refl _); rw [List.take_length] at this; omega)] at r
  exact r
end DM
end
section
set_option maxHeartbeats 1000000
namespace DM
open PySem PySem.Spec PyProof.Rows L2
theorem cut_less {xs : List D} (h : xs ≠ []) : cutD xs none (some (-1)) = xs.take (xs.length - 1) := by
  have hl : 0 < xs.length := List.length_pos_iff.mpr h
  unfold cutD
  rw [HT.sIx_none, List.drop_zero, Nat.sub_zero]
  congr 1
  unfold HT.sIx
  simp
  omega
theorem tot_len : ∀ bs : List (List Nat), ∀ b ∈ bs, b.length + 8 ≤ tot bs
  | [], b, h => by simp at h
  | c :: bs, b, h => by
    have e : tot (c :: bs) = c.length + 8 + tot bs := by simp [tot]
    rcases List.mem_cons.mp h with rfl | h
    · omega
    · have := tot_len bs b h
      omega
theorem tot_eight : ∀ bs : List (List Nat), 8 * bs.length ≤ tot bs
  | [] => Nat.le_refl _
  | c :: bs => by
    have := tot_eight bs
    have e : tot (c :: bs) = c.length + 8 + tot bs := by simp [tot]
    rw [e, List.length_cons]
    omega
theorem rd_mid {bs : List (List Nat)} {s : Str} (ht : tot bs ≤ 200) (ho : ∀ b ∈ bs, ∀ x ∈ b, x < 256) (hs : Few 0 40 (.str s)) : ∃ q, toPy (.tup [.tup (tups bs), .int (tot bs : Nat), .str s]) = some q ∧ Few 3 700000 q := by
  refine ⟨_, py_three (toPys_tups bs), ?_⟩
  have h8 := tot_eight bs
  have f1 : Few 2 210000 (.tuple (bs.map pyT)) := (few_tuple (k := 1) (w := 8200) (xs := bs.map pyT) fun x hx => by
    obtain ⟨b, hb, rfl⟩ := List.mem_map.mp hx
    exact (few_pyT (ho b hb)).mono (Nat.le_refl _) (by have := tot_len bs b hb; omega)).mono (Nat.le_refl _) (by rw [List.length_map]; omega)
  have f2 : Few 0 40 (.int (tot bs : Nat)) := few_int (by simp; omega)
  exact (few_three f1 (f2.mono (by decide) (by decide)) (hs.mono (by decide) (by decide))).mono (by decide) (by decide)
theorem few_broken : Few 0 40 (.str "broken") := few_word (by decide +kernel) (by decide +kernel) (by decide +kernel)
/-- read_frames and the law's own reader tell the same text -/
theorem both_read {os : List Nat} {A : AH} (ho : ∀ x ∈ os, x < 256) (hl : os.length ≤ 200) : ∃ (Y : D) (z : Str) (l : AO), (∀ A : AH, readX [.tup (dI os)] A = .ok Y (A ++ [l])) ∧ (∀ A : AH, ownM lfrX [.tup (dI os)] A = .ok Y (A ++ [l])) ∧ ∀ A : AH, fRepr [Y] A = .ok (.str z) A := by
  obtain ⟨bs, rest, hr, hw, hb, hob⟩ := parts os.length os (Nat.le_refl _) ho
  have hlen : os.length = tot bs + rest.length := by rw [hr, List.length_append, flat_len]
  have hm := tot_many bs
  obtain ⟨w, hw, hfw⟩ : ∃ w : Str, ffR rest = .str w ∧ Few 0 40 (.str w) := by
    rcases hw with hw | hw
    · exact ⟨_, hw, few_cut⟩
    · exact ⟨_, hw, few_broken⟩
  have hd : rdD bs (decide (tot bs = os.length)) (.str w) = .tup [.tup (tups bs), .int ((tot bs : Nat) : Int), .str (if decide (tot bs = os.length) then "whole" else w)] := by
    unfold rdD
    cases decide (tot bs = os.length) <;> rfl
  obtain ⟨q, hq, fq⟩ := rd_mid (bs := bs) (s := if decide (tot bs = os.length) then "whole" else w) (by omega) hob (by cases decide (tot bs = os.length); exact hfw; exact few_whole)
  refine ⟨rdD bs (decide (tot bs = os.length)) (.str w), q.shown, .lst (tups bs), fun A => ?_, fun A => ?_, fun A => ?_⟩
  · exact read_ok ho hw rfl hb hr (by omega)
  · exact own_ok ho hw hb hr (by omega)
  · rw [hd]
    exact repr_few hq fq (by decide) (by decide)
theorem none_shown : PyData.shown (.tuple [.tuple [], .int 0, .str "whole"]) = ("((), 0, 'whole')" : Str) := by decide +kernel
end DM
end
section
set_option maxHeartbeats 4000000
namespace K07
open PySem PySem.Spec PyProof.Rows L2 DM
/-! ### the text -/
def stAt (i : Nat) : Stmt := PySem.Challenge.pw_spelledways_k07_whole_frames_changed_any.main.body.getD i (.Pass ⟨0, 0, 0, 0⟩)
abbrev x_check_sum : Stmt := stAt 9
abbrev nm_check_sum : List Str := ["octets", "total", "octet"]
theorem sc_check_sum : FnScope nm_check_sum ["octets"] (defScope x_check_sum) := ⟨rfl, rfl, rfl, by decide +kernel, rfl, by decide +kernel, by decide +kernel⟩
abbrev x_pair_of : Stmt := stAt 10
abbrev nm_pair_of : List Str := ["number"]
theorem sc_pair_of : FnScope nm_pair_of ["number"] (defScope x_pair_of) := ⟨rfl, rfl, rfl, by decide +kernel, rfl, by decide +kernel, by decide +kernel⟩
abbrev x_sum_octets : Stmt := stAt 11
abbrev nm_sum_octets : List Str := ["octets", "total"]
theorem sc_sum_octets : FnScope nm_sum_octets ["octets"] (defScope x_sum_octets) := ⟨rfl, rfl, rfl, by decide +kernel, rfl, by decide +kernel, by decide +kernel⟩
abbrev x_put_frame : Stmt := stAt 12
abbrev nm_put_frame : List Str := ["body", "framed"]
theorem sc_put_frame : FnScope nm_put_frame ["body"] (defScope x_put_frame) := ⟨rfl, rfl, rfl, by decide +kernel, rfl, by decide +kernel, by decide +kernel⟩
abbrev x_frame_fault : Stmt := stAt 13
abbrev nm_frame_fault : List Str := ["octets", "at", "size", "end"]
theorem sc_frame_fault : FnScope nm_frame_fault ["octets", "at"] (defScope x_frame_fault) := ⟨rfl, rfl, rfl, by decide +kernel, rfl, by decide +kernel, by decide +kernel⟩
abbrev x_get_frame : Stmt := stAt 14
abbrev nm_get_frame : List Str := ["octets", "at", "word", "end"]
theorem sc_get_frame : FnScope nm_get_frame ["octets", "at"] (defScope x_get_frame) := ⟨rfl, rfl, rfl, by decide +kernel, rfl, by decide +kernel, by decide +kernel⟩
abbrev x_read_frames : Stmt := stAt 15
abbrev nm_read_frames : List Str := ["octets", "bodies", "end", "word", "body"]
theorem sc_read_frames : FnScope nm_read_frames ["octets"] (defScope x_read_frames) := ⟨rfl, rfl, rfl, by decide +kernel, rfl, by decide +kernel, by decide +kernel⟩
abbrev x__law_heap : Stmt := stAt 17
abbrev nm__law_heap : List Str := ["_law_script", "_law_base", "_law_cells", "_law_stir", "_law_cell"]
theorem sc__law_heap : FnScope nm__law_heap ["_law_script", "_law_base"] (defScope x__law_heap) := ⟨rfl, rfl, rfl, by decide +kernel, rfl, by decide +kernel, by decide +kernel⟩
abbrev x__law_draw : Stmt := stAt 18
abbrev nm__law_draw : List Str := ["_law_heap_here", "_law_many", "_law_rest"]
theorem sc__law_draw : FnScope nm__law_draw ["_law_heap_here", "_law_many"] (defScope x__law_draw) := ⟨rfl, rfl, rfl, by decide +kernel, rfl, by decide +kernel, by decide +kernel⟩
abbrev x__law_pick : Stmt := stAt 19
abbrev nm__law_pick : List Str := ["_law_heap_here", "_law_some"]
theorem sc__law_pick : FnScope nm__law_pick ["_law_heap_here", "_law_some"] (defScope x__law_pick) := ⟨rfl, rfl, rfl, by decide +kernel, rfl, by decide +kernel, by decide +kernel⟩
abbrev x__law_sum : Stmt := stAt 20
abbrev nm__law_sum : List Str := ["_law_octets", "_law_total", "_law_octet"]
theorem sc__law_sum : FnScope nm__law_sum ["_law_octets"] (defScope x__law_sum) := ⟨rfl, rfl, rfl, by decide +kernel, rfl, by decide +kernel, by decide +kernel⟩
abbrev x__law_frame : Stmt := stAt 21
abbrev nm__law_frame : List Str := ["_law_body_here", "_law_size", "_law_rest", "_law_framed", "_law_total", "_law_found", "_law_turn"]
theorem sc__law_frame : FnScope nm__law_frame ["_law_body_here"] (defScope x__law_frame) := ⟨rfl, rfl, rfl, by decide +kernel, rfl, by decide +kernel, by decide +kernel⟩
abbrev x__law_body : Stmt := stAt 22
abbrev nm__law_body : List Str := ["_law_heap_here", "_law_most", "_law_many", "_law_turn"]
theorem sc__law_body : FnScope nm__law_body ["_law_heap_here", "_law_most"] (defScope x__law_body) := ⟨rfl, rfl, rfl, by decide +kernel, rfl, by decide +kernel, by decide +kernel⟩
abbrev x__law_own : Stmt := stAt 23
abbrev nm__law_own : List Str := ["_law_octets", "_law_bodies", "_law_end", "_law_turn", "_law_rest", "_law_size"]
theorem sc__law_own : FnScope nm__law_own ["_law_octets"] (defScope x__law_own) := ⟨rfl, rfl, rfl, by decide +kernel, rfl, by decide +kernel, by decide +kernel⟩
abbrev x__law_turned : Stmt := stAt 24
abbrev nm__law_turned : List Str := ["_law_octets", "_law_at", "_law_amount"]
theorem sc__law_turned : FnScope nm__law_turned ["_law_octets", "_law_at", "_law_amount"] (defScope x__law_turned) := ⟨rfl, rfl, rfl, by decide +kernel, rfl, by decide +kernel, by decide +kernel⟩
abbrev x_law : Stmt := stAt 25
abbrev nm_law : List Str := ["_law_script", "_law_heap_here", "_law_bodies", "_law_octets", "_law_owners", "_law_ends", "_law_at", "_law_body_here", "_law_drawn", "_law_size", "_law_mixed", "_law_some", "_law_due", "_law_bent", "_law_turn"]
theorem sc_law : FnScope nm_law ["_law_script"] (defScope x_law) := ⟨rfl, rfl, rfl, by decide +kernel, rfl, by decide +kernel, by decide +kernel⟩
/-! ### what the top has written -/
structure Tx (K : PySem.W.Frag) (mg : Str → Option Value) (ad : Nat → Addr) (fd : Nat → FuncData) : Prop where
  g_check_sum : mg "check_sum" = some (.ref (ad 0))
  F_check_sum : Fun K "check_sum" "check_sum" x_check_sum (ad 0) (fd 0)
  b_check_sum : Binds K (fd 0) ["octets"] []
  g_pair_of : mg "pair_of" = some (.ref (ad 1))
  F_pair_of : Fun K "pair_of" "pair_of" x_pair_of (ad 1) (fd 1)
  b_pair_of : Binds K (fd 1) ["number"] []
  g_sum_octets : mg "sum_octets" = some (.ref (ad 2))
  F_sum_octets : Fun K "sum_octets" "sum_octets" x_sum_octets (ad 2) (fd 2)
  b_sum_octets : Binds K (fd 2) ["octets"] []
  g_put_frame : mg "put_frame" = some (.ref (ad 3))
  F_put_frame : Fun K "put_frame" "put_frame" x_put_frame (ad 3) (fd 3)
  b_put_frame : Binds K (fd 3) ["body"] []
  g_frame_fault : mg "frame_fault" = some (.ref (ad 4))
  F_frame_fault : Fun K "frame_fault" "frame_fault" x_frame_fault (ad 4) (fd 4)
  b_frame_fault : Binds K (fd 4) ["octets", "at"] []
  g_get_frame : mg "get_frame" = some (.ref (ad 5))
  F_get_frame : Fun K "get_frame" "get_frame" x_get_frame (ad 5) (fd 5)
  b_get_frame : Binds K (fd 5) ["octets", "at"] []
  g_read_frames : mg "read_frames" = some (.ref (ad 6))
  F_read_frames : Fun K "read_frames" "read_frames" x_read_frames (ad 6) (fd 6)
  b_read_frames : Binds K (fd 6) ["octets"] []
  g__law_heap : mg "_law_heap" = some (.ref (ad 7))
  F__law_heap : Fun K "_law_heap" "_law_heap" x__law_heap (ad 7) (fd 7)
  b__law_heap : Binds K (fd 7) ["_law_script", "_law_base"] []
  g__law_draw : mg "_law_draw" = some (.ref (ad 8))
  F__law_draw : Fun K "_law_draw" "_law_draw" x__law_draw (ad 8) (fd 8)
  b__law_draw : Binds K (fd 8) ["_law_heap_here", "_law_many"] []
  g__law_pick : mg "_law_pick" = some (.ref (ad 9))
  F__law_pick : Fun K "_law_pick" "_law_pick" x__law_pick (ad 9) (fd 9)
  b__law_pick : Binds K (fd 9) ["_law_heap_here", "_law_some"] []
  g__law_sum : mg "_law_sum" = some (.ref (ad 10))
  F__law_sum : Fun K "_law_sum" "_law_sum" x__law_sum (ad 10) (fd 10)
  b__law_sum : Binds K (fd 10) ["_law_octets"] []
  g__law_frame : mg "_law_frame" = some (.ref (ad 11))
  F__law_frame : Fun K "_law_frame" "_law_frame" x__law_frame (ad 11) (fd 11)
  b__law_frame : Binds K (fd 11) ["_law_body_here"] []
  g__law_body : mg "_law_body" = some (.ref (ad 12))
  F__law_body : Fun K "_law_body" "_law_body" x__law_body (ad 12) (fd 12)
  b__law_body : Binds K (fd 12) ["_law_heap_here", "_law_most"] []
  g__law_own : mg "_law_own" = some (.ref (ad 13))
  F__law_own : Fun K "_law_own" "_law_own" x__law_own (ad 13) (fd 13)
  b__law_own : Binds K (fd 13) ["_law_octets"] []
  g__law_turned : mg "_law_turned" = some (.ref (ad 14))
  F__law_turned : Fun K "_law_turned" "_law_turned" x__law_turned (ad 14) (fd 14)
  b__law_turned : Binds K (fd 14) ["_law_octets", "_law_at", "_law_amount"] []
  g_law : mg "law" = some (.ref (ad 15))
  F_law : Fun K "law" "law" x_law (ad 15) (fd 15)
  b_law : Binds K (fd 15) ["_law_script"] []
  z_abs : mg "abs" = none
  z_enumerate : mg "enumerate" = none
  z_int : mg "int" = none
  z_len : mg "len" = none
  z_range : mg "range" = none
  z_repr : mg "repr" = none
  z_tuple : mg "tuple" = none
  c_MODULUS : ∃ t, mg "MODULUS" = some (.int 4294967291 t)
  c_LONGEST_BODY : ∃ t, mg "LONGEST_BODY" = some (.int 65535 t)
  c_HEAD : ∃ t, mg "HEAD" = some (.int 4 t)
  c_EXTRA : ∃ t, mg "EXTRA" = some (.int 8 t)
/-! ### the defs -/
noncomputable def m_check_sum : List D → AH → Res D := mFun 3 (mSeq (mSet 1 (mK (.int 1))) (mSeq (mFor (mSq (mVar 0)) (.nm 2) (mSet 1 (mOp fMod (mOp fAdd (mOp fMul (mVar 1) (mK (.int 256))) (mVar 2))
    (mK (.int 4294967291))))) (mRet (mVar 1))))
theorem w_check_sum {P : Program} {w : World} {K : PySem.W.Frag} {mg : Str → Option Value} {base : Heap} {ad : Nat → Addr} {fd : Nat → FuncData} (T : Tx K mg ad fd) :
    FnD P w K mg base 1 (ad 0) (fd 0) ["octets"] (m_check_sum) :=
  have nd := sc_check_sum.nd
FnD.of T.F_check_sum sc_check_sum fun cdv A outer s H E hr gd tk hp => s_cons (s_set (i := 1) nd (d_int)) (s_cons (s_for hp rfl (i_sq (d_var 0)) (tg_nm (i := 2) nd) (s_one (s_set (i := 1) nd (d_mod
    (d_add (d_mul (d_var 1) (d_int)) (d_var 2)) (d_gint T.c_MODULUS.choose_spec))))) (s_one (s_ret (d_var 1))))
noncomputable def m_pair_of : List D → AH → Res D := mFun 1 (mRet (mTup (mCons (mOp fShr (mVar 0) (mK (.int 8))) (mCons (mOp fAnd (mVar 0) (mK (.int 255))) (mNil)))))
theorem w_pair_of {P : Program} {w : World} {K : PySem.W.Frag} {mg : Str → Option Value} {base : Heap} {ad : Nat → Addr} {fd : Nat → FuncData} (T : Tx K mg ad fd) :
    FnD P w K mg base 1 (ad 1) (fd 1) ["number"] (m_pair_of) :=
  have nd := sc_pair_of.nd
FnD.of T.F_pair_of sc_pair_of fun cdv A outer s H E hr gd tk hp => s_one (s_ret (d_tup (a_cons (d_shr (d_var 0) (d_int)) (a_cons (d_and (d_var 0) (d_int)) (a_nil)))))
noncomputable def m_sum_octets (c_check_sum : List D → AH → Res D) (c_pair_of : List D → AH → Res D) : List D → AH → Res D := mFun 2 (mSeq (mSet 1 (mCallF 1 c_check_sum (mCons (mVar 0) (mNil)))) (mRet
    (mOp fAdd (mCallF 1 c_pair_of (mCons (mOp fShr (mVar 1) (mK (.int 16))) (mNil))) (mCallF 1 c_pair_of (mCons (mOp fAnd (mVar 1) (mK (.int 65535))) (mNil))))))
theorem w_sum_octets {P : Program} {w : World} {K : PySem.W.Frag} {mg : Str → Option Value} {base : Heap} {ad : Nat → Addr} {fd : Nat → FuncData} (T : Tx K mg ad fd) {c_check_sum : List D → AH → Res D}
    (G_check_sum : FnD P w K mg base 1 (ad 0) (fd 0) ["octets"] c_check_sum) {c_pair_of : List D → AH → Res D} (G_pair_of : FnD P w K mg base 1 (ad 1) (fd 1) ["number"] c_pair_of) :
    FnD P w K mg base 2 (ad 2) (fd 2) ["octets"] (m_sum_octets c_check_sum c_pair_of) :=
  have nd := sc_sum_octets.nd
FnD.of T.F_sum_octets sc_sum_octets fun cdv A outer s H E hr gd tk hp => s_cons (s_set (i := 1) nd (d_call G_check_sum (hr.mono (by decide)) gd tk T.g_check_sum T.F_check_sum.kp T.b_check_sum (a_cons
    (d_var 0) (a_nil)))) (s_one (s_ret (d_add (d_call G_pair_of (hr.mono (by decide)) gd tk T.g_pair_of T.F_pair_of.kp T.b_pair_of (a_cons (d_shr (d_var 1) (d_int)) (a_nil))) (d_call G_pair_of (hr.mono
    (by decide)) gd tk T.g_pair_of T.F_pair_of.kp T.b_pair_of (a_cons (d_and (d_var 1) (d_int)) (a_nil))))))
noncomputable def m_put_frame (c_sum_octets : List D → AH → Res D) (c_pair_of : List D → AH → Res D) : List D → AH → Res D := mFun 2 (mSeq (mIfS (mTst (mOp fGt (mCall fLen (mCons (mVar 0) (mNil))) (mK
    (.int 65535)))) (mBad) (mNext)) (mSeq (mSet 1 (mOp fAdd (mOp fAdd (mCallF 1 c_pair_of (mCons (mCall fLen (mCons (mVar 0) (mNil))) (mNil))) (mCallF 1 c_pair_of (mCons (mOp fSub (mK (.int 65535))
    (mCall fLen (mCons (mVar 0) (mNil)))) (mNil)))) (mCall fTup (mCons (mVar 0) (mNil))))) (mRet (mOp fAdd (mVar 1) (mCallF 1 c_sum_octets (mCons (mVar 1) (mNil)))))))
theorem w_put_frame {P : Program} {w : World} {K : PySem.W.Frag} {mg : Str → Option Value} {base : Heap} {ad : Nat → Addr} {fd : Nat → FuncData} (T : Tx K mg ad fd) {c_sum_octets : List D → AH → Res D}
    (G_sum_octets : FnD P w K mg base 2 (ad 2) (fd 2) ["octets"] c_sum_octets) {c_pair_of : List D → AH → Res D} (G_pair_of : FnD P w K mg base 1 (ad 1) (fd 1) ["number"] c_pair_of) :
    FnD P w K mg base 3 (ad 3) (fd 3) ["body"] (m_put_frame c_sum_octets c_pair_of) :=
  have nd := sc_put_frame.nd
FnD.of T.F_put_frame sc_put_frame fun cdv A outer s H E hr gd tk hp => s_cons (s_if (t_gt (d_len T.z_len (a_cons (d_var 0) (a_nil))) (d_gint T.c_LONGEST_BODY.choose_spec)) (s_one (s_bad)) (s_nil))
    (s_cons (s_set (i := 1) nd (d_add (d_add (d_call G_pair_of (hr.mono (by decide)) gd tk T.g_pair_of T.F_pair_of.kp T.b_pair_of (a_cons (d_len T.z_len (a_cons (d_var 0) (a_nil))) (a_nil))) (d_call
    G_pair_of (hr.mono (by decide)) gd tk T.g_pair_of T.F_pair_of.kp T.b_pair_of (a_cons (d_sub (d_gint T.c_LONGEST_BODY.choose_spec) (d_len T.z_len (a_cons (d_var 0) (a_nil)))) (a_nil)))) (d_tuple
    T.z_tuple (a_cons (d_var 0) (a_nil))))) (s_one (s_ret (d_add (d_var 1) (d_call G_sum_octets (hr.mono (by decide)) gd tk T.g_sum_octets T.F_sum_octets.kp T.b_sum_octets (a_cons (d_var 1)
    (a_nil)))))))
noncomputable def m_frame_fault (c_sum_octets : List D → AH → Res D) : List D → AH → Res D := mFun 4 (mSeq (mIfS (mTst (mOp fLt (mCall fLen (mCons (mVar 0) (mNil))) (mOp fAdd (mVar 1) (mK (.int 4)))))
    (mRet (mK (.str "cut"))) (mNext)) (mSeq (mSet 2 (mOp fAdd (mOp fMul (mOp fIx (mVar 0) (mVar 1)) (mK (.int 256))) (mOp fIx (mVar 0) (mOp fAdd (mVar 1) (mK (.int 1)))))) (mSeq (mIfS (mTst (mOp (fEq
    true) (mOp fAdd (mOp fAdd (mVar 2) (mOp fMul (mOp fIx (mVar 0) (mOp fAdd (mVar 1) (mK (.int 2)))) (mK (.int 256)))) (mOp fIx (mVar 0) (mOp fAdd (mVar 1) (mK (.int 3))))) (mK (.int 65535)))) (mRet
    (mK (.str "broken"))) (mNext)) (mSeq (mSet 3 (mOp fAdd (mOp fAdd (mVar 1) (mVar 2)) (mK (.int 8)))) (mSeq (mIfS (mTst (mOp fLt (mCall fLen (mCons (mVar 0) (mNil))) (mVar 3))) (mRet (mK (.str
    "cut"))) (mNext)) (mRet (mIf (mTst (mOp (fEq false) (mCall fTup (mCons (mSl (mVar 0) (mSome (mOp fSub (mVar 3) (mK (.int 4)))) (mSome (mVar 3))) (mNil))) (mCallF 1 c_sum_octets (mCons (mSl (mVar 0)
    (mSome (mVar 1)) (mSome (mOp fSub (mVar 3) (mK (.int 4))))) (mNil))))) (mK .non) (mK (.str "broken")))))))))
theorem w_frame_fault {P : Program} {w : World} {K : PySem.W.Frag} {mg : Str → Option Value} {base : Heap} {ad : Nat → Addr} {fd : Nat → FuncData} (T : Tx K mg ad fd) {c_sum_octets : List D → AH → Res
    D} (G_sum_octets : FnD P w K mg base 2 (ad 2) (fd 2) ["octets"] c_sum_octets) :
    FnD P w K mg base 3 (ad 4) (fd 4) ["octets", "at"] (m_frame_fault c_sum_octets) :=
  have nd := sc_frame_fault.nd
FnD.of T.F_frame_fault sc_frame_fault fun cdv A outer s H E hr gd tk hp => s_cons (s_if (t_lt (d_len T.z_len (a_cons (d_var 0) (a_nil))) (d_add (d_var 1) (d_gint T.c_HEAD.choose_spec))) (s_one (s_ret
    (d_str))) (s_nil)) (s_cons (s_set (i := 2) nd (d_add (d_mul (d_ix (d_var 0) (d_var 1)) (d_int)) (d_ix (d_var 0) (d_add (d_var 1) (d_int))))) (s_cons (s_if (t_ne hr.units (d_add (d_add (d_var 2)
    (d_mul (d_ix (d_var 0) (d_add (d_var 1) (d_int))) (d_int))) (d_ix (d_var 0) (d_add (d_var 1) (d_int)))) (d_gint T.c_LONGEST_BODY.choose_spec)) (s_one (s_ret (d_str))) (s_nil)) (s_cons (s_set (i :=
    3) nd (d_add (d_add (d_var 1) (d_var 2)) (d_gint T.c_EXTRA.choose_spec))) (s_cons (s_if (t_lt (d_len T.z_len (a_cons (d_var 0) (a_nil))) (d_var 3)) (s_one (s_ret (d_str))) (s_nil)) (s_one (s_ret
    (d_if (t_eq hr.units (d_tuple T.z_tuple (a_cons (d_sl (d_var 0) (o_some (d_sub (d_var 3) (d_gint T.c_HEAD.choose_spec))) (o_some (d_var 3))) (a_nil))) (d_call G_sum_octets (hr.mono (by decide)) gd
    tk T.g_sum_octets T.F_sum_octets.kp T.b_sum_octets (a_cons (d_sl (d_var 0) (o_some (d_var 1)) (o_some (d_sub (d_var 3) (d_gint T.c_HEAD.choose_spec)))) (a_nil)))) (d_non) (d_str))))))))
noncomputable def m_get_frame (c_frame_fault : List D → AH → Res D) : List D → AH → Res D := mFun 4 (mSeq (mSet 2 (mCallF 2 c_frame_fault (mCons (mVar 0) (mCons (mVar 1) (mNil))))) (mSeq (mIfS (mTst
    (mOp (fIsN true) (mVar 2) (mK .non))) (mBad) (mNext)) (mSeq (mSet 3 (mOp fAdd (mOp fAdd (mOp fAdd (mVar 1) (mOp fMul (mOp fIx (mVar 0) (mVar 1)) (mK (.int 256)))) (mOp fIx (mVar 0) (mOp fAdd (mVar
    1) (mK (.int 1))))) (mK (.int 8)))) (mRet (mTup (mCons (mCall fTup (mCons (mSl (mVar 0) (mSome (mOp fAdd (mVar 1) (mK (.int 4)))) (mSome (mOp fSub (mVar 3) (mK (.int 4))))) (mNil))) (mCons (mVar 3)
    (mNil))))))))
theorem w_get_frame {P : Program} {w : World} {K : PySem.W.Frag} {mg : Str → Option Value} {base : Heap} {ad : Nat → Addr} {fd : Nat → FuncData} (T : Tx K mg ad fd) {c_frame_fault : List D → AH → Res
    D} (G_frame_fault : FnD P w K mg base 3 (ad 4) (fd 4) ["octets", "at"] c_frame_fault) :
    FnD P w K mg base 4 (ad 5) (fd 5) ["octets", "at"] (m_get_frame c_frame_fault) :=
  have nd := sc_get_frame.nd
FnD.of T.F_get_frame sc_get_frame fun cdv A outer s H E hr gd tk hp => s_cons (s_set (i := 2) nd (d_call G_frame_fault (hr.mono (by decide)) gd tk T.g_frame_fault T.F_frame_fault.kp T.b_frame_fault
    (a_cons (d_var 0) (a_cons (d_var 1) (a_nil))))) (s_cons (s_if (t_isnt (d_var 2) (d_non)) (s_one (s_bad)) (s_nil)) (s_cons (s_set (i := 3) nd (d_add (d_add (d_add (d_var 1) (d_mul (d_ix (d_var 0)
    (d_var 1)) (d_int))) (d_ix (d_var 0) (d_add (d_var 1) (d_int)))) (d_gint T.c_EXTRA.choose_spec))) (s_one (s_ret (d_tup (a_cons (d_tuple T.z_tuple (a_cons (d_sl (d_var 0) (o_some (d_add (d_var 1)
    (d_gint T.c_HEAD.choose_spec))) (o_some (d_sub (d_var 3) (d_gint T.c_HEAD.choose_spec)))) (a_nil))) (a_cons (d_var 3) (a_nil))))))))
noncomputable def m_read_frames (c_frame_fault : List D → AH → Res D) (c_get_frame : List D → AH → Res D) : List D → AH → Res D := mFun 5 (mSeq (mPar3 1 2 3 (mCons (mNew (mNil)) (mCons (mK (.int 0))
    (mCons (mCallF 2 c_frame_fault (mCons (mVar 0) (mCons (mK (.int 0)) (mNil)))) (mNil))))) (mSeq (mWhile (mTst (mOp (fIsN false) (mVar 3) (mK .non))) (mSeq (mAsg (.tp [.nm 4, .nm 2]) (mCallF 2
    c_get_frame (mCons (mVar 0) (mCons (mVar 2) (mNil))))) (mSeq (mDrop (mMet fApp (mVar 1) (mCons (mVar 4) (mNil)))) (mSet 3 (mCallF 2 c_frame_fault (mCons (mVar 0) (mCons (mVar 2) (mNil)))))))) (mRet
    (mTup (mCons (mCall fTup (mCons (mVar 1) (mNil))) (mCons (mVar 2) (mCons (mIf (mTst (mOp (fEq false) (mVar 2) (mCall fLen (mCons (mVar 0) (mNil))))) (mK (.str "whole")) (mVar 3)) (mNil))))))))
theorem w_read_frames {P : Program} {w : World} {K : PySem.W.Frag} {mg : Str → Option Value} {base : Heap} {ad : Nat → Addr} {fd : Nat → FuncData} (T : Tx K mg ad fd) {c_frame_fault : List D → AH → Res
    D} (G_frame_fault : FnD P w K mg base 3 (ad 4) (fd 4) ["octets", "at"] c_frame_fault) {c_get_frame : List D → AH → Res D} (G_get_frame : FnD P w K mg base 4 (ad 5) (fd 5) ["octets", "at"]
    c_get_frame) :
    FnD P w K mg base 5 (ad 6) (fd 6) ["octets"] (m_read_frames c_frame_fault c_get_frame) :=
  have nd := sc_read_frames.nd
FnD.of T.F_read_frames sc_read_frames fun cdv A outer s H E hr gd tk hp => s_cons (s_par3 (i := 1) (j := 2) (l := 3) rfl nd rfl rfl rfl (by decide) (by decide) (by decide) rfl rfl rfl (a_cons (d_new
    (a_nil)) (a_cons (d_int) (a_cons (d_call G_frame_fault (hr.mono (by decide)) gd tk T.g_frame_fault T.F_frame_fault.kp T.b_frame_fault (a_cons (d_var 0) (a_cons (d_int) (a_nil)))) (a_nil))))
    (by rfl)) (s_cons (s_while hp (t_is (d_var 3) (d_non)) (s_cons (s_asg (t := .tp [.nm 4, .nm 2]) (d_call G_get_frame (hr.mono (by decide)) gd tk T.g_get_frame T.F_get_frame.kp T.b_get_frame (a_cons
    (d_var 0) (a_cons (d_var 2) (a_nil)))) (tg_tp (ts := [.nm 4, .nm 2]) rfl (tgs_cons (tg_nm (i := 4) nd) (tgs_cons (tg_nm (i := 2) nd) (tgs_nil))))) (s_cons (s_expr (d_app (d_var 1) (a_cons (d_var 4)
    (a_nil)))) (s_one (s_set (i := 3) nd (d_call G_frame_fault (hr.mono (by decide)) gd tk T.g_frame_fault T.F_frame_fault.kp T.b_frame_fault (a_cons (d_var 0) (a_cons (d_var 2) (a_nil))))))))) (s_one
    (s_ret (d_tup (a_cons (d_tuple T.z_tuple (a_cons (d_var 1) (a_nil))) (a_cons (d_var 2) (a_cons (d_if (t_eq hr.units (d_var 2) (d_len T.z_len (a_cons (d_var 0) (a_nil)))) (d_str) (d_var 3))
    (a_nil))))))))
noncomputable def m__law_heap : List D → AH → Res D := mFun 5 (mSeq (mSet 2 (mLc false (mSq (mSl (mVar 0) (mNone) (mSome (mK (.int 63))))) (.nm 4) (mYes) (mCall fAbs (mCons (mCall fInt (mCons (mVar 4)
    (mNil))) (mNil))) [4])) (mSeq (mSet 3 (mOp fAdd (mK (.int 52387)) (mOp fMul (mK (.int 811)) (mVar 1)))) (mSeq (mFor (mSq (mVar 2)) (.nm 4) (mSet 3 (mOp fMod (mCall fInt (mCons (mOp fAdd (mOp fAdd
    (mOp fMul (mVar 3) (mK (.int 48271))) (mOp fMod (mVar 4) (mK (.int 2147483549)))) (mK (.int 29))) (mNil))) (mK (.int 2147483647))))) (mRet (mNew (mCons (mRev true (mLc false (mSq (mVar 2)) (.nm 4)
    (mTst (mOp fGe (mVar 4) (mOp fPow (mK (.int 10)) (mK (.int 18))))) (mVar 4) [4])) (mCons (mVar 3) (mNil))))))))
theorem w__law_heap {P : Program} {w : World} {K : PySem.W.Frag} {mg : Str → Option Value} {base : Heap} {ad : Nat → Addr} {fd : Nat → FuncData} (T : Tx K mg ad fd) :
    FnD P w K mg base 1 (ad 7) (fd 7) ["_law_script", "_law_base"] (m__law_heap) :=
  have nd := sc__law_heap.nd
FnD.of T.F__law_heap sc__law_heap fun cdv A outer s H E hr gd tk hp => s_cons (s_setLc (i := 2) (t := .nm 4) false [("_law_cell", 4)] rfl nd rfl rfl (sw_true rfl rfl rfl (by decide +kernel)) (i_sq
    (d_sl (d_var 0) (o_none) (o_some (d_int)))) (blkOk_by (N := nm__law_heap) (sc := defScope x__law_heap) (by decide +kernel)) (fun _ _ _ _ _ => tg_nm (i := 4) nd) (fun _ _ _ _ _ => l_nil) (fun _ _ _
    _ _ => d_abs T.z_abs (a_cons (d_intf T.z_int (a_cons (d_var 4) (a_nil))) (a_nil))) (sl := [4]) (by decide)) (s_cons (s_set (i := 3) nd (d_add (d_int) (d_mul (d_int) (d_var 1)))) (s_cons (s_for hp
    rfl (i_sq (d_var 2)) (tg_nm (i := 4) nd) (s_one (s_set (i := 3) nd (d_mod (d_intf T.z_int (a_cons (d_add (d_add (d_mul (d_var 3) (d_int)) (d_mod (d_var 4) (d_int))) (d_int)) (a_nil))) (d_int)))))
    (s_one (s_ret (d_new (a_cons (d_rev true (d_lc (t := .nm 4) false [("_law_cell", 4)] rfl nd (i_sq (d_var 2)) (blkOk_by (N := nm__law_heap) (sc := defScope x__law_heap) (by decide +kernel)) (fun _ _
    _ _ _ => tg_nm (i := 4) nd) (fun _ _ _ _ _ => l_one (t_ge (d_var 4) (d_pow (d_int) (d_int)))) (fun _ _ _ _ _ => d_var 4) (sl := [4]) (by decide))) (a_cons (d_var 3) (a_nil))))))))
noncomputable def m__law_draw : List D → AH → Res D := mFun 3 (mSeq (mWhile (mAnd (mTst (mOp (fEq true) (mOp fIx (mVar 0) (mK (.int 0))) (mLst (mNil)))) (mTst (mOp (fEq false) (mOp fIx (mOp fIx (mVar
    0) (mK (.int 0))) (mNeg (mK (.int 1)))) (mK (.int 0))))) (mDrop (mPop (mOp fIx (mVar 0) (mK (.int 0)))))) (mSeq (mIfS (mTst (mOp (fEq true) (mOp fIx (mVar 0) (mK (.int 0))) (mLst (mNil)))) (mSeq
    (mSet 2 (mCall fInt (mCons (mPop (mOp fIx (mVar 0) (mK (.int 0)))) (mNil)))) (mSeq (mDrop (mMet fApp (mOp fIx (mVar 0) (mK (.int 0))) (mCons (mOp fDiv (mVar 2) (mVar 1)) (mNil)))) (mRet (mOp fMod
    (mVar 2) (mVar 1))))) (mNext)) (mSeq (mSto (mOp fMod (mCall fInt (mCons (mOp fAdd (mOp fMul (mOp fIx (mVar 0) (mK (.int 1))) (mK (.int 48271))) (mK (.int 13))) (mNil))) (mK (.int 2147483647)))
    (mVar 0) (mK (.int 1))) (mRet (mOp fMod (mCall fInt (mCons (mOp fDiv (mOp fIx (mVar 0) (mK (.int 1))) (mK (.int 64))) (mNil))) (mVar 1))))))
theorem w__law_draw {P : Program} {w : World} {K : PySem.W.Frag} {mg : Str → Option Value} {base : Heap} {ad : Nat → Addr} {fd : Nat → FuncData} (T : Tx K mg ad fd) :
    FnD P w K mg base 1 (ad 8) (fd 8) ["_law_heap_here", "_law_many"] (m__law_draw) :=
  have nd := sc__law_draw.nd
FnD.of T.F__law_draw sc__law_draw fun cdv A outer s H E hr gd tk hp => s_cons (s_while hp (PW.pt (w_and (t_ne hr.units (d_ix (d_var 0) (d_int)) (d_lst (a_nil))) (w_and1 (t_eq hr.units (d_ix (d_ix
    (d_var 0) (d_int)) (d_neg (d_int))) (d_int))))) (s_one (s_expr (d_pop (d_ix (d_var 0) (d_int)))))) (s_cons (s_if (t_ne hr.units (d_ix (d_var 0) (d_int)) (d_lst (a_nil))) (s_cons (s_set (i := 2) nd
    (d_intf T.z_int (a_cons (d_pop (d_ix (d_var 0) (d_int))) (a_nil)))) (s_cons (s_expr (d_app (d_ix (d_var 0) (d_int)) (a_cons (d_div (d_var 2) (d_var 1)) (a_nil)))) (s_one (s_ret (d_mod (d_var 2)
    (d_var 1)))))) (s_nil)) (s_cons (s_setI (d_mod (d_intf T.z_int (a_cons (d_add (d_mul (d_ix (d_var 0) (d_int)) (d_int)) (d_int)) (a_nil))) (d_int)) (pg_sub (d_var 0) (d_int) set_list)) (s_one (s_ret
    (d_mod (d_intf T.z_int (a_cons (d_div (d_ix (d_var 0) (d_int)) (d_int)) (a_nil))) (d_var 1))))))
noncomputable def m__law_pick (c__law_draw : List D → AH → Res D) : List D → AH → Res D := mFun 2 (mRet (mOp fIx (mVar 1) (mCallF 2 c__law_draw (mCons (mVar 0) (mCons (mCall fLen (mCons (mVar 1)
    (mNil))) (mNil))))))
theorem w__law_pick {P : Program} {w : World} {K : PySem.W.Frag} {mg : Str → Option Value} {base : Heap} {ad : Nat → Addr} {fd : Nat → FuncData} (T : Tx K mg ad fd) {c__law_draw : List D → AH → Res D}
    (G__law_draw : FnD P w K mg base 1 (ad 8) (fd 8) ["_law_heap_here", "_law_many"] c__law_draw) :
    FnD P w K mg base 2 (ad 9) (fd 9) ["_law_heap_here", "_law_some"] (m__law_pick c__law_draw) :=
  have nd := sc__law_pick.nd
FnD.of T.F__law_pick sc__law_pick fun cdv A outer s H E hr gd tk hp => s_one (s_ret (d_ix (d_var 1) (d_call G__law_draw (hr.mono (by decide)) gd tk T.g__law_draw T.F__law_draw.kp T.b__law_draw (a_cons
    (d_var 0) (a_cons (d_len T.z_len (a_cons (d_var 1) (a_nil))) (a_nil))))))
noncomputable def m__law_sum : List D → AH → Res D := mFun 3 (mSeq (mSet 1 (mK (.int 1))) (mSeq (mFor (mSq (mVar 0)) (.nm 2) (mSet 1 (mOp fAdd (mOp fMul (mK (.int 256)) (mVar 1)) (mVar 2)))) (mRet (mOp
    fMod (mCall fInt (mCons (mVar 1) (mNil))) (mK (.int 4294967291))))))
theorem w__law_sum {P : Program} {w : World} {K : PySem.W.Frag} {mg : Str → Option Value} {base : Heap} {ad : Nat → Addr} {fd : Nat → FuncData} (T : Tx K mg ad fd) :
    FnD P w K mg base 1 (ad 10) (fd 10) ["_law_octets"] (m__law_sum) :=
  have nd := sc__law_sum.nd
FnD.of T.F__law_sum sc__law_sum fun cdv A outer s H E hr gd tk hp => s_cons (s_set (i := 1) nd (d_int)) (s_cons (s_for hp rfl (i_sq (d_var 0)) (tg_nm (i := 2) nd) (s_one (s_set (i := 1) nd (d_add
    (d_mul (d_int) (d_var 1)) (d_var 2))))) (s_one (s_ret (d_mod (d_intf T.z_int (a_cons (d_var 1) (a_nil))) (d_int)))))
noncomputable def m__law_frame (c__law_sum : List D → AH → Res D) : List D → AH → Res D := mFun 7 (mSeq (mPar2 1 2 (mCons (mCall fLen (mCons (mVar 0) (mNil))) (mCons (mOp fSub (mK (.int 65535)) (mCall
    fLen (mCons (mVar 0) (mNil)))) (mNil)))) (mSeq (mSet 3 (mOp fAdd (mTup (mCons (mOp fDiv (mVar 1) (mK (.int 256))) (mCons (mOp fMod (mCall fInt (mCons (mVar 1) (mNil))) (mK (.int 256))) (mCons (mOp
    fDiv (mVar 2) (mK (.int 256))) (mCons (mOp fMod (mCall fInt (mCons (mVar 2) (mNil))) (mK (.int 256))) (mNil)))))) (mCall fTup (mCons (mVar 0) (mNil))))) (mSeq (mPar2 4 5 (mCons (mCallF 1 c__law_sum
    (mCons (mVar 3) (mNil))) (mCons (mLst (mNil)) (mNil)))) (mSeq (mFor (mR1 (mCons (mK (.int 4)) (mNil))) (.nm 6) (mSeq (mSet 5 (mOp fAdd (mLst (mCons (mOp fMod (mCall fInt (mCons (mVar 4) (mNil)))
    (mK (.int 256))) (mNil))) (mVar 5))) (mSet 4 (mOp fDiv (mVar 4) (mK (.int 256)))))) (mRet (mOp fAdd (mVar 3) (mCall fTup (mCons (mVar 5) (mNil)))))))))
theorem w__law_frame {P : Program} {w : World} {K : PySem.W.Frag} {mg : Str → Option Value} {base : Heap} {ad : Nat → Addr} {fd : Nat → FuncData} (T : Tx K mg ad fd) {c__law_sum : List D → AH → Res D}
    (G__law_sum : FnD P w K mg base 1 (ad 10) (fd 10) ["_law_octets"] c__law_sum) :
    FnD P w K mg base 2 (ad 11) (fd 11) ["_law_body_here"] (m__law_frame c__law_sum) :=
  have nd := sc__law_frame.nd
FnD.of T.F__law_frame sc__law_frame fun cdv A outer s H E hr gd tk hp => s_cons (s_par2 (i := 1) (j := 2) rfl nd rfl rfl (by decide) rfl rfl (a_cons (d_len T.z_len (a_cons (d_var 0) (a_nil))) (a_cons
    (d_sub (d_int) (d_len T.z_len (a_cons (d_var 0) (a_nil)))) (a_nil))) (by rfl)) (s_cons (s_set (i := 3) nd (d_add (d_tup (a_cons (d_div (d_var 1) (d_int)) (a_cons (d_mod (d_intf T.z_int (a_cons
    (d_var 1) (a_nil))) (d_int)) (a_cons (d_div (d_var 2) (d_int)) (a_cons (d_mod (d_intf T.z_int (a_cons (d_var 2) (a_nil))) (d_int)) (a_nil)))))) (d_tuple T.z_tuple (a_cons (d_var 0) (a_nil)))))
    (s_cons (s_par2 (i := 4) (j := 5) rfl nd rfl rfl (by decide) rfl rfl (a_cons (d_call G__law_sum (hr.mono (by decide)) gd tk T.g__law_sum T.F__law_sum.kp T.b__law_sum (a_cons (d_var 3) (a_nil)))
    (a_cons (d_lst (a_nil)) (a_nil))) (by rfl)) (s_cons (s_for hp rfl (i_r1 T.z_range (a_cons (d_int) (a_nil))) (tg_nm (i := 6) nd) (s_cons (s_set (i := 5) nd (d_add (d_lst (a_cons (d_mod (d_intf
    T.z_int (a_cons (d_var 4) (a_nil))) (d_int)) (a_nil))) (d_var 5))) (s_one (s_set (i := 4) nd (d_div (d_var 4) (d_int)))))) (s_one (s_ret (d_add (d_var 3) (d_tuple T.z_tuple (a_cons (d_var 5)
    (a_nil)))))))))
noncomputable def m__law_body (c__law_draw : List D → AH → Res D) (c__law_pick : List D → AH → Res D) : List D → AH → Res D := mFun 4 (mSeq (mSet 2 (mCallF 2 c__law_draw (mCons (mVar 0) (mCons (mOp
    fAdd (mVar 1) (mK (.int 1))) (mNil))))) (mRet (mCall fTup (mCons (mLc false (mR1 (mCons (mVar 2) (mNil))) (.nm 3) (mYes) (mCallF 2 c__law_pick (mCons (mVar 0) (mCons (mLst (mCons (mK (.int 0))
    (mCons (mK (.int 255)) (mCons (mK (.int 1)) (mCons (mCallF 2 c__law_draw (mCons (mVar 0) (mCons (mK (.int 256)) (mNil)))) (mCons (mCallF 2 c__law_draw (mCons (mVar 0) (mCons (mK (.int 256))
    (mNil)))) (mNil))))))) (mNil)))) [3]) (mNil)))))
theorem w__law_body {P : Program} {w : World} {K : PySem.W.Frag} {mg : Str → Option Value} {base : Heap} {ad : Nat → Addr} {fd : Nat → FuncData} (T : Tx K mg ad fd) {c__law_draw : List D → AH → Res D}
    (G__law_draw : FnD P w K mg base 1 (ad 8) (fd 8) ["_law_heap_here", "_law_many"] c__law_draw) {c__law_pick : List D → AH → Res D} (G__law_pick : FnD P w K mg base 2 (ad 9) (fd 9) ["_law_heap_here",
    "_law_some"] c__law_pick) :
    FnD P w K mg base 3 (ad 12) (fd 12) ["_law_heap_here", "_law_most"] (m__law_body c__law_draw c__law_pick) :=
  have nd := sc__law_body.nd
FnD.of T.F__law_body sc__law_body fun cdv A outer s H E hr gd tk hp => s_cons (s_set (i := 2) nd (d_call G__law_draw (hr.mono (by decide)) gd tk T.g__law_draw T.F__law_draw.kp T.b__law_draw (a_cons
    (d_var 0) (a_cons (d_add (d_var 1) (d_int)) (a_nil))))) (s_one (s_ret (d_tuple T.z_tuple (a_cons (d_lc (t := .nm 3) false [("_law_turn", 3)] rfl nd (i_r1 T.z_range (a_cons (d_var 2) (a_nil)))
    (blkOk_by (N := nm__law_body) (sc := defScope x__law_body) (by decide +kernel)) (fun _ _ _ _ _ => tg_nm (i := 3) nd) (fun _ _ _ _ _ => l_nil) (fun _ _ _ _ _ => d_call G__law_pick (hr.mono
    (by decide)) gd takes0 T.g__law_pick T.F__law_pick.kp T.b__law_pick (a_cons (d_var 0) (a_cons (d_lst (a_cons (d_int) (a_cons (d_int) (a_cons (d_int) (a_cons (d_call G__law_draw (hr.mono
    (by decide)) gd takes0 T.g__law_draw T.F__law_draw.kp T.b__law_draw (a_cons (d_var 0) (a_cons (d_int) (a_nil)))) (a_cons (d_call G__law_draw (hr.mono (by decide)) gd takes0 T.g__law_draw
    T.F__law_draw.kp T.b__law_draw (a_cons (d_var 0) (a_cons (d_int) (a_nil)))) (a_nil))))))) (a_nil)))) (sl := [3]) (by decide)) (a_nil)))))
noncomputable def m__law_own (c__law_frame : List D → AH → Res D) : List D → AH → Res D := mFun 6 (mSeq (mPar2 1 2 (mCons (mNew (mNil)) (mCons (mK (.int 0)) (mNil)))) (mSeq (mFor (mR1 (mCons (mOp fAdd
    (mCall fLen (mCons (mVar 0) (mNil))) (mK (.int 1))) (mNil))) (.nm 3) (mSeq (mSet 4 (mSl (mVar 0) (mSome (mVar 2)) (mNone))) (mSeq (mIfS (mTst (mOp (fEq false) (mVar 4) (mTup (mNil)))) (mRet (mTup
    (mCons (mCall fTup (mCons (mVar 1) (mNil))) (mCons (mVar 2) (mCons (mK (.str "whole")) (mNil)))))) (mNext)) (mSeq (mSet 5 (mIf (mTst (mOp fGt (mCall fLen (mCons (mVar 4) (mNil))) (mK (.int 3))))
    (mOp fAdd (mOp fMul (mOp fIx (mVar 4) (mK (.int 0))) (mK (.int 256))) (mOp fIx (mVar 4) (mK (.int 1)))) (mK (.int 0)))) (mSeq (mIfS (mAnd (mTst (mOp fGt (mCall fLen (mCons (mVar 4) (mNil))) (mK
    (.int 3)))) (mTst (mOp (fEq true) (mOp fAdd (mOp fAdd (mVar 5) (mOp fMul (mOp fIx (mVar 4) (mK (.int 2))) (mK (.int 256)))) (mOp fIx (mVar 4) (mK (.int 3)))) (mK (.int 65535))))) (mRet (mTup (mCons
    (mCall fTup (mCons (mVar 1) (mNil))) (mCons (mVar 2) (mCons (mK (.str "broken")) (mNil)))))) (mNext)) (mSeq (mIfS (mTst (mOp fLt (mCall fLen (mCons (mVar 4) (mNil))) (mOp fAdd (mVar 5) (mK (.int
    8))))) (mRet (mTup (mCons (mCall fTup (mCons (mVar 1) (mNil))) (mCons (mVar 2) (mCons (mK (.str "cut")) (mNil)))))) (mNext)) (mSeq (mIfS (mTst (mOp (fEq true) (mCallF 1 c__law_frame (mCons (mSl
    (mVar 4) (mSome (mK (.int 4))) (mSome (mOp fAdd (mK (.int 4)) (mVar 5)))) (mNil))) (mSl (mVar 4) (mNone) (mSome (mOp fAdd (mVar 5) (mK (.int 8))))))) (mRet (mTup (mCons (mCall fTup (mCons (mVar 1)
    (mNil))) (mCons (mVar 2) (mCons (mK (.str "broken")) (mNil)))))) (mNext)) (mSeq (mDrop (mMet fApp (mVar 1) (mCons (mSl (mVar 4) (mSome (mK (.int 4))) (mSome (mOp fAdd (mK (.int 4)) (mVar 5))))
    (mNil)))) (mSet 2 (mOp fAdd (mOp fAdd (mVar 2) (mVar 5)) (mK (.int 8)))))))))))) (mRet (mTup (mCons (mCall fTup (mCons (mVar 1) (mNil))) (mCons (mVar 2) (mCons (mK (.str "cut")) (mNil))))))))
theorem w__law_own {P : Program} {w : World} {K : PySem.W.Frag} {mg : Str → Option Value} {base : Heap} {ad : Nat → Addr} {fd : Nat → FuncData} (T : Tx K mg ad fd) {c__law_frame : List D → AH → Res D}
    (G__law_frame : FnD P w K mg base 2 (ad 11) (fd 11) ["_law_body_here"] c__law_frame) :
    FnD P w K mg base 3 (ad 13) (fd 13) ["_law_octets"] (m__law_own c__law_frame) :=
  have nd := sc__law_own.nd
FnD.of T.F__law_own sc__law_own fun cdv A outer s H E hr gd tk hp => s_cons (s_par2 (i := 1) (j := 2) rfl nd rfl rfl (by decide) rfl rfl (a_cons (d_new (a_nil)) (a_cons (d_int) (a_nil))) (by rfl))
    (s_cons (s_for hp rfl (i_r1 T.z_range (a_cons (d_add (d_len T.z_len (a_cons (d_var 0) (a_nil))) (d_int)) (a_nil))) (tg_nm (i := 3) nd) (s_cons (s_set (i := 4) nd (d_sl (d_var 0) (o_some (d_var 2))
    (o_none))) (s_cons (s_if (t_eq hr.units (d_var 4) (d_tup (a_nil))) (s_one (s_ret (d_tup (a_cons (d_tuple T.z_tuple (a_cons (d_var 1) (a_nil))) (a_cons (d_var 2) (a_cons (d_str) (a_nil)))))))
    (s_nil)) (s_cons (s_set (i := 5) nd (d_if (t_gt (d_len T.z_len (a_cons (d_var 4) (a_nil))) (d_int)) (d_add (d_mul (d_ix (d_var 4) (d_int)) (d_int)) (d_ix (d_var 4) (d_int))) (d_int))) (s_cons (s_if
    (PW.pt (w_and (t_gt (d_len T.z_len (a_cons (d_var 4) (a_nil))) (d_int)) (w_and1 (t_ne hr.units (d_add (d_add (d_var 5) (d_mul (d_ix (d_var 4) (d_int)) (d_int))) (d_ix (d_var 4) (d_int)))
    (d_int))))) (s_one (s_ret (d_tup (a_cons (d_tuple T.z_tuple (a_cons (d_var 1) (a_nil))) (a_cons (d_var 2) (a_cons (d_str) (a_nil))))))) (s_nil)) (s_cons (s_if (t_lt (d_len T.z_len (a_cons (d_var 4)
    (a_nil))) (d_add (d_var 5) (d_int))) (s_one (s_ret (d_tup (a_cons (d_tuple T.z_tuple (a_cons (d_var 1) (a_nil))) (a_cons (d_var 2) (a_cons (d_str) (a_nil))))))) (s_nil)) (s_cons (s_if (t_ne
    hr.units (d_call G__law_frame (hr.mono (by decide)) gd tk T.g__law_frame T.F__law_frame.kp T.b__law_frame (a_cons (d_sl (d_var 4) (o_some (d_int)) (o_some (d_add (d_int) (d_var 5)))) (a_nil)))
    (d_sl (d_var 4) (o_none) (o_some (d_add (d_var 5) (d_int))))) (s_one (s_ret (d_tup (a_cons (d_tuple T.z_tuple (a_cons (d_var 1) (a_nil))) (a_cons (d_var 2) (a_cons (d_str) (a_nil))))))) (s_nil))
    (s_cons (s_expr (d_app (d_var 1) (a_cons (d_sl (d_var 4) (o_some (d_int)) (o_some (d_add (d_int) (d_var 5)))) (a_nil)))) (s_one (s_set (i := 2) nd (d_add (d_add (d_var 2) (d_var 5))
    (d_int)))))))))))) (s_one (s_ret (d_tup (a_cons (d_tuple T.z_tuple (a_cons (d_var 1) (a_nil))) (a_cons (d_var 2) (a_cons (d_str) (a_nil))))))))
noncomputable def m__law_turned : List D → AH → Res D := mFun 3 (mRet (mOp fAdd (mOp fAdd (mSl (mVar 0) (mNone) (mSome (mVar 1))) (mTup (mCons (mOp fMod (mCall fInt (mCons (mOp fAdd (mOp fIx (mVar 0)
    (mVar 1)) (mVar 2)) (mNil))) (mK (.int 256))) (mNil)))) (mSl (mVar 0) (mSome (mOp fAdd (mVar 1) (mK (.int 1)))) (mNone))))
theorem w__law_turned {P : Program} {w : World} {K : PySem.W.Frag} {mg : Str → Option Value} {base : Heap} {ad : Nat → Addr} {fd : Nat → FuncData} (T : Tx K mg ad fd) :
    FnD P w K mg base 1 (ad 14) (fd 14) ["_law_octets", "_law_at", "_law_amount"] (m__law_turned) :=
  have nd := sc__law_turned.nd
FnD.of T.F__law_turned sc__law_turned fun cdv A outer s H E hr gd tk hp => s_one (s_ret (d_add (d_add (d_sl (d_var 0) (o_none) (o_some (d_var 1))) (d_tup (a_cons (d_mod (d_intf T.z_int (a_cons (d_add
    (d_ix (d_var 0) (d_var 1)) (d_var 2)) (a_nil))) (d_int)) (a_nil)))) (d_sl (d_var 0) (o_some (d_add (d_var 1) (d_int))) (o_none))))
noncomputable def m_law (c__law_heap : List D → AH → Res D) (c__law_body : List D → AH → Res D) (c__law_draw : List D → AH → Res D) (c__law_turned : List D → AH → Res D) (c__law_pick : List D → AH →
    Res D) (c_put_frame : List D → AH → Res D) (c_read_frames : List D → AH → Res D) (c__law_own : List D → AH → Res D) (c__law_frame : List D → AH → Res D) : List D → AH → Res D := mFun 15 (mSeq (mSet
    1 (mCallF 2 c__law_heap (mCons (mVar 0) (mCons (mK (.int 7)) (mNil))))) (mSeq (mSet 2 (mLc false (mR1 (mCons (mOp fAdd (mK (.int 1)) (mCallF 2 c__law_draw (mCons (mVar 1) (mCons (mK (.int 3))
    (mNil))))) (mNil))) (.nm 14) (mYes) (mCallF 2 c__law_body (mCons (mVar 1) (mCons (mCallF 2 c__law_pick (mCons (mVar 1) (mCons (mLst (mCons (mK (.int 0)) (mCons (mK (.int 2)) (mCons (mK (.int 6))
    (mNil))))) (mNil)))) (mNil)))) [14])) (mSeq (mPar3 3 4 5 (mCons (mTup (mNil)) (mCons (mLst (mNil)) (mCons (mNew (mCons (mK (.int 0)) (mNil))) (mNil))))) (mSeq (mFor (mEn (mCons (mVar 2) (mNil)))
    (.tp [.nm 6, .nm 7]) (mSeq (mSet 3 (mOp fAdd (mVar 3) (mCallF 1 c_put_frame (mCons (mVar 7) (mNil))))) (mSeq (mSet 4 (mOp fAdd (mVar 4) (mRep (mCons (mVar 6) (mNil)) (mOp fAdd (mCall fLen (mCons
    (mVar 7) (mNil))) (mK (.int 8)))))) (mDrop (mMet fApp (mVar 5) (mCons (mOp fAdd (mOp fAdd (mOp fIx (mVar 5) (mNeg (mK (.int 1)))) (mCall fLen (mCons (mVar 7) (mNil)))) (mK (.int 8))) (mNil)))))))
    (mSeq (mIfS (mTst (mOp (fEq true) (mCall fLen (mCons (mVar 3) (mNil))) (mOp fIx (mVar 5) (mNeg (mK (.int 1)))))) (mRet (mK (.bl false))) (mNext)) (mSeq (mFor (mR1 (mCons (mCall fLen (mCons (mVar 3)
    (mNil))) (mNil))) (.nm 6) (mSeq (mSet 12 (mTup (mCons (mCall fTup (mCons (mSl (mVar 2) (mNone) (mSome (mOp fIx (mVar 4) (mVar 6)))) (mNil))) (mCons (mOp fIx (mVar 5) (mOp fIx (mVar 4) (mVar 6)))
    (mCons (mK (.str "broken")) (mNil)))))) (mSeq (mSet 13 (mCallF 3 c__law_turned (mCons (mVar 3) (mCons (mVar 6) (mCons (mOp fAdd (mK (.int 1)) (mCallF 2 c__law_draw (mCons (mVar 1) (mCons (mK (.int
    255)) (mNil))))) (mNil)))))) (mSeq (mIfS (mTst (mOp (fEq true) (mCall fRepr (mCons (mCallF 1 c_read_frames (mCons (mVar 13) (mNil))) (mNil))) (mCall fRepr (mCons (mVar 12) (mNil))))) (mRet (mK (.bl
    false))) (mNext)) (mIfS (mAnd (mTst (mOp fLt (mOp fAdd (mVar 6) (mK (.int 1))) (mCall fLen (mCons (mVar 3) (mNil))))) (mTst (mOp (fEq true) (mCall fRepr (mCons (mCallF 1 c_read_frames (mCons
    (mCallF 3 c__law_turned (mCons (mVar 13) (mCons (mOp fAdd (mVar 6) (mK (.int 1))) (mCons (mCallF 2 c__law_draw (mCons (mVar 1) (mCons (mK (.int 256)) (mNil)))) (mNil))))) (mNil))) (mNil))) (mCall
    fRepr (mCons (mVar 12) (mNil)))))) (mRet (mK (.bl false))) (mNext)))))) (mSeq (mSet 8 (mCallF 2 c__law_body (mCons (mVar 1) (mCons (mK (.int 14)) (mNil))))) (mSeq (mSet 9 (mCallF 2 c__law_draw
    (mCons (mVar 1) (mCons (mK (.int 4)) (mNil))))) (mSeq (mSet 10 (mLst (mCons (mVar 8) (mCons (mOp fAdd (mTup (mCons (mK (.int 0)) (mCons (mVar 9) (mCons (mK (.int 255)) (mCons (mOp fSub (mK (.int
    255)) (mVar 9)) (mNil)))))) (mVar 8)) (mCons (mOp fAdd (mVar 3) (mVar 8)) (mCons (mOp fAdd (mOp fAdd (mSl (mCallF 1 c__law_frame (mCons (mVar 8) (mNil))) (mNone) (mSome (mNeg (mK (.int 1))))) (mSl
    (mVar 8) (mNone) (mSome (mK (.int 1))))) (mVar 8)) (mNil))))))) (mSeq (mFor (mSq (mVar 10)) (.nm 11) (mIfS (mTst (mOp (fEq true) (mCall fRepr (mCons (mCallF 1 c_read_frames (mCons (mVar 11)
    (mNil))) (mNil))) (mCall fRepr (mCons (mCallF 1 c__law_own (mCons (mVar 11) (mNil))) (mNil))))) (mRet (mK (.bl false))) (mNext))) (mRet (mOp (fEq false) (mCall fRepr (mCons (mCallF 1 c_read_frames
    (mCons (mTup (mNil)) (mNil))) (mNil))) (mK (.str "((), 0, 'whole')"))))))))))))))
theorem w_law {P : Program} {w : World} {K : PySem.W.Frag} {mg : Str → Option Value} {base : Heap} {ad : Nat → Addr} {fd : Nat → FuncData} (T : Tx K mg ad fd) {c__law_heap : List D → AH → Res D}
    (G__law_heap : FnD P w K mg base 1 (ad 7) (fd 7) ["_law_script", "_law_base"] c__law_heap) {c__law_body : List D → AH → Res D} (G__law_body : FnD P w K mg base 3 (ad 12) (fd 12) ["_law_heap_here",
    "_law_most"] c__law_body) {c__law_draw : List D → AH → Res D} (G__law_draw : FnD P w K mg base 1 (ad 8) (fd 8) ["_law_heap_here", "_law_many"] c__law_draw) {c__law_turned : List D → AH → Res D}
    (G__law_turned : FnD P w K mg base 1 (ad 14) (fd 14) ["_law_octets", "_law_at", "_law_amount"] c__law_turned) {c__law_pick : List D → AH → Res D} (G__law_pick : FnD P w K mg base 2 (ad 9) (fd 9)
    ["_law_heap_here", "_law_some"] c__law_pick) {c_put_frame : List D → AH → Res D} (G_put_frame : FnD P w K mg base 3 (ad 3) (fd 3) ["body"] c_put_frame) {c_read_frames : List D → AH → Res D}
    (G_read_frames : FnD P w K mg base 5 (ad 6) (fd 6) ["octets"] c_read_frames) {c__law_own : List D → AH → Res D} (G__law_own : FnD P w K mg base 3 (ad 13) (fd 13) ["_law_octets"] c__law_own)
    {c__law_frame : List D → AH → Res D} (G__law_frame : FnD P w K mg base 2 (ad 11) (fd 11) ["_law_body_here"] c__law_frame) :
    FnD P w K mg base 6 (ad 15) (fd 15) ["_law_script"] (m_law c__law_heap c__law_body c__law_draw c__law_turned c__law_pick c_put_frame c_read_frames c__law_own c__law_frame) :=
  have nd := sc_law.nd
FnD.of T.F_law sc_law fun cdv A outer s H E hr gd tk hp => s_cons (s_set (i := 1) nd (d_call G__law_heap (hr.mono (by decide)) gd tk T.g__law_heap T.F__law_heap.kp T.b__law_heap (a_cons (d_var 0)
    (a_cons (d_int) (a_nil))))) (s_cons (s_setLc (i := 2) (t := .nm 14) false [("_law_turn", 14)] rfl nd rfl rfl (sw_true rfl rfl rfl (by decide +kernel)) (i_r1 T.z_range (a_cons (d_add (d_int) (d_call
    G__law_draw (hr.mono (by decide)) gd tk T.g__law_draw T.F__law_draw.kp T.b__law_draw (a_cons (d_var 1) (a_cons (d_int) (a_nil))))) (a_nil))) (blkOk_by (N := nm_law) (sc := defScope x_law)
    (by decide +kernel)) (fun _ _ _ _ _ => tg_nm (i := 14) nd) (fun _ _ _ _ _ => l_nil) (fun _ _ _ _ _ => d_call G__law_body (hr.mono (by decide)) gd takes0 T.g__law_body T.F__law_body.kp T.b__law_body
    (a_cons (d_var 1) (a_cons (d_call G__law_pick (hr.mono (by decide)) gd takes0 T.g__law_pick T.F__law_pick.kp T.b__law_pick (a_cons (d_var 1) (a_cons (d_lst (a_cons (d_int) (a_cons (d_int) (a_cons
    (d_int) (a_nil))))) (a_nil)))) (a_nil)))) (sl := [14]) (by decide)) (s_cons (s_par3 (i := 3) (j := 4) (l := 5) rfl nd rfl rfl rfl (by decide) (by decide) (by decide) rfl rfl rfl (a_cons (d_tup
    (a_nil)) (a_cons (d_lst (a_nil)) (a_cons (d_new (a_cons (d_int) (a_nil))) (a_nil)))) (by rfl)) (s_cons (s_for hp rfl (i_en T.z_enumerate (a_cons (d_var 2) (a_nil))) (tg_tp (ts := [.nm 6, .nm 7])
    rfl (tgs_cons (tg_nm (i := 6) nd) (tgs_cons (tg_nm (i := 7) nd) (tgs_nil)))) (s_cons (s_set (i := 3) nd (d_add (d_var 3) (d_call G_put_frame (hr.mono (by decide)) gd tk T.g_put_frame
    T.F_put_frame.kp T.b_put_frame (a_cons (d_var 7) (a_nil))))) (s_cons (s_set (i := 4) nd (d_add (d_var 4) (d_rep (a_cons (d_var 6) (a_nil)) (d_add (d_len T.z_len (a_cons (d_var 7) (a_nil)))
    (d_int))))) (s_one (s_expr (d_app (d_var 5) (a_cons (d_add (d_add (d_ix (d_var 5) (d_neg (d_int))) (d_len T.z_len (a_cons (d_var 7) (a_nil)))) (d_int)) (a_nil)))))))) (s_cons (s_if (t_ne hr.units
    (d_len T.z_len (a_cons (d_var 3) (a_nil))) (d_ix (d_var 5) (d_neg (d_int)))) (s_one (s_ret (d_bl))) (s_nil)) (s_cons (s_for hp rfl (i_r1 T.z_range (a_cons (d_len T.z_len (a_cons (d_var 3) (a_nil)))
    (a_nil))) (tg_nm (i := 6) nd) (s_cons (s_set (i := 12) nd (d_tup (a_cons (d_tuple T.z_tuple (a_cons (d_sl (d_var 2) (o_none) (o_some (d_ix (d_var 4) (d_var 6)))) (a_nil))) (a_cons (d_ix (d_var 5)
    (d_ix (d_var 4) (d_var 6))) (a_cons (d_str) (a_nil)))))) (s_cons (s_set (i := 13) nd (d_call G__law_turned (hr.mono (by decide)) gd tk T.g__law_turned T.F__law_turned.kp T.b__law_turned (a_cons
    (d_var 3) (a_cons (d_var 6) (a_cons (d_add (d_int) (d_call G__law_draw (hr.mono (by decide)) gd tk T.g__law_draw T.F__law_draw.kp T.b__law_draw (a_cons (d_var 1) (a_cons (d_int) (a_nil)))))
    (a_nil)))))) (s_cons (s_if (t_ne hr.units (d_repr gd hr.units T.z_repr (a_cons (d_call G_read_frames (hr.mono (by decide)) gd tk T.g_read_frames T.F_read_frames.kp T.b_read_frames (a_cons (d_var
    13) (a_nil))) (a_nil))) (d_repr gd hr.units T.z_repr (a_cons (d_var 12) (a_nil)))) (s_one (s_ret (d_bl))) (s_nil)) (s_one (s_if (PW.pt (w_and (t_lt (d_add (d_var 6) (d_int)) (d_len T.z_len (a_cons
    (d_var 3) (a_nil)))) (w_and1 (t_ne hr.units (d_repr gd hr.units T.z_repr (a_cons (d_call G_read_frames (hr.mono (by decide)) gd tk T.g_read_frames T.F_read_frames.kp T.b_read_frames (a_cons (d_call
    G__law_turned (hr.mono (by decide)) gd tk T.g__law_turned T.F__law_turned.kp T.b__law_turned (a_cons (d_var 13) (a_cons (d_add (d_var 6) (d_int)) (a_cons (d_call G__law_draw (hr.mono (by decide))
    gd tk T.g__law_draw T.F__law_draw.kp T.b__law_draw (a_cons (d_var 1) (a_cons (d_int) (a_nil)))) (a_nil))))) (a_nil))) (a_nil))) (d_repr gd hr.units T.z_repr (a_cons (d_var 12) (a_nil))))))) (s_one
    (s_ret (d_bl))) (s_nil))))))) (s_cons (s_set (i := 8) nd (d_call G__law_body (hr.mono (by decide)) gd tk T.g__law_body T.F__law_body.kp T.b__law_body (a_cons (d_var 1) (a_cons (d_int) (a_nil)))))
    (s_cons (s_set (i := 9) nd (d_call G__law_draw (hr.mono (by decide)) gd tk T.g__law_draw T.F__law_draw.kp T.b__law_draw (a_cons (d_var 1) (a_cons (d_int) (a_nil))))) (s_cons (s_set (i := 10) nd
    (d_lst (a_cons (d_var 8) (a_cons (d_add (d_tup (a_cons (d_int) (a_cons (d_var 9) (a_cons (d_int) (a_cons (d_sub (d_int) (d_var 9)) (a_nil)))))) (d_var 8)) (a_cons (d_add (d_var 3) (d_var 8))
    (a_cons (d_add (d_add (d_sl (d_call G__law_frame (hr.mono (by decide)) gd tk T.g__law_frame T.F__law_frame.kp T.b__law_frame (a_cons (d_var 8) (a_nil))) (o_none) (o_some (d_neg (d_int)))) (d_sl
    (d_var 8) (o_none) (o_some (d_int)))) (d_var 8)) (a_nil))))))) (s_cons (s_for hp rfl (i_sq (d_var 10)) (tg_nm (i := 11) nd) (s_one (s_if (t_ne hr.units (d_repr gd hr.units T.z_repr (a_cons (d_call
    G_read_frames (hr.mono (by decide)) gd tk T.g_read_frames T.F_read_frames.kp T.b_read_frames (a_cons (d_var 11) (a_nil))) (a_nil))) (d_repr gd hr.units T.z_repr (a_cons (d_call G__law_own (hr.mono
    (by decide)) gd tk T.g__law_own T.F__law_own.kp T.b__law_own (a_cons (d_var 11) (a_nil))) (a_nil)))) (s_one (s_ret (d_bl))) (s_nil)))) (s_one (s_ret (d_eq hr.units (d_repr gd hr.units T.z_repr
    (a_cons (d_call G_read_frames (hr.mono (by decide)) gd tk T.g_read_frames T.F_read_frames.kp T.b_read_frames (a_cons (d_tup (a_nil)) (a_nil))) (a_nil))) (d_str)))))))))))))
/-! ### the facts, gathered -/
theorem tx_mk {K : PySem.W.Frag} {h : Heap} {mg : Str → Option Value} (X : K.In h) (G : h.Ns mainGlobals mg) {f0 f1 f2 f3 f4 f5 f6 f7 f8 f9 f10 f11 f12 f13 f14 f15 : Addr}
    {oc0 kV0 dc0 pm0 cd0 ct0 : Value} {od0 an0 : Option Addr} {sl0 : Array (Option Value)}
    (a0 : PySem.W.nsIn K mainGlobals "check_sum" = some (some (.ref f0)))
    (l0 : K.lookup f0 = some ⟨oc0, od0, .func (PySem.W.fnOf "check_sum" "check_sum" (defArgs x_check_sum) (defBody x_check_sum) (defScope x_check_sum) .none kV0 dc0 pm0 an0 cd0 ct0), sl0⟩)
    (c0 : PySem.W.codeIn K cd0 "check_sum" = true)
    (k0 : PySem.W.keepIn K (.ref f0) = true)
    {oc1 kV1 dc1 pm1 cd1 ct1 : Value} {od1 an1 : Option Addr} {sl1 : Array (Option Value)}
    (a1 : PySem.W.nsIn K mainGlobals "pair_of" = some (some (.ref f1)))
    (l1 : K.lookup f1 = some ⟨oc1, od1, .func (PySem.W.fnOf "pair_of" "pair_of" (defArgs x_pair_of) (defBody x_pair_of) (defScope x_pair_of) .none kV1 dc1 pm1 an1 cd1 ct1), sl1⟩)
    (c1 : PySem.W.codeIn K cd1 "pair_of" = true)
    (k1 : PySem.W.keepIn K (.ref f1) = true)
    {oc2 kV2 dc2 pm2 cd2 ct2 : Value} {od2 an2 : Option Addr} {sl2 : Array (Option Value)}
    (a2 : PySem.W.nsIn K mainGlobals "sum_octets" = some (some (.ref f2)))
    (l2 : K.lookup f2 = some ⟨oc2, od2, .func (PySem.W.fnOf "sum_octets" "sum_octets" (defArgs x_sum_octets) (defBody x_sum_octets) (defScope x_sum_octets) .none kV2 dc2 pm2 an2 cd2 ct2), sl2⟩)
    (c2 : PySem.W.codeIn K cd2 "sum_octets" = true)
    (k2 : PySem.W.keepIn K (.ref f2) = true)
    {oc3 kV3 dc3 pm3 cd3 ct3 : Value} {od3 an3 : Option Addr} {sl3 : Array (Option Value)}
    (a3 : PySem.W.nsIn K mainGlobals "put_frame" = some (some (.ref f3)))
    (l3 : K.lookup f3 = some ⟨oc3, od3, .func (PySem.W.fnOf "put_frame" "put_frame" (defArgs x_put_frame) (defBody x_put_frame) (defScope x_put_frame) .none kV3 dc3 pm3 an3 cd3 ct3), sl3⟩)
    (c3 : PySem.W.codeIn K cd3 "put_frame" = true)
    (k3 : PySem.W.keepIn K (.ref f3) = true)
    {oc4 kV4 dc4 pm4 cd4 ct4 : Value} {od4 an4 : Option Addr} {sl4 : Array (Option Value)}
    (a4 : PySem.W.nsIn K mainGlobals "frame_fault" = some (some (.ref f4)))
    (l4 : K.lookup f4 = some ⟨oc4, od4, .func (PySem.W.fnOf "frame_fault" "frame_fault" (defArgs x_frame_fault) (defBody x_frame_fault) (defScope x_frame_fault) .none kV4 dc4 pm4 an4 cd4 ct4), sl4⟩)
    (c4 : PySem.W.codeIn K cd4 "frame_fault" = true)
    (k4 : PySem.W.keepIn K (.ref f4) = true)
    {oc5 kV5 dc5 pm5 cd5 ct5 : Value} {od5 an5 : Option Addr} {sl5 : Array (Option Value)}
    (a5 : PySem.W.nsIn K mainGlobals "get_frame" = some (some (.ref f5)))
    (l5 : K.lookup f5 = some ⟨oc5, od5, .func (PySem.W.fnOf "get_frame" "get_frame" (defArgs x_get_frame) (defBody x_get_frame) (defScope x_get_frame) .none kV5 dc5 pm5 an5 cd5 ct5), sl5⟩)
    (c5 : PySem.W.codeIn K cd5 "get_frame" = true)
    (k5 : PySem.W.keepIn K (.ref f5) = true)
    {oc6 kV6 dc6 pm6 cd6 ct6 : Value} {od6 an6 : Option Addr} {sl6 : Array (Option Value)}
    (a6 : PySem.W.nsIn K mainGlobals "read_frames" = some (some (.ref f6)))
    (l6 : K.lookup f6 = some ⟨oc6, od6, .func (PySem.W.fnOf "read_frames" "read_frames" (defArgs x_read_frames) (defBody x_read_frames) (defScope x_read_frames) .none kV6 dc6 pm6 an6 cd6 ct6), sl6⟩)
    (c6 : PySem.W.codeIn K cd6 "read_frames" = true)
    (k6 : PySem.W.keepIn K (.ref f6) = true)
    {oc7 kV7 dc7 pm7 cd7 ct7 : Value} {od7 an7 : Option Addr} {sl7 : Array (Option Value)}
    (a7 : PySem.W.nsIn K mainGlobals "_law_heap" = some (some (.ref f7)))
    (l7 : K.lookup f7 = some ⟨oc7, od7, .func (PySem.W.fnOf "_law_heap" "_law_heap" (defArgs x__law_heap) (defBody x__law_heap) (defScope x__law_heap) .none kV7 dc7 pm7 an7 cd7 ct7), sl7⟩)
    (c7 : PySem.W.codeIn K cd7 "_law_heap" = true)
    (k7 : PySem.W.keepIn K (.ref f7) = true)
    {oc8 kV8 dc8 pm8 cd8 ct8 : Value} {od8 an8 : Option Addr} {sl8 : Array (Option Value)}
    (a8 : PySem.W.nsIn K mainGlobals "_law_draw" = some (some (.ref f8)))
    (l8 : K.lookup f8 = some ⟨oc8, od8, .func (PySem.W.fnOf "_law_draw" "_law_draw" (defArgs x__law_draw) (defBody x__law_draw) (defScope x__law_draw) .none kV8 dc8 pm8 an8 cd8 ct8), sl8⟩)
    (c8 : PySem.W.codeIn K cd8 "_law_draw" = true)
    (k8 : PySem.W.keepIn K (.ref f8) = true)
    {oc9 kV9 dc9 pm9 cd9 ct9 : Value} {od9 an9 : Option Addr} {sl9 : Array (Option Value)}
    (a9 : PySem.W.nsIn K mainGlobals "_law_pick" = some (some (.ref f9)))
    (l9 : K.lookup f9 = some ⟨oc9, od9, .func (PySem.W.fnOf "_law_pick" "_law_pick" (defArgs x__law_pick) (defBody x__law_pick) (defScope x__law_pick) .none kV9 dc9 pm9 an9 cd9 ct9), sl9⟩)
    (c9 : PySem.W.codeIn K cd9 "_law_pick" = true)
    (k9 : PySem.W.keepIn K (.ref f9) = true)
    {oc10 kV10 dc10 pm10 cd10 ct10 : Value} {od10 an10 : Option Addr} {sl10 : Array (Option Value)}
    (a10 : PySem.W.nsIn K mainGlobals "_law_sum" = some (some (.ref f10)))
    (l10 : K.lookup f10 = some ⟨oc10, od10, .func (PySem.W.fnOf "_law_sum" "_law_sum" (defArgs x__law_sum) (defBody x__law_sum) (defScope x__law_sum) .none kV10 dc10 pm10 an10 cd10 ct10), sl10⟩)
    (c10 : PySem.W.codeIn K cd10 "_law_sum" = true)
    (k10 : PySem.W.keepIn K (.ref f10) = true)
    {oc11 kV11 dc11 pm11 cd11 ct11 : Value} {od11 an11 : Option Addr} {sl11 : Array (Option Value)}
    (a11 : PySem.W.nsIn K mainGlobals "_law_frame" = some (some (.ref f11)))
    (l11 : K.lookup f11 = some ⟨oc11, od11, .func (PySem.W.fnOf "_law_frame" "_law_frame" (defArgs x__law_frame) (defBody x__law_frame) (defScope x__law_frame) .none kV11 dc11 pm11 an11 cd11 ct11), sl11⟩)
    (c11 : PySem.W.codeIn K cd11 "_law_frame" = true)
    (k11 : PySem.W.keepIn K (.ref f11) = true)
    {oc12 kV12 dc12 pm12 cd12 ct12 : Value} {od12 an12 : Option Addr} {sl12 : Array (Option Value)}
    (a12 : PySem.W.nsIn K mainGlobals "_law_body" = some (some (.ref f12)))
    (l12 : K.lookup f12 = some ⟨oc12, od12, .func (PySem.W.fnOf "_law_body" "_law_body" (defArgs x__law_body) (defBody x__law_body) (defScope x__law_body) .none kV12 dc12 pm12 an12 cd12 ct12), sl12⟩)
    (c12 : PySem.W.codeIn K cd12 "_law_body" = true)
    (k12 : PySem.W.keepIn K (.ref f12) = true)
    {oc13 kV13 dc13 pm13 cd13 ct13 : Value} {od13 an13 : Option Addr} {sl13 : Array (Option Value)}
    (a13 : PySem.W.nsIn K mainGlobals "_law_own" = some (some (.ref f13)))
    (l13 : K.lookup f13 = some ⟨oc13, od13, .func (PySem.W.fnOf "_law_own" "_law_own" (defArgs x__law_own) (defBody x__law_own) (defScope x__law_own) .none kV13 dc13 pm13 an13 cd13 ct13), sl13⟩)
    (c13 : PySem.W.codeIn K cd13 "_law_own" = true)
    (k13 : PySem.W.keepIn K (.ref f13) = true)
    {oc14 kV14 dc14 pm14 cd14 ct14 : Value} {od14 an14 : Option Addr} {sl14 : Array (Option Value)}
    (a14 : PySem.W.nsIn K mainGlobals "_law_turned" = some (some (.ref f14)))
    (l14 : K.lookup f14 = some ⟨oc14, od14, .func (PySem.W.fnOf "_law_turned" "_law_turned" (defArgs x__law_turned) (defBody x__law_turned) (defScope x__law_turned) .none kV14 dc14 pm14 an14 cd14 ct14), sl14⟩)
    (c14 : PySem.W.codeIn K cd14 "_law_turned" = true)
    (k14 : PySem.W.keepIn K (.ref f14) = true)
    {oc15 kV15 dc15 pm15 cd15 ct15 : Value} {od15 an15 : Option Addr} {sl15 : Array (Option Value)}
    (a15 : PySem.W.nsIn K mainGlobals "law" = some (some (.ref f15)))
    (l15 : K.lookup f15 = some ⟨oc15, od15, .func (PySem.W.fnOf "law" "law" (defArgs x_law) (defBody x_law) (defScope x_law) .none kV15 dc15 pm15 an15 cd15 ct15), sl15⟩)
    (c15 : PySem.W.codeIn K cd15 "law" = true)
    (k15 : PySem.W.keepIn K (.ref f15) = true)
    (z0 : PySem.W.nsIn K mainGlobals "abs" = some none)
    (z1 : PySem.W.nsIn K mainGlobals "enumerate" = some none)
    (z2 : PySem.W.nsIn K mainGlobals "int" = some none)
    (z3 : PySem.W.nsIn K mainGlobals "len" = some none)
    (z4 : PySem.W.nsIn K mainGlobals "range" = some none)
    (z5 : PySem.W.nsIn K mainGlobals "repr" = some none)
    (z6 : PySem.W.nsIn K mainGlobals "tuple" = some none)
    {t0 : Tok} (u0 : PySem.W.nsIn K mainGlobals "MODULUS" = some (some (.int 4294967291 t0)))
    {t1 : Tok} (u1 : PySem.W.nsIn K mainGlobals "LONGEST_BODY" = some (some (.int 65535 t1)))
    {t2 : Tok} (u2 : PySem.W.nsIn K mainGlobals "HEAD" = some (some (.int 4 t2)))
    {t3 : Tok} (u3 : PySem.W.nsIn K mainGlobals "EXTRA" = some (some (.int 8 t3)))
    : Tx K mg (fun i => [f0, f1, f2, f3, f4, f5, f6, f7, f8, f9, f10, f11, f12, f13, f14, f15].getD i 0) (fun i => [PySem.W.fnOf "check_sum" "check_sum" (defArgs x_check_sum) (defBody x_check_sum) (defScope x_check_sum) .none kV0 dc0 pm0 an0 cd0 ct0,
      PySem.W.fnOf "pair_of" "pair_of" (defArgs x_pair_of) (defBody x_pair_of) (defScope x_pair_of) .none kV1 dc1 pm1 an1 cd1 ct1,
      PySem.W.fnOf "sum_octets" "sum_octets" (defArgs x_sum_octets) (defBody x_sum_octets) (defScope x_sum_octets) .none kV2 dc2 pm2 an2 cd2 ct2,
      PySem.W.fnOf "put_frame" "put_frame" (defArgs x_put_frame) (defBody x_put_frame) (defScope x_put_frame) .none kV3 dc3 pm3 an3 cd3 ct3,
      PySem.W.fnOf "frame_fault" "frame_fault" (defArgs x_frame_fault) (defBody x_frame_fault) (defScope x_frame_fault) .none kV4 dc4 pm4 an4 cd4 ct4,
      PySem.W.fnOf "get_frame" "get_frame" (defArgs x_get_frame) (defBody x_get_frame) (defScope x_get_frame) .none kV5 dc5 pm5 an5 cd5 ct5,
      PySem.W.fnOf "read_frames" "read_frames" (defArgs x_read_frames) (defBody x_read_frames) (defScope x_read_frames) .none kV6 dc6 pm6 an6 cd6 ct6,
      PySem.W.fnOf "_law_heap" "_law_heap" (defArgs x__law_heap) (defBody x__law_heap) (defScope x__law_heap) .none kV7 dc7 pm7 an7 cd7 ct7,
      PySem.W.fnOf "_law_draw" "_law_draw" (defArgs x__law_draw) (defBody x__law_draw) (defScope x__law_draw) .none kV8 dc8 pm8 an8 cd8 ct8,
      PySem.W.fnOf "_law_pick" "_law_pick" (defArgs x__law_pick) (defBody x__law_pick) (defScope x__law_pick) .none kV9 dc9 pm9 an9 cd9 ct9,
      PySem.W.fnOf "_law_sum" "_law_sum" (defArgs x__law_sum) (defBody x__law_sum) (defScope x__law_sum) .none kV10 dc10 pm10 an10 cd10 ct10,
      PySem.W.fnOf "_law_frame" "_law_frame" (defArgs x__law_frame) (defBody x__law_frame) (defScope x__law_frame) .none kV11 dc11 pm11 an11 cd11 ct11,
      PySem.W.fnOf "_law_body" "_law_body" (defArgs x__law_body) (defBody x__law_body) (defScope x__law_body) .none kV12 dc12 pm12 an12 cd12 ct12,
      PySem.W.fnOf "_law_own" "_law_own" (defArgs x__law_own) (defBody x__law_own) (defScope x__law_own) .none kV13 dc13 pm13 an13 cd13 ct13,
      PySem.W.fnOf "_law_turned" "_law_turned" (defArgs x__law_turned) (defBody x__law_turned) (defScope x__law_turned) .none kV14 dc14 pm14 an14 cd14 ct14,
      PySem.W.fnOf "law" "law" (defArgs x_law) (defBody x_law) (defScope x_law) .none kV15 dc15 pm15 an15 cd15 ct15].getD i default) where
  g_check_sum := PySem.W.mg_of X G a0
  F_check_sum := fun_mk (st := x_check_sum) l0 c0 k0
  b_check_sum := (fun_mk (st := x_check_sum) l0 c0 k0).binds (ps := ["octets"]) fun _ _ _ _ _ _ us hl => match us, hl with | [_], _ => rfl
  g_pair_of := PySem.W.mg_of X G a1
  F_pair_of := fun_mk (st := x_pair_of) l1 c1 k1
  b_pair_of := (fun_mk (st := x_pair_of) l1 c1 k1).binds (ps := ["number"]) fun _ _ _ _ _ _ us hl => match us, hl with | [_], _ => rfl
  g_sum_octets := PySem.W.mg_of X G a2
  F_sum_octets := fun_mk (st := x_sum_octets) l2 c2 k2
  b_sum_octets := (fun_mk (st := x_sum_octets) l2 c2 k2).binds (ps := ["octets"]) fun _ _ _ _ _ _ us hl => match us, hl with | [_], _ => rfl
  g_put_frame := PySem.W.mg_of X G a3
  F_put_frame := fun_mk (st := x_put_frame) l3 c3 k3
  b_put_frame := (fun_mk (st := x_put_frame) l3 c3 k3).binds (ps := ["body"]) fun _ _ _ _ _ _ us hl => match us, hl with | [_], _ => rfl
  g_frame_fault := PySem.W.mg_of X G a4
  F_frame_fault := fun_mk (st := x_frame_fault) l4 c4 k4
  b_frame_fault := (fun_mk (st := x_frame_fault) l4 c4 k4).binds (ps := ["octets", "at"]) fun _ _ _ _ _ _ us hl => match us, hl with | [_, _], _ => rfl
  g_get_frame := PySem.W.mg_of X G a5
  F_get_frame := fun_mk (st := x_get_frame) l5 c5 k5
  b_get_frame := (fun_mk (st := x_get_frame) l5 c5 k5).binds (ps := ["octets", "at"]) fun _ _ _ _ _ _ us hl => match us, hl with | [_, _], _ => rfl
  g_read_frames := PySem.W.mg_of X G a6
  F_read_frames := fun_mk (st := x_read_frames) l6 c6 k6
  b_read_frames := (fun_mk (st := x_read_frames) l6 c6 k6).binds (ps := ["octets"]) fun _ _ _ _ _ _ us hl => match us, hl with | [_], _ => rfl
  g__law_heap := PySem.W.mg_of X G a7
  F__law_heap := fun_mk (st := x__law_heap) l7 c7 k7
  b__law_heap := (fun_mk (st := x__law_heap) l7 c7 k7).binds (ps := ["_law_script", "_law_base"]) fun _ _ _ _ _ _ us hl => match us, hl with | [_, _], _ => rfl
  g__law_draw := PySem.W.mg_of X G a8
  F__law_draw := fun_mk (st := x__law_draw) l8 c8 k8
  b__law_draw := (fun_mk (st := x__law_draw) l8 c8 k8).binds (ps := ["_law_heap_here", "_law_many"]) fun _ _ _ _ _ _ us hl => match us, hl with | [_, _], _ => rfl
  g__law_pick := PySem.W.mg_of X G a9
  F__law_pick := fun_mk (st := x__law_pick) l9 c9 k9
  b__law_pick := (fun_mk (st := x__law_pick) l9 c9 k9).binds (ps := ["_law_heap_here", "_law_some"]) fun _ _ _ _ _ _ us hl => match us, hl with | [_, _], _ => rfl
  g__law_sum := PySem.W.mg_of X G a10
  F__law_sum := fun_mk (st := x__law_sum) l10 c10 k10
  b__law_sum := (fun_mk (st := x__law_sum) l10 c10 k10).binds (ps := ["_law_octets"]) fun _ _ _ _ _ _ us hl => match us, hl with | [_], _ => rfl
  g__law_frame := PySem.W.mg_of X G a11
  F__law_frame := fun_mk (st := x__law_frame) l11 c11 k11
  b__law_frame := (fun_mk (st := x__law_frame) l11 c11 k11).binds (ps := ["_law_body_here"]) fun _ _ _ _ _ _ us hl => match us, hl with | [_], _ => rfl
  g__law_body := PySem.W.mg_of X G a12
  F__law_body := fun_mk (st := x__law_body) l12 c12 k12
  b__law_body := (fun_mk (st := x__law_body) l12 c12 k12).binds (ps := ["_law_heap_here", "_law_most"]) fun _ _ _ _ _ _ us hl => match us, hl with | [_, _], _ => rfl
  g__law_own := PySem.W.mg_of X G a13
  F__law_own := fun_mk (st := x__law_own) l13 c13 k13
  b__law_own := (fun_mk (st := x__law_own) l13 c13 k13).binds (ps := ["_law_octets"]) fun _ _ _ _ _ _ us hl => match us, hl with | [_], _ => rfl
  g__law_turned := PySem.W.mg_of X G a14
  F__law_turned := fun_mk (st := x__law_turned) l14 c14 k14
  b__law_turned := (fun_mk (st := x__law_turned) l14 c14 k14).binds (ps := ["_law_octets", "_law_at", "_law_amount"]) fun _ _ _ _ _ _ us hl => match us, hl with | [_, _, _], _ => rfl
  g_law := PySem.W.mg_of X G a15
  F_law := fun_mk (st := x_law) l15 c15 k15
  b_law := (fun_mk (st := x_law) l15 c15 k15).binds (ps := ["_law_script"]) fun _ _ _ _ _ _ us hl => match us, hl with | [_], _ => rfl
  z_abs := PySem.W.mg_none_of X G z0
  z_enumerate := PySem.W.mg_none_of X G z1
  z_int := PySem.W.mg_none_of X G z2
  z_len := PySem.W.mg_none_of X G z3
  z_range := PySem.W.mg_none_of X G z4
  z_repr := PySem.W.mg_none_of X G z5
  z_tuple := PySem.W.mg_none_of X G z6
  c_MODULUS := ⟨_, PySem.W.mg_of X G u0⟩
  c_LONGEST_BODY := ⟨_, PySem.W.mg_of X G u1⟩
  c_HEAD := ⟨_, PySem.W.mg_of X G u2⟩
  c_EXTRA := ⟨_, PySem.W.mg_of X G u3⟩
end K07
end
section
set_option maxHeartbeats 1000000
namespace K07
open PySem PySem.Spec PyProof.Rows L2 DM
def putS (c_put_frame : List D → AH → Res D) : MS := (mSeq (mSet 3 (mOp fAdd (mVar 3) (mCallF 1 c_put_frame (mCons (mVar 7) (mNil))))) (mSeq (mSet 4 (mOp fAdd (mVar 4) (mRep (mCons (mVar 6) (mNil)) (mOp fAdd (mCall fLen (mCons
    (mVar 7) (mNil))) (mK (.int 8)))))) (mDrop (mMet fApp (mVar 5) (mCons (mOp fAdd (mOp fAdd (mOp fIx (mVar 5) (mNeg (mK (.int 1)))) (mCall fLen (mCons (mVar 7) (mNil)))) (mK (.int 8))) (mNil))))))
noncomputable def bentS (c__law_turned c__law_draw c_read_frames : List D → AH → Res D) : MS := (mSeq (mSet 12 (mTup (mCons (mCall fTup (mCons (mSl (mVar 2) (mNone) (mSome (mOp fIx (mVar 4) (mVar 6)))) (mNil))) (mCons (mOp fIx (mVar 5) (mOp fIx (mVar 4) (mVar 6)))
    (mCons (mK (.str "broken")) (mNil)))))) (mSeq (mSet 13 (mCallF 3 c__law_turned (mCons (mVar 3) (mCons (mVar 6) (mCons (mOp fAdd (mK (.int 1)) (mCallF 2 c__law_draw (mCons (mVar 1) (mCons (mK (.int
    255)) (mNil))))) (mNil)))))) (mSeq (mIfS (mTst (mOp (fEq true) (mCall fRepr (mCons (mCallF 1 c_read_frames (mCons (mVar 13) (mNil))) (mNil))) (mCall fRepr (mCons (mVar 12) (mNil))))) (mRet (mK (.bl
    false))) (mNext)) (mIfS (mAnd (mTst (mOp fLt (mOp fAdd (mVar 6) (mK (.int 1))) (mCall fLen (mCons (mVar 3) (mNil))))) (mTst (mOp (fEq true) (mCall fRepr (mCons (mCallF 1 c_read_frames (mCons
    (mCallF 3 c__law_turned (mCons (mVar 13) (mCons (mOp fAdd (mVar 6) (mK (.int 1))) (mCons (mCallF 2 c__law_draw (mCons (mVar 1) (mCons (mK (.int 256)) (mNil)))) (mNil))))) (mNil))) (mNil))) (mCall
    fRepr (mCons (mVar 12) (mNil)))))) (mRet (mK (.bl false))) (mNext)))))
noncomputable def mixS (c_read_frames c__law_own : List D → AH → Res D) : MS := (mIfS (mTst (mOp (fEq true) (mCall fRepr (mCons (mCallF 1 c_read_frames (mCons (mVar 11)
    (mNil))) (mNil))) (mCall fRepr (mCons (mCallF 1 c__law_own (mCons (mVar 11) (mNil))) (mNil))))) (mRet (mK (.bl false))) (mNext))
theorem law_eq {c__law_heap c__law_body c__law_draw c__law_turned c__law_pick c_put_frame c_read_frames c__law_own c__law_frame : List D → AH → Res D} : m_law c__law_heap c__law_body c__law_draw c__law_turned c__law_pick c_put_frame c_read_frames c__law_own c__law_frame = mFun 15 (mSeq (mSet
    1 (mCallF 2 c__law_heap (mCons (mVar 0) (mCons (mK (.int 7)) (mNil))))) (mSeq (mSet 2 (mLc false (mR1 (mCons (mOp fAdd (mK (.int 1)) (mCallF 2 c__law_draw (mCons (mVar 1) (mCons (mK (.int 3))
    (mNil))))) (mNil))) (.nm 14) (mYes) (mCallF 2 c__law_body (mCons (mVar 1) (mCons (mCallF 2 c__law_pick (mCons (mVar 1) (mCons (mLst (mCons (mK (.int 0)) (mCons (mK (.int 2)) (mCons (mK (.int 6))
    (mNil))))) (mNil)))) (mNil)))) [14])) (mSeq (mPar3 3 4 5 (mCons (mTup (mNil)) (mCons (mLst (mNil)) (mCons (mNew (mCons (mK (.int 0)) (mNil))) (mNil))))) (mSeq (mFor (mEn (mCons (mVar 2) (mNil)))
    (.tp [.nm 6, .nm 7]) (putS c_put_frame))
    (mSeq (mIfS (mTst (mOp (fEq true) (mCall fLen (mCons (mVar 3) (mNil))) (mOp fIx (mVar 5) (mNeg (mK (.int 1)))))) (mRet (mK (.bl false))) (mNext)) (mSeq (mFor (mR1 (mCons (mCall fLen (mCons (mVar 3)
    (mNil))) (mNil))) (.nm 6) (bentS c__law_turned c__law_draw c_read_frames)) (mSeq (mSet 8 (mCallF 2 c__law_body (mCons (mVar 1) (mCons (mK (.int 14)) (mNil))))) (mSeq (mSet 9 (mCallF 2 c__law_draw
    (mCons (mVar 1) (mCons (mK (.int 4)) (mNil))))) (mSeq (mSet 10 (mLst (mCons (mVar 8) (mCons (mOp fAdd (mTup (mCons (mK (.int 0)) (mCons (mVar 9) (mCons (mK (.int 255)) (mCons (mOp fSub (mK (.int
    255)) (mVar 9)) (mNil)))))) (mVar 8)) (mCons (mOp fAdd (mVar 3) (mVar 8)) (mCons (mOp fAdd (mOp fAdd (mSl (mCallF 1 c__law_frame (mCons (mVar 8) (mNil))) (mNone) (mSome (mNeg (mK (.int 1))))) (mSl
    (mVar 8) (mNone) (mSome (mK (.int 1))))) (mVar 8)) (mNil))))))) (mSeq (mFor (mSq (mVar 10)) (.nm 11) (mixS c_read_frames c__law_own)) (mRet (mOp (fEq false) (mCall fRepr (mCons (mCallF 1 c_read_frames
    (mCons (mTup (mNil)) (mNil))) (mNil))) (mK (.str "((), 0, 'whole')")))))))))))))) := rfl
section
variable {C R G : List D → AH → Res D} {x0 x1 x2 x3 x4 x5 x6 x7 x8 x9 x10 x11 x12 x13 x14 : Option D} {A A1 A2 A3 A4 : AH} {e h : Nat}
theorem put_turn {o o' w w' y b : D} {xs : List D} {i n j : Int} (hp : C [b] A = .ok y A) (ha : fAdd o y A = .ok o' A) (hl : fLen [b] A = .ok (.int n) A) (hn : -(2 ^ 63) ≤ n + 8 ∧ n + 8 < 2 ^ 63 ∧ [D.int j].length * (n + 8).toNat ≤ 16777216) (hw : fAdd w (.lst (List.replicate (n + 8).toNat [D.int j]).flatten) A = .ok w' A)
    (hi : fIx (.ref e) (.int (-1)) A = .ok (.int i) A) (hA : A[e]? = some (.lst xs)) (hx : xs.length < 16777216) :
    putS C [x0, x1, x2, some o, some w, some (.ref e), some (.int j), some b, x8, x9, x10, x11, x12, x13, x14] A = .nx [x0, x1, x2, some o', some w', some (.ref e), some (.int j), some b, x8, x9, x10, x11, x12, x13, x14] (A.set e (.lst (xs ++ [.int (i + n + 8)]))) := by
  unfold putS
  refine (seq_nx (ρ1 := [x0, x1, x2, some o', some w, some (.ref e), some (.int j), some b, x8, x9, x10, x11, x12, x13, x14]) (A1 := A) ?_).trans ?_
  · simp only [ev_var, ev_K, ev_op, ev_neg, ev_tst, ev_and, ev_or, ev_not, ev_andV, ev_orV, ev_notV, ev_if, ev_chn, ev_nil, ev_cons, ev_tup, ev_lst, ev_new, ev_call, ev_callF, ev_callK, ev_met, ev_sl, ev_some, ev_none, ev_rev, ev_yes, ev_sq, ev_next, ev_drop, ev_ret, ev_ifs, ev_set, ev_par2, ev_par3, ev_asg, ev_nm, List.getElem?_cons_zero, List.getElem?_cons_succ, List.set_cons_zero, List.set_cons_succ, bind_ok, lift_ok, List.length_cons, List.length_nil, Nat.reduceAdd, Nat.reduceLeDiff, ↓reduceIte, if_true, if_false, Bool.false_eq_true, hp, ha]
  refine (seq_nx (ρ1 := [x0, x1, x2, some o', some w', some (.ref e), some (.int j), some b, x8, x9, x10, x11, x12, x13, x14]) (A1 := A) ?_).trans ?_
  · have er : mRep (mCons (mVar 6) (mNil)) (mOp fAdd (mCall fLen (mCons (mVar 7) (mNil))) (mK (.int 8))) [x0, x1, x2, some o', some w, some (.ref e), some (.int j), some b, x8, x9, x10, x11, x12, x13, x14] A = .ok (.lst (List.replicate (n + 8).toNat [D.int j]).flatten) A := by
      unfold mRep
      simp only [ev_var, ev_K, ev_op, ev_neg, ev_tst, ev_and, ev_or, ev_not, ev_andV, ev_orV, ev_notV, ev_if, ev_chn, ev_nil, ev_cons, ev_tup, ev_lst, ev_new, ev_call, ev_callF, ev_callK, ev_met, ev_sl, ev_some, ev_none, ev_rev, ev_yes, ev_sq, ev_next, ev_drop, ev_ret, ev_ifs, ev_set, ev_par2, ev_par3, ev_asg, ev_nm, List.getElem?_cons_zero, List.getElem?_cons_succ, List.set_cons_zero, List.set_cons_succ, bind_ok, lift_ok, List.length_cons, List.length_nil, Nat.reduceAdd, Nat.reduceLeDiff, ↓reduceIte, if_true, if_false, Bool.false_eq_true, hl, fAdd]
      exact if_pos hn
    simp only [ev_var, ev_K, ev_op, ev_neg, ev_tst, ev_and, ev_or, ev_not, ev_andV, ev_orV, ev_notV, ev_if, ev_chn, ev_nil, ev_cons, ev_tup, ev_lst, ev_new, ev_call, ev_callF, ev_callK, ev_met, ev_sl, ev_some, ev_none, ev_rev, ev_yes, ev_sq, ev_next, ev_drop, ev_ret, ev_ifs, ev_set, ev_par2, ev_par3, ev_asg, ev_nm, List.getElem?_cons_zero, List.getElem?_cons_succ, List.set_cons_zero, List.set_cons_succ, bind_ok, lift_ok, List.length_cons, List.length_nil, Nat.reduceAdd, Nat.reduceLeDiff, ↓reduceIte, if_true, if_false, Bool.false_eq_true, er, hw]
  · simp only [ev_var, ev_K, ev_op, ev_neg, ev_tst, ev_and, ev_or, ev_not, ev_andV, ev_orV, ev_notV, ev_if, ev_chn, ev_nil, ev_cons, ev_tup, ev_lst, ev_new, ev_call, ev_callF, ev_callK, ev_met, ev_sl, ev_some, ev_none, ev_rev, ev_yes, ev_sq, ev_next, ev_drop, ev_ret, ev_ifs, ev_set, ev_par2, ev_par3, ev_asg, ev_nm, List.getElem?_cons_zero, List.getElem?_cons_succ, List.set_cons_zero, List.set_cons_succ, bind_ok, lift_ok, List.length_cons, List.length_nil, Nat.reduceAdd, Nat.reduceLeDiff, ↓reduceIte, if_true, if_false, Bool.false_eq_true, hi, hl, fAdd, fApp, hA, hx]
theorem bent_turn {B O V V2 U U' W : D} {d d2 j m t n : Int} {z : Str} (h1 : fIx W (.int j) A = .ok (.int m) A) (h2 : fSl B none (some m) A = .ok U A) (h3 : fTup [U] A = .ok U' A) (h4 : fIx (.ref e) (.int m) A = .ok (.int t) A)
    (h5 : C [.ref h, .int 255] A = .ok (.int d) A1) (h6 : G [O, .int j, .int (1 + d)] A1 = .ok V A1) (h7 : R [V] A1 = .ok (.tup [U', .int t, .str "broken"]) A2) (h8 : fRepr [.tup [U', .int t, .str "broken"]] A2 = .ok (.str z) A2) (h9 : fLen [O] A2 = .ok (.int n) A2)
    (h10 : j + 1 < n → C [.ref h, .int 256] A2 = .ok (.int d2) A3 ∧ G [V, .int (j + 1), .int d2] A3 = .ok V2 A3 ∧ R [V2] A3 = .ok (.tup [U', .int t, .str "broken"]) A4 ∧ fRepr [.tup [U', .int t, .str "broken"]] A4 = .ok (.str z) A4) :
    bentS G C R [x0, some (.ref h), some B, some O, some W, some (.ref e), some (.int j), x7, x8, x9, x10, x11, x12, x13, x14] A = .nx [x0, some (.ref h), some B, some O, some W, some (.ref e), some (.int j), x7, x8, x9, x10, x11, some (.tup [U', .int t, .str "broken"]), some V, x14] (if j + 1 < n then A4 else A2) := by
  unfold bentS
  refine (seq_nx (ρ1 := [x0, some (.ref h), some B, some O, some W, some (.ref e), some (.int j), x7, x8, x9, x10, x11, some (.tup [U', .int t, .str "broken"]), x13, x14]) (A1 := A) ?_).trans ?_
  · simp only [ev_var, ev_K, ev_op, ev_neg, ev_tst, ev_and, ev_or, ev_not, ev_andV, ev_orV, ev_notV, ev_if, ev_chn, ev_nil, ev_cons, ev_tup, ev_lst, ev_new, ev_call, ev_callF, ev_callK, ev_met, ev_sl, ev_some, ev_none, ev_rev, ev_yes, ev_sq, ev_next, ev_drop, ev_ret, ev_ifs, ev_set, ev_par2, ev_par3, ev_asg, ev_nm, List.getElem?_cons_zero, List.getElem?_cons_succ, List.set_cons_zero, List.set_cons_succ, bind_ok, lift_ok, List.length_cons, List.length_nil, Nat.reduceAdd, Nat.reduceLeDiff, ↓reduceIte, if_true, if_false, Bool.false_eq_true, h1, h2, h3, h4]
  generalize hy : D.tup [U', .int t, .str "broken"] = y at *
  refine (seq_nx (ρ1 := [x0, some (.ref h), some B, some O, some W, some (.ref e), some (.int j), x7, x8, x9, x10, x11, some y, some V, x14]) (A1 := A1) ?_).trans ?_
  · simp only [ev_var, ev_K, ev_op, ev_neg, ev_tst, ev_and, ev_or, ev_not, ev_andV, ev_orV, ev_notV, ev_if, ev_chn, ev_nil, ev_cons, ev_tup, ev_lst, ev_new, ev_call, ev_callF, ev_callK, ev_met, ev_sl, ev_some, ev_none, ev_rev, ev_yes, ev_sq, ev_next, ev_drop, ev_ret, ev_ifs, ev_set, ev_par2, ev_par3, ev_asg, ev_nm, List.getElem?_cons_zero, List.getElem?_cons_succ, List.set_cons_zero, List.set_cons_succ, bind_ok, lift_ok, List.length_cons, List.length_nil, Nat.reduceAdd, Nat.reduceLeDiff, ↓reduceIte, if_true, if_false, Bool.false_eq_true, h5, fAdd, h6]
  refine (seq_nx (ρ1 := [x0, some (.ref h), some B, some O, some W, some (.ref e), some (.int j), x7, x8, x9, x10, x11, some y, some V, x14]) (A1 := A2) ?_).trans ?_
  · simp only [ev_var, ev_K, ev_op, ev_neg, ev_tst, ev_and, ev_or, ev_not, ev_andV, ev_orV, ev_notV, ev_if, ev_chn, ev_nil, ev_cons, ev_tup, ev_lst, ev_new, ev_call, ev_callF, ev_callK, ev_met, ev_sl, ev_some, ev_none, ev_rev, ev_yes, ev_sq, ev_next, ev_drop, ev_ret, ev_ifs, ev_set, ev_par2, ev_par3, ev_asg, ev_nm, List.getElem?_cons_zero, List.getElem?_cons_succ, List.set_cons_zero, List.set_cons_succ, bind_ok, lift_ok, List.length_cons, List.length_nil, Nat.reduceAdd, Nat.reduceLeDiff, ↓reduceIte, if_true, if_false, Bool.false_eq_true, h7, h8, eq_strs, Bool.not_true]
  by_cases hj : j + 1 < n
  · obtain ⟨g1, g2, g3, g4⟩ := h10 hj
    rw [if_pos hj]
    simp only [ev_var, ev_K, ev_op, ev_neg, ev_tst, ev_and, ev_or, ev_not, ev_andV, ev_orV, ev_notV, ev_if, ev_chn, ev_nil, ev_cons, ev_tup, ev_lst, ev_new, ev_call, ev_callF, ev_callK, ev_met, ev_sl, ev_some, ev_none, ev_rev, ev_yes, ev_sq, ev_next, ev_drop, ev_ret, ev_ifs, ev_set, ev_par2, ev_par3, ev_asg, ev_nm, List.getElem?_cons_zero, List.getElem?_cons_succ, List.set_cons_zero, List.set_cons_succ, bind_ok, lift_ok, List.length_cons, List.length_nil, Nat.reduceAdd, Nat.reduceLeDiff, ↓reduceIte, if_true, if_false, Bool.false_eq_true, fAdd, h9, fLt, fI0, decide_eq_true hj, g1, g2, g3, g4, eq_strs, Bool.not_true]
  · rw [if_neg hj]
    simp only [ev_var, ev_K, ev_op, ev_neg, ev_tst, ev_and, ev_or, ev_not, ev_andV, ev_orV, ev_notV, ev_if, ev_chn, ev_nil, ev_cons, ev_tup, ev_lst, ev_new, ev_call, ev_callF, ev_callK, ev_met, ev_sl, ev_some, ev_none, ev_rev, ev_yes, ev_sq, ev_next, ev_drop, ev_ret, ev_ifs, ev_set, ev_par2, ev_par3, ev_asg, ev_nm, List.getElem?_cons_zero, List.getElem?_cons_succ, List.set_cons_zero, List.set_cons_succ, bind_ok, lift_ok, List.length_cons, List.length_nil, Nat.reduceAdd, Nat.reduceLeDiff, ↓reduceIte, if_true, if_false, Bool.false_eq_true, fAdd, h9, fLt, fI0, decide_eq_false hj]
theorem mix_turn {S Y : D} {z : Str} (h1 : R [S] A = .ok Y A1) (h2 : fRepr [Y] A1 = .ok (.str z) A1) (h3 : G [S] A1 = .ok Y A2) (h4 : fRepr [Y] A2 = .ok (.str z) A2) :
    mixS R G [x0, x1, x2, x3, x4, x5, x6, x7, x8, x9, x10, some S, x12, x13, x14] A = .nx [x0, x1, x2, x3, x4, x5, x6, x7, x8, x9, x10, some S, x12, x13, x14] A2 := by
  unfold mixS
  simp only [ev_var, ev_K, ev_op, ev_neg, ev_tst, ev_and, ev_or, ev_not, ev_andV, ev_orV, ev_notV, ev_if, ev_chn, ev_nil, ev_cons, ev_tup, ev_lst, ev_new, ev_call, ev_callF, ev_callK, ev_met, ev_sl, ev_some, ev_none, ev_rev, ev_yes, ev_sq, ev_next, ev_drop, ev_ret, ev_ifs, ev_set, ev_par2, ev_par3, ev_asg, ev_nm, List.getElem?_cons_zero, List.getElem?_cons_succ, List.set_cons_zero, List.set_cons_succ, bind_ok, lift_ok, List.length_cons, List.length_nil, Nat.reduceAdd, Nat.reduceLeDiff, ↓reduceIte, if_true, if_false, Bool.false_eq_true, h1, h2, h3, h4, eq_strs, Bool.not_true]
end
end K07
end
section
set_option maxHeartbeats 1000000
namespace K07
open PySem PySem.Spec PyProof.Rows L2 DM
def owL : Nat → List (List Nat) → List Nat
  | _, [] => []
  | i, b :: bs => List.replicate (b.length + 8) i ++ owL (i + 1) bs
theorem owL_append : ∀ (a : List (List Nat)) (i : Nat) (c : List (List Nat)), owL i (a ++ c) = owL i a ++ owL (i + a.length) c
  | [], i, c => by simp [owL]
  | b :: a, i, c => by
    rw [List.cons_append, owL, owL, owL_append a, List.append_assoc, List.length_cons, show i + 1 + a.length = i + (a.length + 1) by omega]
theorem owL_length : ∀ (bs : List (List Nat)) (i : Nat), (owL i bs).length = tot bs
  | [], _ => rfl
  | b :: bs, i => by
    rw [owL, List.length_append, List.length_replicate, owL_length bs]
    simp [tot]
theorem owL_at : ∀ (bs : List (List Nat)) (i c : Nat), c < tot bs → ∃ k b, (owL i bs)[c]? = some (i + k) ∧ bs[k]? = some b ∧ tot (bs.take k) ≤ c ∧ c < tot (bs.take k) + (b.length + 8)
  | [], _, c, h => by simp [tot] at h
  | b :: bs, i, c, h => by
    have e1 : tot (b :: bs) = b.length + 8 + tot bs := by simp [tot]
    rcases Nat.lt_or_ge c (b.length + 8) with g | g
    · refine ⟨0, b, ?_, rfl, Nat.zero_le _, by simpa [tot] using g⟩
      rw [owL, List.getElem?_append_left (by rw [List.length_replicate]; exact g), List.getElem?_replicate, if_pos g]
      rfl
    · obtain ⟨k, b', h1, h2, h3, h4⟩ := owL_at bs (i + 1) (c - (b.length + 8)) (by omega)
      have e2 : tot ((b :: bs).take (k + 1)) = b.length + 8 + tot (bs.take k) := by simp [tot]
      refine ⟨k + 1, b', ?_, h2, by omega, by omega⟩
      rw [owL, List.getElem?_append_right (by rw [List.length_replicate]; exact g), List.length_replicate, h1, show i + 1 + k = i + (k + 1) by omega]
noncomputable abbrev ownX := ownM lfrX
section
variable {x0 x1 x2 x8 x9 x10 x11 x12 x13 x14 : Option D} {e h q : Nat} {bs : List (List Nat)}
theorem rep_flat (n k : Nat) : (List.replicate n [D.int (k : Int)]).flatten = dI (List.replicate n k) := by
  induction n with
  | zero => rfl
  | succ n ih => rw [List.replicate_succ, List.flatten_cons, ih, List.replicate_succ]; rfl
theorem put_go (hs : Sm bs) : ∀ (rest : List (List Nat)) (k : Nat) (x6 x7 : Option D) (A : AH), bs.drop k = rest → k ≤ bs.length → A[e]? = some (.lst ((eN bs k).map D.int)) →
    ∃ y6 y7 A', forGo (.en (.lst (tups bs))) (enumD 0 (tups bs)) (.tp [.nm 6, .nm 7]) (putS putX) (enumD k (tups rest)) [x0, x1, x2, some (.tup (dI ((bs.take k).map pf).flatten)), some (.lst (dI (owL 0 (bs.take k)))), some (.ref e), x6, x7, x8, x9, x10, x11, x12, x13, x14] A
      = .nx [x0, x1, x2, some (.tup (dI (bs.map pf).flatten)), some (.lst (dI (owL 0 bs))), some (.ref e), y6, y7, x8, x9, x10, x11, x12, x13, x14] A' ∧ A'[e]? = some (.lst ((eN bs bs.length).map D.int)) ∧ A'.length = A.length ∧ ∀ n, n ≠ e → A'[n]? = A[n]?
  | [], k, x6, x7, A, hr, hk, hA => by
    have : bs.length ≤ k := List.drop_eq_nil_iff.mp hr
    have : k = bs.length := by omega
    subst this
    rw [List.take_length]
    exact ⟨x6, x7, A, for_nil rfl, hA, rfl, fun _ _ => rfl⟩
  | b :: rest, k, x6, x7, A, hr, hk, hA => by
    have hlt : k < bs.length := by
      rcases Nat.lt_or_ge k bs.length with g | g
      · exact g
      · rw [List.drop_eq_nil_of_le g] at hr; cases hr
    rw [List.drop_eq_getElem_cons hlt] at hr
    have hb : bs[k] = b := (List.cons.inj hr).1
    have hr2 : bs.drop (k + 1) = rest := (List.cons.inj hr).2
    have hg : bs[k]? = some b := by rw [List.getElem?_eq_getElem hlt, hb]
    have hm : b ∈ bs := hb ▸ List.getElem_mem hlt
    have hb9 := hs.l b hm
    obtain ⟨L, hL⟩ := eN_snoc bs k
    have hi : fIx (.ref e) (.int (-1)) A = .ok (.int (tot (bs.take k) : Nat)) A := ix_ref hA (by rw [hL, List.map_append]; exact atI_last _ _)
    have hfl : ((bs.take (k + 1)).map pf).flatten = ((bs.take k).map pf).flatten ++ pf b := by
      rw [take_snoc hg, List.map_append, List.flatten_append]
      simp
    have how : owL 0 (bs.take (k + 1)) = owL 0 (bs.take k) ++ List.replicate (b.length + 8) k := by
      rw [take_snoc hg, owL_append, List.length_take, show 0 + min k bs.length = k by omega]
      simp [owL]
    have t1 := (hs.take k).tot
    have hadd : fAdd (.tup (dI ((bs.take k).map pf).flatten)) (.tup (dI (pf b))) A = .ok (.tup (dI ((bs.take (k + 1)).map pf).flatten)) A := by
      rw [add_tup (by rw [dI_length, dI_length, flat_len, pf_length]; omega), hfl, dI_append]
    have hn8 : (((b.length : Nat) : Int) + 8).toNat = b.length + 8 := by omega
    have hrep : (List.replicate (((b.length : Nat) : Int) + 8).toNat [D.int (k : Nat)]).flatten = dI (List.replicate (b.length + 8) k) := by rw [hn8, rep_flat]
    have haddW : fAdd (.lst (dI (owL 0 (bs.take k)))) (.lst (List.replicate (((b.length : Nat) : Int) + 8).toNat [D.int (k : Nat)]).flatten) A = .ok (.lst (dI (owL 0 (bs.take (k + 1))))) A := by
      rw [hrep, how, dI_append]
      exact if_pos (by rw [dI_length, dI_length, owL_length, List.length_replicate]; omega)
    have st := put_turn (x0 := x0) (x1 := x1) (x2 := x2) (x8 := x8) (x9 := x9) (x10 := x10) (x11 := x11) (x12 := x12) (x13 := x13) (x14 := x14) (C := putX) (b := .tup (dI b)) (j := (k : Int)) (put_ok (A := A) (hs.fits b hm)) hadd len_tup (by rw [hn8]; simp only [List.length_cons, List.length_nil]; omega) haddW hi hA (by rw [List.length_map, eN_length]; have := hs.n; omega)
    have hE : ((eN bs k).map D.int ++ [D.int (((tot (bs.take k) : Nat) : Int) + (b.length : Nat) + 8)]) = (eN bs (k + 1)).map D.int := by
      rw [eN_succ, List.map_append, tot_succ hg, show ((tot (bs.take k) + (b.length + 8) : Nat) : Int) = ((tot (bs.take k) : Nat) : Int) + (b.length : Nat) + 8 by omega]
      rfl
    rw [hE] at st
    obtain ⟨y6, y7, A', w, hA', hl', hk'⟩ := put_go hs rest (k + 1) (some (.int (k : Int))) (some (.tup (dI b))) (A.set e (.lst ((eN bs (k + 1)).map D.int))) hr2 (by omega) (set_get hA)
    exact ⟨y6, y7, A', (for_nx rfl bind_pair st).trans w, hA', by rw [hl', List.length_set], fun n hn => by rw [hk' n hn, List.getElem?_set_ne (Ne.symm hn)]⟩
theorem bent_go (hs : Sm bs) (he : e ≠ h) (hq : e ≠ q) {all : List D} (hall : ∀ A, itemsOf A (.rng 0 ((bs.map pf).flatten.length : Nat)) = some all) : ∀ (rest : List Nat) (x6 x7 x12 x13 : Option D) (A : AH), (∀ c ∈ rest, c < tot bs) → HS h q A → A[e]? = some (.lst ((eN bs bs.length).map D.int)) →
    ∃ y6 y12 y13 A', forGo (.rng 0 ((bs.map pf).flatten.length : Nat)) all (.nm 6) (bentS turnM drawM readX) (rest.map fun i : Nat => D.int (i : Int)) [x0, some (.ref h), some (.lst (tups bs)), some (.tup (dI (bs.map pf).flatten)), some (.lst (dI (owL 0 bs))), some (.ref e), x6, x7, x8, x9, x10, x11, x12, x13, x14] A
      = .nx [x0, some (.ref h), some (.lst (tups bs)), some (.tup (dI (bs.map pf).flatten)), some (.lst (dI (owL 0 bs))), some (.ref e), y6, x7, x8, x9, x10, x11, y12, y13, x14] A' ∧ HS h q A'
  | [], x6, x7, x12, x13, A, _, hh, hA => ⟨x6, x12, x13, A, for_nil (hall A), hh⟩
  | c :: rest, x6, x7, x12, x13, A, hc, hh, hA => by
    have hct : c < tot bs := hc c List.mem_cons_self
    obtain ⟨m, b, w1, w2, w3, w4⟩ := owL_at bs 0 c hct
    rw [Nat.zero_add] at w1
    have hlm := (List.getElem?_eq_some_iff.mp w2).1
    have hlen := flat_len bs
    have htot := hs.tot
    have hcl : c < ((bs.map pf).flatten).length := by omega
    obtain ⟨u, hu⟩ : ∃ u, ((bs.map pf).flatten)[c]? = some u := ⟨_, List.getElem?_eq_getElem hcl⟩
    have hub : u < 256 := hs.oct u (List.mem_of_getElem? hu)
    obtain ⟨v, A1, e5, v0, v1, d1⟩ := draw_ok (k := 255) hh (by decide) (by decide)
    obtain ⟨v, rfl⟩ : ∃ n : Nat, v = n := ⟨v.toNat, by omega⟩
    have hA1 : A1[e]? = some (.lst ((eN bs bs.length).map D.int)) := by rw [d1.2.2 e he hq]; exact hA
    have s1 : fIx (.lst (dI (owL 0 bs))) (.int (c : Nat)) A = .ok (.int (m : Nat)) A := ix_lst (atI_nat (by unfold dI; rw [List.getElem?_map, w1]; rfl))
    have s2 : fSl (.lst (tups bs)) none (some (m : Int)) A = .ok (.lst (tups (bs.take m))) A := by
      simp only [fSl, seqOf, cut_take]
      simp only [tups, List.map_take]
    have s4 : fIx (.ref e) (.int (m : Nat)) A = .ok (.int (tot (bs.take m) : Nat)) A := ix_ref hA (atI_nat (by rw [List.getElem?_map, eN_at (by omega)]; rfl))
    have s6 := turned_ok (A := A1) (v := 1 + v) hu (by omega)
    rw [show ((1 + v : Nat) : Int) = 1 + (v : Int) by omega] at s6
    have hne : (u + (1 + v)) % 256 ≠ u := by omega
    have hu' : (u + (1 + v)) % 256 < 256 := Nat.mod_lt _ (by omega)
    have s7 := bent_read (A := A1) (T := ((bs.map pf).flatten).drop (c + 1)) hs w2 w3 w4 hu hu' hne (by rw [List.length_drop]; omega) (by rw [List.drop_drop]) fun x hx => hs.oct x (List.mem_of_mem_drop hx)
    have tm := (hs.take m).tot
    obtain ⟨p, hp, fp⟩ := rd_few (t := tot (bs.take m)) (s := "broken") (hs.take m) (by omega) (few_word (by decide +kernel) (by decide +kernel) (by decide +kernel))
    have hh2 : HS h q (A1 ++ [.lst (tups (bs.take m))]) := d1.2.1.app
    have hA2 : (A1 ++ [AO.lst (tups (bs.take m))])[e]? = some (.lst ((eN bs bs.length).map D.int)) := at_app hA1
    obtain ⟨v2, A3, e9, v20, v21, d3⟩ := draw_ok (k := 256) hh2 (by decide) (by decide)
    obtain ⟨v2, rfl⟩ : ∃ n : Nat, v2 = n := ⟨v2.toNat, by omega⟩
    have hA3 : A3[e]? = some (.lst ((eN bs bs.length).map D.int)) := by rw [d3.2.2 e he hq]; exact hA2
    have hbl : (turn1 ((bs.map pf).flatten) c ((u + (1 + v)) % 256)).length = tot bs := by rw [turn_length hcl]; exact hlen
    generalize hV : turn1 ((bs.map pf).flatten) c ((u + (1 + v)) % 256) = V at *
    have fin : ∃ V2 : D, ((c : Int) + 1 < ((bs.map pf).flatten.length : Nat) → drawM [.ref h, .int 256] (A1 ++ [.lst (tups (bs.take m))]) = .ok (.int (v2 : Nat)) A3 ∧ turnM [.tup (dI V), .int ((c : Int) + 1), .int (v2 : Nat)] A3 = .ok V2 A3 ∧ readX [V2] A3 = .ok (.tup [.tup (tups (bs.take m)), .int ((tot (bs.take m) : Nat) : Int), .str "broken"]) (A3 ++ [.lst (tups (bs.take m))]) ∧ fRepr [.tup [.tup (tups (bs.take m)), .int ((tot (bs.take m) : Nat) : Int), .str "broken"]] (A3 ++ [.lst (tups (bs.take m))]) = .ok (.str p.shown) (A3 ++ [.lst (tups (bs.take m))])) := by
      by_cases hj : c + 1 < tot bs
      · obtain ⟨y, hy⟩ : ∃ y, V[c + 1]? = some y := ⟨_, List.getElem?_eq_getElem (by omega)⟩
        refine ⟨.tup (dI (turn1 V (c + 1) ((y + v2) % 256))), fun _ => ⟨e9, ?_, ?_, repr_few hp fp (by decide) (by decide)⟩⟩
        · have := turned_ok (A := A3) (v := v2) hy (by omega)
          rw [show ((c + 1 : Nat) : Int) = (c : Int) + 1 by omega] at this
          exact this
        · have hVt : V.take (c + 1) = ((bs.map pf).flatten).take c ++ [(u + (1 + v)) % 256] := by
            rw [← hV]
            unfold turn1
            rw [List.take_append, List.take_of_length_le (by rw [List.length_take]; omega), List.length_take, show c + 1 - min c ((bs.map pf).flatten).length = 1 by omega]
            rfl
          have hVd : V.drop (c + 2) = ((bs.map pf).flatten).drop (c + 2) := by
            rw [← hV]
            unfold turn1
            rw [List.drop_append, List.drop_of_length_le (by rw [List.length_take]; omega), List.length_take, show c + 2 - min c ((bs.map pf).flatten).length = 2 by omega, List.nil_append, List.drop_succ_cons, List.drop_drop]
          have e2 : turn1 V (c + 1) ((y + v2) % 256) = ((bs.map pf).flatten).take c ++ (u + (1 + v)) % 256 :: ((y + v2) % 256 :: ((bs.map pf).flatten).drop (c + 2)) := by
            unfold turn1
            rw [hVt, show c + 1 + 1 = c + 2 by omega, hVd]
            simp
          rw [e2]
          exact bent_read (A := A3) (T := (y + v2) % 256 :: ((bs.map pf).flatten).drop (c + 2)) hs w2 w3 w4 hu hu' hne (by rw [List.length_cons, List.length_drop]; omega) rfl fun x hx => by
            rcases List.mem_cons.mp hx with rfl | hx
            · exact Nat.mod_lt _ (by omega)
            · exact hs.oct x (List.mem_of_mem_drop hx)
      · exact ⟨.non, fun hj' => by omega⟩
    obtain ⟨V2, fin⟩ := fin
    have hVV : ((bs.map pf).flatten).take c ++ (u + (1 + v)) % 256 :: ((bs.map pf).flatten).drop (c + 1) = V := hV
    rw [hVV] at s7
    have st := bent_turn (R := readX) (G := turnM) (C := drawM) (x0 := x0) (x7 := x7) (x8 := x8) (x9 := x9) (x10 := x10) (x11 := x11) (x12 := x12) (x13 := x13) (x14 := x14) s1 s2 (rfl : fTup [.lst (tups (bs.take m))] A = .ok (.tup (tups (bs.take m))) A) s4 e5 s6 s7 (repr_few (A := A1 ++ [AO.lst (tups (bs.take m))]) hp fp (by decide) (by decide)) (len_tup (os := (bs.map pf).flatten) (A := A1 ++ [AO.lst (tups (bs.take m))])) fin
    obtain ⟨y6, y12, y13, A', w, hA'⟩ := bent_go hs he hq hall rest (some (.int (c : Int))) x7 _ _ (if (c : Int) + 1 < (((bs.map pf).flatten.length : Nat) : Int) then A3 ++ [.lst (tups (bs.take m))] else A1 ++ [.lst (tups (bs.take m))]) (fun x hx => hc x (List.mem_cons_of_mem _ hx)) (by split; exact d3.2.1.app; exact hh2) (by split; exact at_app hA3; exact hA2)
    exact ⟨y6, y12, y13, A', (for_nx (hall A) rfl st).trans w, hA'⟩
end
end K07
end
section
set_option maxHeartbeats 1000000
namespace K07
open PySem PySem.Spec PyProof.Rows L2 DM
def Bod (d : D) : Prop := ∃ b : List Nat, d = .tup (dI b) ∧ b.length ≤ 9 ∧ ∀ x ∈ b, x < 256
theorem bods : ∀ ys : List D, (∀ y ∈ ys, Bod y) → ∃ bs : List (List Nat), ys = tups bs ∧ (∀ b ∈ bs, b.length ≤ 9) ∧ ∀ b ∈ bs, ∀ x ∈ b, x < 256
  | [], _ => ⟨[], rfl, by simp, by simp⟩
  | y :: ys, h => by
    obtain ⟨b, rfl, h1, h2⟩ := h y List.mem_cons_self
    obtain ⟨bs, rfl, h3, h4⟩ := bods ys fun z hz => h z (List.mem_cons_of_mem _ hz)
    refine ⟨b :: bs, rfl, ?_, ?_⟩
    · intro x hx
      rcases List.mem_cons.mp hx with rfl | hx
      · exact h1
      · exact h3 x hx
    · intro x hx
      rcases List.mem_cons.mp hx with rfl | hx
      · exact h2
      · exact h4 x hx
noncomputable abbrev bodX := bodyM drawM (pickM drawM)
theorem bodies_ok {h q : Nat} {A : AH} {s : D} (hs : HS h q A) : ∃ bs A', Sm bs ∧ Drawn h q A A' ∧ mSet 2 (mLc false (mR1 (mCons (mOp fAdd (mK (.int 1)) (mCallF 2 drawM (mCons (mVar 1) (mCons (mK (.int 3)) (mNil))))) (mNil))) (.nm 14) (mYes) (mCallF 2 bodX (mCons (mVar 1) (mCons (mCallF 2 (pickM drawM) (mCons (mVar 1) (mCons (mLst (mCons (mK (.int 0)) (mCons (mK (.int 2)) (mCons (mK (.int 6))
    (mNil))))) (mNil)))) (mNil)))) [14]) [some s, some (.ref h), none, none, none, none, none, none, none, none, none, none, none, none, none] A
    = .nx [some s, some (.ref h), some (.lst (tups bs)), none, none, none, none, none, none, none, none, none, none, none, none] A' := by
  obtain ⟨v, A1, e1, v0, v1, d1⟩ := draw_ok (k := 3) hs (by decide) (by decide)
  obtain ⟨n, hn1⟩ : ∃ n : Nat, 1 + v = n := ⟨(1 + v).toNat, by omega⟩
  obtain ⟨ys, A2, w, l, ps, d2⟩ := comp_draw (iv := .rng 0 n) (all := (List.range n).map fun i : Nat => D.int (i : Int)) (t := .nm 14) (tt := mYes) (ρ := [some s, some (.ref h), none, none, none, none, none, none, none, none, none, none, none, none, none]) (Pd := Bod) (G := fun _ => True)
    (me := mCallF 2 bodX (mCons (mVar 1) (mCons (mCallF 2 (pickM drawM) (mCons (mVar 1) (mCons (mLst (mCons (mK (.int 0)) (mCons (mK (.int 2)) (mCons (mK (.int 6)) (mNil))))) (mNil)))) (mNil))))
    (fun A => items_rng rfl) (fun _ _ _ _ => trivial) ((List.range n).map fun i : Nat => D.int (i : Int)) [] A1 d1.2.1 trivial (by
      intro x _ A hs _
      obtain ⟨i, hi, B, eb, db⟩ := pick_ok (xs := [D.int 0, .int 2, .int 6]) hs (by simp) (by simp)
      obtain ⟨most, em, hm⟩ : ∃ most : Nat, [D.int 0, .int 2, .int 6][i] = .int most ∧ most ≤ 9 := by
        have hi3 : i < 3 := hi
        rcases i with _ | _ | _ | i
        · exact ⟨0, rfl, by decide⟩
        · exact ⟨2, rfl, by decide⟩
        · exact ⟨6, rfl, by decide⟩
        · omega
      rw [em] at eb
      obtain ⟨b, C, ec, hl, ho, dc⟩ := body_ok (most := most) db.2.1 (by omega)
      refine ⟨_, .tup (dI b), C, rfl, rfl, ?_, ⟨b, rfl, by omega, ho⟩, db.trans dc⟩
      simp only [ev_var, ev_K, ev_op, ev_neg, ev_tst, ev_and, ev_or, ev_not, ev_andV, ev_orV, ev_notV, ev_if, ev_chn, ev_nil, ev_cons, ev_tup, ev_lst, ev_new, ev_call, ev_callF, ev_callK, ev_met, ev_sl, ev_some, ev_none, ev_rev, ev_yes, ev_sq, ev_next, ev_drop, ev_ret, ev_ifs, ev_set, ev_par2, ev_par3, ev_asg, ev_nm, List.getElem?_cons_zero, List.getElem?_cons_succ, List.set_cons_zero, List.set_cons_succ, bind_ok, lift_ok, List.length_cons, List.length_nil, Nat.reduceAdd, Nat.reduceLeDiff, ↓reduceIte, if_true, if_false, Bool.false_eq_true, eb, ec])
  obtain ⟨bs, rfl, hl9, hoc⟩ := bods ys ps
  have hn : bs.length = n := by
    simp [tups] at l
    exact l
  refine ⟨bs, A2, ⟨by omega, hl9, hoc⟩, d1.trans d2, ?_⟩
  have ea : fAdd (.int 1) (.int v) A1 = .ok (.int n) A1 := by rw [← hn1]; rfl
  have h1 : mR1 (mCons (mOp fAdd (mK (.int 1)) (mCallF 2 drawM (mCons (mVar 1) (mCons (mK (.int 3)) (mNil))))) (mNil)) [some s, some (.ref h), none, none, none, none, none, none, none, none, none, none, none, none, none] A = .ok (.rng 0 n) A1 := r1_at (by simp only [ev_var, ev_K, ev_op, ev_neg, ev_tst, ev_and, ev_or, ev_not, ev_andV, ev_orV, ev_notV, ev_if, ev_chn, ev_nil, ev_cons, ev_tup, ev_lst, ev_new, ev_call, ev_callF, ev_callK, ev_met, ev_sl, ev_some, ev_none, ev_rev, ev_yes, ev_sq, ev_next, ev_drop, ev_ret, ev_ifs, ev_set, ev_par2, ev_par3, ev_asg, ev_nm, List.getElem?_cons_zero, List.getElem?_cons_succ, List.set_cons_zero, List.set_cons_succ, bind_ok, lift_ok, List.length_cons, List.length_nil, Nat.reduceAdd, Nat.reduceLeDiff, ↓reduceIte, if_true, if_false, Bool.false_eq_true, e1, ea]) (by omega)
  have z1 : itemsOf A1 (.rng 0 (n : Int)) = some ((List.range n).map fun i : Nat => D.int (i : Int)) := items_rng rfl
  have z : ((List.range n).map fun i : Nat => D.int (i : Int)).length ≤ 16777216 := by simp; omega
  simp only [ev_var, ev_K, ev_op, ev_neg, ev_tst, ev_and, ev_or, ev_not, ev_andV, ev_orV, ev_notV, ev_if, ev_chn, ev_nil, ev_cons, ev_tup, ev_lst, ev_new, ev_call, ev_callF, ev_callK, ev_met, ev_sl, ev_some, ev_none, ev_rev, ev_yes, ev_sq, ev_next, ev_drop, ev_ret, ev_ifs, ev_set, ev_par2, ev_par3, ev_asg, ev_nm, List.getElem?_cons_zero, List.getElem?_cons_succ, List.set_cons_zero, List.set_cons_succ, bind_ok, lift_ok, List.length_cons, List.length_nil, Nat.reduceAdd, Nat.reduceLeDiff, ↓reduceIte, if_true, if_false, Bool.false_eq_true, ev_lc, h1, z1, z, wipeD, w, List.nil_append]
theorem mix_go {x0 x1 x2 x3 x4 x5 x6 x7 x8 x9 x10 x12 x13 x14 : Option D} {all : List D} : ∀ (oss : List (List Nat)) (x11 : Option D) (A : AH), (∀ os ∈ oss, os.length ≤ 200 ∧ ∀ x ∈ os, x < 256) →
    ∃ y11 A', forGo (.sq (.lst all)) all (.nm 11) (mixS readX ownX) (oss.map fun os => D.tup (dI os)) [x0, x1, x2, x3, x4, x5, x6, x7, x8, x9, x10, x11, x12, x13, x14] A = .nx [x0, x1, x2, x3, x4, x5, x6, x7, x8, x9, x10, y11, x12, x13, x14] A'
  | [], x11, A, _ => ⟨x11, A, for_nil rfl⟩
  | os :: oss, x11, A, h => by
    obtain ⟨Y, z, l, h1, h2, h3⟩ := both_read (A := A) (h os List.mem_cons_self).2 (h os List.mem_cons_self).1
    have st := mix_turn (x0 := x0) (x1 := x1) (x2 := x2) (x3 := x3) (x4 := x4) (x5 := x5) (x6 := x6) (x7 := x7) (x8 := x8) (x9 := x9) (x10 := x10) (x12 := x12) (x13 := x13) (x14 := x14) (h1 A) (h3 _) (h2 _) (h3 _)
    obtain ⟨y11, A', w⟩ := mix_go oss (some (.tup (dI os))) _ fun o ho => h o (List.mem_cons_of_mem _ ho)
    exact ⟨y11, A', (for_nx rfl rfl st).trans w⟩
theorem mixed_g {x0 x1 x2 x4 x5 x6 x7 x10 x11 x12 x13 x14 : Option D} {h O Bd P2 P3 F0 F1 F2 F3 F4 : D} {n : Int} {A : AH} {G : List D → AH → Res D} (h1 : fAdd (.tup [.int 0, .int n, .int 255, .int (255 - n)]) Bd A = .ok P2 A) (h2 : fAdd O Bd A = .ok P3 A) (h3 : G [Bd] A = .ok F0 A) (h4 : fSl F0 none (some (-1)) A = .ok F1 A) (h5 : fSl Bd none (some 1) A = .ok F2 A) (h6 : fAdd F1 F2 A = .ok F3 A) (h7 : fAdd F3 Bd A = .ok F4 A) :
    mSet 10 (mLst (mCons (mVar 8) (mCons (mOp fAdd (mTup (mCons (mK (.int 0)) (mCons (mVar 9) (mCons (mK (.int 255)) (mCons (mOp fSub (mK (.int
    255)) (mVar 9)) (mNil)))))) (mVar 8)) (mCons (mOp fAdd (mVar 3) (mVar 8)) (mCons (mOp fAdd (mOp fAdd (mSl (mCallF 1 G (mCons (mVar 8) (mNil))) (mNone) (mSome (mNeg (mK (.int 1))))) (mSl
    (mVar 8) (mNone) (mSome (mK (.int 1))))) (mVar 8)) (mNil)))))) [x0, x1, x2, some O, x4, x5, x6, x7, some Bd, some (.int n), x10, x11, x12, x13, x14] A = .nx [x0, x1, x2, some O, x4, x5, x6, x7, some Bd, some (.int n), some (.lst [Bd, P2, P3, F4]), x11, x12, x13, x14] A := by
  simp only [ev_var, ev_K, ev_op, ev_neg, ev_tst, ev_and, ev_or, ev_not, ev_andV, ev_orV, ev_notV, ev_if, ev_chn, ev_nil, ev_cons, ev_tup, ev_lst, ev_new, ev_call, ev_callF, ev_callK, ev_met, ev_sl, ev_some, ev_none, ev_rev, ev_yes, ev_sq, ev_next, ev_drop, ev_ret, ev_ifs, ev_set, ev_par2, ev_par3, ev_asg, ev_nm, List.getElem?_cons_zero, List.getElem?_cons_succ, List.set_cons_zero, List.set_cons_succ, bind_ok, lift_ok, List.length_cons, List.length_nil, Nat.reduceAdd, Nat.reduceLeDiff, ↓reduceIte, if_true, if_false, Bool.false_eq_true, fSub, fI0, h1, h2, h3, h4, h5, h6, h7]
theorem law_holds (ns : List Int) : ∃ AE, m_law heapM bodX drawM turnM (pickM drawM) putX readX ownX lfrX [.lst (ns.map D.int)] [] = .ok (.bl true) AE := by
  obtain ⟨h, q, A1, e1, hs, -, -, -, -⟩ := heap_ok (A := []) (ns := ns) (b := 7) (by decide) (by decide)
  generalize hd : D.lst (ns.map D.int) = s at *
  obtain ⟨bs, A2, sm, d2, e2⟩ := bodies_ok (s := s) hs
  have hn := sm.n
  have tt := sm.tot
  have hfl := flat_len bs
  have hh2 := d2.2.1
  have hel : h < A2.length ∧ q < A2.length := by
    obtain ⟨_, L, c, g1, g2, _⟩ := hh2
    exact ⟨(List.getElem?_eq_some_iff.mp g1).1, (List.getElem?_eq_some_iff.mp g2).1⟩
  have hA3 : (A2 ++ [AO.lst [D.int 0]])[A2.length]? = some (.lst ((eN bs 0).map D.int)) := by
    rw [List.getElem?_append_right (Nat.le_refl _), Nat.sub_self]
    rfl
  obtain ⟨y6, y7, A4, e4, hA4, hl4, hk4⟩ := put_go (x0 := some s) (x1 := some (.ref h)) (x2 := some (.lst (tups bs))) (x8 := none) (x9 := none) (x10 := none) (x11 := none) (x12 := none) (x13 := none) (x14 := none) sm bs 0 none none (A2 ++ [AO.lst [D.int 0]]) rfl (Nat.zero_le _) hA3
  have hh3 : HS h q (A2 ++ [AO.lst [D.int 0]]) := hh2.app
  have hh4 : HS h q A4 := by
    obtain ⟨g0, L, c, g1, g2, g3⟩ := hh3
    exact ⟨g0, L, c, by rw [hk4 h (by omega)]; exact g1, by rw [hk4 q (by omega)]; exact g2, g3⟩
  have hall : ∀ A, itemsOf A (.rng 0 ((bs.map pf).flatten.length : Nat)) = some ((List.range (tot bs)).map fun i : Nat => D.int (i : Int)) := fun A => items_rng (by rw [flat_len])
  obtain ⟨z6, z12, z13, A5, e5, hh5⟩ := bent_go (x0 := some s) (x8 := none) (x9 := none) (x10 := none) (x11 := none) (x14 := none) (e := A2.length) sm (by omega) (by omega) hall (List.range (tot bs)) y6 y7 none none A4 (fun c hc => List.mem_range.mp hc) hh4 hA4
  obtain ⟨L, hL⟩ := eN_snoc bs bs.length
  rw [List.take_length] at hL
  have l4 : fIx (.ref A2.length) (.int (-1)) A4 = .ok (.int (tot bs : Nat)) A4 := ix_ref hA4 (by rw [hL, List.map_append]; exact atI_last _ _)
  obtain ⟨dr, A6, e6, hdl, hdo, d6⟩ := body_ok (most := 14) hh5 (by decide)
  have e6' : bodX [.ref h, .int 14] A5 = .ok (.tup (dI dr)) A6 := e6
  obtain ⟨sz, A7, e7, sz0, sz1, d7⟩ := draw_ok (k := 4) d6.2.1 (by decide) (by decide)
  obtain ⟨sz, rfl⟩ : ∃ n : Nat, sz = n := ⟨sz.toNat, by omega⟩
  have m1 : fAdd (.tup [.int 0, .int (sz : Nat), .int 255, .int (255 - (sz : Int))]) (.tup (dI dr)) A7 = .ok (.tup (dI ([0, sz, 255, 255 - sz] ++ dr))) A7 := by
    rw [dI_append, show dI [0, sz, 255, 255 - sz] = [.int 0, .int (sz : Nat), .int 255, .int (255 - (sz : Int))] by simp [dI]; omega]
    exact add_tup (by rw [dI_length]; simp; omega)
  have m2 : fAdd (.tup (dI (bs.map pf).flatten)) (.tup (dI dr)) A7 = .ok (.tup (dI ((bs.map pf).flatten ++ dr))) A7 := by
    rw [dI_append]
    exact add_tup (by rw [dI_length, dI_length]; omega)
  have m3 : lfrX [.tup (dI dr)] A7 = .ok (.tup (dI (pf dr))) A7 := lframe_ok (by omega)
  have m4 : fSl (.tup (dI (pf dr))) none (some (-1)) A7 = .ok (.tup (dI ((pf dr).take (dr.length + 7)))) A7 := by
    have hne : dI (pf dr) ≠ [] := by
      intro h0
      have := congrArg List.length h0
      rw [dI_length, pf_length, List.length_nil] at this
      omega
    simp only [fSl]
    rw [cut_less hne, dI_length, pf_length, dI_take]
    rfl
  have m5 : fSl (.tup (dI dr)) none (some 1) A7 = .ok (.tup (dI (dr.take 1))) A7 := sl_upto (k := 1) rfl
  have m6 : fAdd (.tup (dI ((pf dr).take (dr.length + 7)))) (.tup (dI (dr.take 1))) A7 = .ok (.tup (dI ((pf dr).take (dr.length + 7) ++ dr.take 1))) A7 := by
    rw [dI_append]
    exact add_tup (by rw [dI_length, dI_length, List.length_take, List.length_take]; omega)
  have m7 : fAdd (.tup (dI ((pf dr).take (dr.length + 7) ++ dr.take 1))) (.tup (dI dr)) A7 = .ok (.tup (dI ((pf dr).take (dr.length + 7) ++ dr.take 1 ++ dr))) A7 := by
    rw [dI_append _ dr]
    exact add_tup (by rw [dI_length, dI_length, List.length_append, List.length_take, List.length_take]; omega)
  have mg := mixed_g (x0 := some s) (x1 := some (.ref h)) (x2 := some (.lst (tups bs))) (x4 := some (.lst (dI (owL 0 bs)))) (x5 := some (.ref A2.length)) (x6 := z6) (x7 := y7) (x10 := none) (x11 := none) (x12 := z12) (x13 := z13) (x14 := none) (h := .non) m1 m2 m3 m4 m5 m6 m7
  obtain ⟨w11, A8, e8⟩ := mix_go (x0 := some s) (x1 := some (.ref h)) (x2 := some (.lst (tups bs))) (x3 := some (.tup (dI (bs.map pf).flatten))) (x4 := some (.lst (dI (owL 0 bs)))) (x5 := some (.ref A2.length)) (x6 := z6) (x7 := y7) (x8 := some (.tup (dI dr))) (x9 := some (.int (sz : Nat)))
    (x10 := some (.lst [.tup (dI dr), .tup (dI ([0, sz, 255, 255 - sz] ++ dr)), .tup (dI ((bs.map pf).flatten ++ dr)), .tup (dI ((pf dr).take (dr.length + 7) ++ dr.take 1 ++ dr))])) (x12 := z12) (x13 := z13) (x14 := none)
    (all := [.tup (dI dr), .tup (dI ([0, sz, 255, 255 - sz] ++ dr)), .tup (dI ((bs.map pf).flatten ++ dr)), .tup (dI ((pf dr).take (dr.length + 7) ++ dr.take 1 ++ dr))])
    [dr, [0, sz, 255, 255 - sz] ++ dr, (bs.map pf).flatten ++ dr, (pf dr).take (dr.length + 7) ++ dr.take 1 ++ dr] none A7 (by
      intro os hos
      have hpo := pf_oct (b := dr) (by omega) hdo
      simp only [List.mem_cons, List.not_mem_nil, or_false] at hos
      rcases hos with rfl | rfl | rfl | rfl
      · exact ⟨by omega, hdo⟩
      · refine ⟨by simp; omega, fun x hx => ?_⟩
        rcases List.mem_append.mp hx with hx | hx
        · simp only [List.mem_cons, List.not_mem_nil, or_false] at hx
          omega
        · exact hdo x hx
      · refine ⟨by rw [List.length_append]; omega, fun x hx => ?_⟩
        rcases List.mem_append.mp hx with hx | hx
        · exact sm.oct x hx
        · exact hdo x hx
      · refine ⟨by rw [List.length_append, List.length_append, List.length_take, List.length_take]; omega, fun x hx => ?_⟩
        rcases List.mem_append.mp hx with hx | hx
        · rcases List.mem_append.mp hx with hx | hx
          · exact hpo x (List.mem_of_mem_take hx)
          · exact hdo x (List.mem_of_mem_take hx)
        · exact hdo x hx)
  have r0 := read_ok (A := A8) (os := []) (bs := []) (rest := []) (w := .str "cut") (by simp) rfl rfl (by simp) rfl (by simp)
  have r0' : readX [.tup []] A8 = .ok (.tup [.tup [], .int 0, .str "whole"]) (A8 ++ [.lst []]) := r0
  have rp0 : fRepr [.tup [.tup [], .int 0, .str "whole"]] (A8 ++ [.lst []]) = .ok (.str "((), 0, 'whole')") (A8 ++ [.lst []]) := by
    rw [← none_shown]
    exact repr_few (q := .tuple [.tuple [], .int 0, .str "whole"]) (k := 3) (w := 5000) rfl ((few_three (k := 1) (w := 40) ((few_tuple (k := 0) (w := 0) (xs := []) (by simp)).mono (by decide) (by decide)) ((few_int (i := 0) (by decide)).mono (by decide) (by decide)) (few_whole.mono (by decide) (by decide))).mono (by decide) (by decide)) (by decide) (by decide)
  refine ⟨A8 ++ [.lst []], ?_⟩
  rw [law_eq]
  refine fun_rt ?_
  refine (seq_nx (ρ1 := [some s, some (.ref h), none, none, none, none, none, none, none, none, none, none, none, none, none]) (A1 := A1) ?_).trans ?_
  · simp only [ev_var, ev_K, ev_op, ev_neg, ev_tst, ev_and, ev_or, ev_not, ev_andV, ev_orV, ev_notV, ev_if, ev_chn, ev_nil, ev_cons, ev_tup, ev_lst, ev_new, ev_call, ev_callF, ev_callK, ev_met, ev_sl, ev_some, ev_none, ev_rev, ev_yes, ev_sq, ev_next, ev_drop, ev_ret, ev_ifs, ev_set, ev_par2, ev_par3, ev_asg, ev_nm, List.getElem?_cons_zero, List.getElem?_cons_succ, List.set_cons_zero, List.set_cons_succ, bind_ok, lift_ok, List.length_cons, List.length_nil, Nat.reduceAdd, Nat.reduceLeDiff, ↓reduceIte, if_true, if_false, Bool.false_eq_true, List.map_cons, List.map_nil, List.replicate, List.cons_append, List.nil_append, Nat.reduceSub, e1]
  refine (seq_nx e2).trans ?_
  refine (seq_nx (ρ1 := [some s, some (.ref h), some (.lst (tups bs)), some (.tup (dI ((bs.take 0).map pf).flatten)), some (.lst (dI (owL 0 (bs.take 0)))), some (.ref A2.length), none, none, none, none, none, none, none, none, none]) (A1 := A2 ++ [AO.lst [D.int 0]]) ?_).trans ?_
  · rfl
  refine (seq_nx (ρ1 := [some s, some (.ref h), some (.lst (tups bs)), some (.tup (dI (bs.map pf).flatten)), some (.lst (dI (owL 0 bs))), some (.ref A2.length), y6, y7, none, none, none, none, none, none, none]) (A1 := A4) ?_).trans ?_
  · exact e4
  refine (seq_nx (ρ1 := [some s, some (.ref h), some (.lst (tups bs)), some (.tup (dI (bs.map pf).flatten)), some (.lst (dI (owL 0 bs))), some (.ref A2.length), y6, y7, none, none, none, none, none, none, none]) (A1 := A4) ?_).trans ?_
  · have ee : fEq true (.int ((bs.map pf).flatten.length : Nat)) (.int (tot bs : Nat)) A4 = .ok (.bl false) A4 := by
      rw [hfl]
      simp only [eq_ints, decide_true, if_true, Bool.not_true]
    simp only [ev_var, ev_K, ev_op, ev_neg, ev_tst, ev_and, ev_or, ev_not, ev_andV, ev_orV, ev_notV, ev_if, ev_chn, ev_nil, ev_cons, ev_tup, ev_lst, ev_new, ev_call, ev_callF, ev_callK, ev_met, ev_sl, ev_some, ev_none, ev_rev, ev_yes, ev_sq, ev_next, ev_drop, ev_ret, ev_ifs, ev_set, ev_par2, ev_par3, ev_asg, ev_nm, List.getElem?_cons_zero, List.getElem?_cons_succ, List.set_cons_zero, List.set_cons_succ, bind_ok, lift_ok, List.length_cons, List.length_nil, Nat.reduceAdd, Nat.reduceLeDiff, ↓reduceIte, if_true, if_false, Bool.false_eq_true, len_tup, l4, ee]
  refine (seq_nx (ρ1 := [some s, some (.ref h), some (.lst (tups bs)), some (.tup (dI (bs.map pf).flatten)), some (.lst (dI (owL 0 bs))), some (.ref A2.length), z6, y7, none, none, none, none, z12, z13, none]) (A1 := A5) ?_).trans ?_
  · have h1 : mR1 (mCons (mCall fLen (mCons (mVar 3) (mNil))) (mNil)) [some s, some (.ref h), some (.lst (tups bs)), some (.tup (dI (bs.map pf).flatten)), some (.lst (dI (owL 0 bs))), some (.ref A2.length), y6, y7, none, none, none, none, none, none, none] A4 = .ok (.rng 0 ((bs.map pf).flatten.length : Nat)) A4 := by
      refine r1_at ?_ (by omega)
      simp only [ev_var, ev_K, ev_op, ev_neg, ev_tst, ev_and, ev_or, ev_not, ev_andV, ev_orV, ev_notV, ev_if, ev_chn, ev_nil, ev_cons, ev_tup, ev_lst, ev_new, ev_call, ev_callF, ev_callK, ev_met, ev_sl, ev_some, ev_none, ev_rev, ev_yes, ev_sq, ev_next, ev_drop, ev_ret, ev_ifs, ev_set, ev_par2, ev_par3, ev_asg, ev_nm, List.getElem?_cons_zero, List.getElem?_cons_succ, List.set_cons_zero, List.set_cons_succ, bind_ok, lift_ok, List.length_cons, List.length_nil, Nat.reduceAdd, Nat.reduceLeDiff, ↓reduceIte, if_true, if_false, Bool.false_eq_true, len_tup]
    rw [ev_for, h1, lift_ok, hall A4]
    exact e5
  refine (seq_nx (ρ1 := [some s, some (.ref h), some (.lst (tups bs)), some (.tup (dI (bs.map pf).flatten)), some (.lst (dI (owL 0 bs))), some (.ref A2.length), z6, y7, some (.tup (dI dr)), none, none, none, z12, z13, none]) (A1 := A6) ?_).trans ?_
  · simp only [ev_var, ev_K, ev_op, ev_neg, ev_tst, ev_and, ev_or, ev_not, ev_andV, ev_orV, ev_notV, ev_if, ev_chn, ev_nil, ev_cons, ev_tup, ev_lst, ev_new, ev_call, ev_callF, ev_callK, ev_met, ev_sl, ev_some, ev_none, ev_rev, ev_yes, ev_sq, ev_next, ev_drop, ev_ret, ev_ifs, ev_set, ev_par2, ev_par3, ev_asg, ev_nm, List.getElem?_cons_zero, List.getElem?_cons_succ, List.set_cons_zero, List.set_cons_succ, bind_ok, lift_ok, List.length_cons, List.length_nil, Nat.reduceAdd, Nat.reduceLeDiff, ↓reduceIte, if_true, if_false, Bool.false_eq_true, e6']
  refine (seq_nx (ρ1 := [some s, some (.ref h), some (.lst (tups bs)), some (.tup (dI (bs.map pf).flatten)), some (.lst (dI (owL 0 bs))), some (.ref A2.length), z6, y7, some (.tup (dI dr)), some (.int (sz : Nat)), none, none, z12, z13, none]) (A1 := A7) ?_).trans ?_
  · simp only [ev_var, ev_K, ev_op, ev_neg, ev_tst, ev_and, ev_or, ev_not, ev_andV, ev_orV, ev_notV, ev_if, ev_chn, ev_nil, ev_cons, ev_tup, ev_lst, ev_new, ev_call, ev_callF, ev_callK, ev_met, ev_sl, ev_some, ev_none, ev_rev, ev_yes, ev_sq, ev_next, ev_drop, ev_ret, ev_ifs, ev_set, ev_par2, ev_par3, ev_asg, ev_nm, List.getElem?_cons_zero, List.getElem?_cons_succ, List.set_cons_zero, List.set_cons_succ, bind_ok, lift_ok, List.length_cons, List.length_nil, Nat.reduceAdd, Nat.reduceLeDiff, ↓reduceIte, if_true, if_false, Bool.false_eq_true, e7]
  refine (seq_nx mg).trans ?_
  refine (seq_nx (A1 := A8) (by simp only [ev_for, ev_sq, ev_var, List.getElem?_cons_zero, List.getElem?_cons_succ, bind_ok, lift_ok, itemsOf, seqOf]; exact e8)).trans ?_
  simp only [ev_ret, ev_op, ev_call, ev_callF, ev_cons, ev_nil, ev_tup, ev_K, bind_ok, lift_ok, List.length_cons, List.length_nil, Nat.reduceAdd, Nat.zero_le, if_true, r0', rp0, eq_strs, Bool.not_false]
theorem law_true {P : Program} {w : World} {K : PySem.W.Frag} {mg : Str → Option Value} {base : Heap} {ad : Nat → Addr} {fd : Nat → FuncData} (T : Tx K mg ad fd) (ns : List Int) (hl : ns.length ≤ 63) :
    ∃ (mf : List D → AH → Res D) (AE : AH), mf [.lst (ns.map D.int)] [] = .ok (.bl true) AE ∧ FnD P w K mg base 6 (ad 15) (fd 15) ["_law_script"] mf := by
  obtain ⟨AE, e⟩ := law_holds ns
  refine ⟨_, AE, e, ?_⟩
  have g1 := w_check_sum (P := P) (w := w) (base := base) T
  have g2 := w_pair_of (P := P) (w := w) (base := base) T
  have g3 := w_sum_octets T g1 g2
  have g4 := w_put_frame T g3 g2
  have g5 := w_frame_fault T g3
  have g6 := w_get_frame T g5
  have g7 := w_read_frames T g5 g6
  have g8 := w__law_heap (P := P) (w := w) (base := base) T
  have g9 := w__law_draw (P := P) (w := w) (base := base) T
  have g10 := w__law_pick T g9
  have g11 := w__law_body T g9 g10
  have g12 := w__law_sum (P := P) (w := w) (base := base) T
  have g13 := w__law_frame T g12
  have g14 := w__law_own T g13
  have g15 := w__law_turned (P := P) (w := w) (base := base) T
  exact w_law T g8 g11 g9 g15 g10 g4 g7 g14 g13
end K07
end
set_option maxHeartbeats 4000000
namespace K07
open PySem PySem.Spec PyProof.Rows L2 DM
theorem law_end {l : PySem.W.OpenLaw} {w : World} {K : PySem.W.Frag} {h : Heap} {mg : Str → Option Value} {fa : Addr} (X : K.In h) (G : h.Ns mainGlobals mg) (hfa : mg "law" = some (.ref fa)) {f0 f1 f2 f3 f4 f5 f6 f7 f8 f9 f10 f11 f12 f13 f14 f15 : Addr}
    {oc0 kV0 dc0 pm0 cd0 ct0 : Value} {od0 an0 : Option Addr} {sl0 : Array (Option Value)}
    (a0 : PySem.W.nsIn K mainGlobals "check_sum" = some (some (.ref f0)))
    (l0 : K.lookup f0 = some ⟨oc0, od0, .func (PySem.W.fnOf "check_sum" "check_sum" (defArgs x_check_sum) (defBody x_check_sum) (defScope x_check_sum) .none kV0 dc0 pm0 an0 cd0 ct0), sl0⟩)
    (c0 : PySem.W.codeIn K cd0 "check_sum" = true)
    (k0 : PySem.W.keepIn K (.ref f0) = true)
    {oc1 kV1 dc1 pm1 cd1 ct1 : Value} {od1 an1 : Option Addr} {sl1 : Array (Option Value)}
    (a1 : PySem.W.nsIn K mainGlobals "pair_of" = some (some (.ref f1)))
    (l1 : K.lookup f1 = some ⟨oc1, od1, .func (PySem.W.fnOf "pair_of" "pair_of" (defArgs x_pair_of) (defBody x_pair_of) (defScope x_pair_of) .none kV1 dc1 pm1 an1 cd1 ct1), sl1⟩)
    (c1 : PySem.W.codeIn K cd1 "pair_of" = true)
    (k1 : PySem.W.keepIn K (.ref f1) = true)
    {oc2 kV2 dc2 pm2 cd2 ct2 : Value} {od2 an2 : Option Addr} {sl2 : Array (Option Value)}
    (a2 : PySem.W.nsIn K mainGlobals "sum_octets" = some (some (.ref f2)))
    (l2 : K.lookup f2 = some ⟨oc2, od2, .func (PySem.W.fnOf "sum_octets" "sum_octets" (defArgs x_sum_octets) (defBody x_sum_octets) (defScope x_sum_octets) .none kV2 dc2 pm2 an2 cd2 ct2), sl2⟩)
    (c2 : PySem.W.codeIn K cd2 "sum_octets" = true)
    (k2 : PySem.W.keepIn K (.ref f2) = true)
    {oc3 kV3 dc3 pm3 cd3 ct3 : Value} {od3 an3 : Option Addr} {sl3 : Array (Option Value)}
    (a3 : PySem.W.nsIn K mainGlobals "put_frame" = some (some (.ref f3)))
    (l3 : K.lookup f3 = some ⟨oc3, od3, .func (PySem.W.fnOf "put_frame" "put_frame" (defArgs x_put_frame) (defBody x_put_frame) (defScope x_put_frame) .none kV3 dc3 pm3 an3 cd3 ct3), sl3⟩)
    (c3 : PySem.W.codeIn K cd3 "put_frame" = true)
    (k3 : PySem.W.keepIn K (.ref f3) = true)
    {oc4 kV4 dc4 pm4 cd4 ct4 : Value} {od4 an4 : Option Addr} {sl4 : Array (Option Value)}
    (a4 : PySem.W.nsIn K mainGlobals "frame_fault" = some (some (.ref f4)))
    (l4 : K.lookup f4 = some ⟨oc4, od4, .func (PySem.W.fnOf "frame_fault" "frame_fault" (defArgs x_frame_fault) (defBody x_frame_fault) (defScope x_frame_fault) .none kV4 dc4 pm4 an4 cd4 ct4), sl4⟩)
    (c4 : PySem.W.codeIn K cd4 "frame_fault" = true)
    (k4 : PySem.W.keepIn K (.ref f4) = true)
    {oc5 kV5 dc5 pm5 cd5 ct5 : Value} {od5 an5 : Option Addr} {sl5 : Array (Option Value)}
    (a5 : PySem.W.nsIn K mainGlobals "get_frame" = some (some (.ref f5)))
    (l5 : K.lookup f5 = some ⟨oc5, od5, .func (PySem.W.fnOf "get_frame" "get_frame" (defArgs x_get_frame) (defBody x_get_frame) (defScope x_get_frame) .none kV5 dc5 pm5 an5 cd5 ct5), sl5⟩)
    (c5 : PySem.W.codeIn K cd5 "get_frame" = true)
    (k5 : PySem.W.keepIn K (.ref f5) = true)
    {oc6 kV6 dc6 pm6 cd6 ct6 : Value} {od6 an6 : Option Addr} {sl6 : Array (Option Value)}
    (a6 : PySem.W.nsIn K mainGlobals "read_frames" = some (some (.ref f6)))
    (l6 : K.lookup f6 = some ⟨oc6, od6, .func (PySem.W.fnOf "read_frames" "read_frames" (defArgs x_read_frames) (defBody x_read_frames) (defScope x_read_frames) .none kV6 dc6 pm6 an6 cd6 ct6), sl6⟩)
    (c6 : PySem.W.codeIn K cd6 "read_frames" = true)
    (k6 : PySem.W.keepIn K (.ref f6) = true)
    {oc7 kV7 dc7 pm7 cd7 ct7 : Value} {od7 an7 : Option Addr} {sl7 : Array (Option Value)}
    (a7 : PySem.W.nsIn K mainGlobals "_law_heap" = some (some (.ref f7)))
    (l7 : K.lookup f7 = some ⟨oc7, od7, .func (PySem.W.fnOf "_law_heap" "_law_heap" (defArgs x__law_heap) (defBody x__law_heap) (defScope x__law_heap) .none kV7 dc7 pm7 an7 cd7 ct7), sl7⟩)
    (c7 : PySem.W.codeIn K cd7 "_law_heap" = true)
    (k7 : PySem.W.keepIn K (.ref f7) = true)
    {oc8 kV8 dc8 pm8 cd8 ct8 : Value} {od8 an8 : Option Addr} {sl8 : Array (Option Value)}
    (a8 : PySem.W.nsIn K mainGlobals "_law_draw" = some (some (.ref f8)))
    (l8 : K.lookup f8 = some ⟨oc8, od8, .func (PySem.W.fnOf "_law_draw" "_law_draw" (defArgs x__law_draw) (defBody x__law_draw) (defScope x__law_draw) .none kV8 dc8 pm8 an8 cd8 ct8), sl8⟩)
    (c8 : PySem.W.codeIn K cd8 "_law_draw" = true)
    (k8 : PySem.W.keepIn K (.ref f8) = true)
    {oc9 kV9 dc9 pm9 cd9 ct9 : Value} {od9 an9 : Option Addr} {sl9 : Array (Option Value)}
    (a9 : PySem.W.nsIn K mainGlobals "_law_pick" = some (some (.ref f9)))
    (l9 : K.lookup f9 = some ⟨oc9, od9, .func (PySem.W.fnOf "_law_pick" "_law_pick" (defArgs x__law_pick) (defBody x__law_pick) (defScope x__law_pick) .none kV9 dc9 pm9 an9 cd9 ct9), sl9⟩)
    (c9 : PySem.W.codeIn K cd9 "_law_pick" = true)
    (k9 : PySem.W.keepIn K (.ref f9) = true)
    {oc10 kV10 dc10 pm10 cd10 ct10 : Value} {od10 an10 : Option Addr} {sl10 : Array (Option Value)}
    (a10 : PySem.W.nsIn K mainGlobals "_law_sum" = some (some (.ref f10)))
    (l10 : K.lookup f10 = some ⟨oc10, od10, .func (PySem.W.fnOf "_law_sum" "_law_sum" (defArgs x__law_sum) (defBody x__law_sum) (defScope x__law_sum) .none kV10 dc10 pm10 an10 cd10 ct10), sl10⟩)
    (c10 : PySem.W.codeIn K cd10 "_law_sum" = true)
    (k10 : PySem.W.keepIn K (.ref f10) = true)
    {oc11 kV11 dc11 pm11 cd11 ct11 : Value} {od11 an11 : Option Addr} {sl11 : Array (Option Value)}
    (a11 : PySem.W.nsIn K mainGlobals "_law_frame" = some (some (.ref f11)))
    (l11 : K.lookup f11 = some ⟨oc11, od11, .func (PySem.W.fnOf "_law_frame" "_law_frame" (defArgs x__law_frame) (defBody x__law_frame) (defScope x__law_frame) .none kV11 dc11 pm11 an11 cd11 ct11), sl11⟩)
    (c11 : PySem.W.codeIn K cd11 "_law_frame" = true)
    (k11 : PySem.W.keepIn K (.ref f11) = true)
    {oc12 kV12 dc12 pm12 cd12 ct12 : Value} {od12 an12 : Option Addr} {sl12 : Array (Option Value)}
    (a12 : PySem.W.nsIn K mainGlobals "_law_body" = some (some (.ref f12)))
    (l12 : K.lookup f12 = some ⟨oc12, od12, .func (PySem.W.fnOf "_law_body" "_law_body" (defArgs x__law_body) (defBody x__law_body) (defScope x__law_body) .none kV12 dc12 pm12 an12 cd12 ct12), sl12⟩)
    (c12 : PySem.W.codeIn K cd12 "_law_body" = true)
    (k12 : PySem.W.keepIn K (.ref f12) = true)
    {oc13 kV13 dc13 pm13 cd13 ct13 : Value} {od13 an13 : Option Addr} {sl13 : Array (Option Value)}
    (a13 : PySem.W.nsIn K mainGlobals "_law_own" = some (some (.ref f13)))
    (l13 : K.lookup f13 = some ⟨oc13, od13, .func (PySem.W.fnOf "_law_own" "_law_own" (defArgs x__law_own) (defBody x__law_own) (defScope x__law_own) .none kV13 dc13 pm13 an13 cd13 ct13), sl13⟩)
    (c13 : PySem.W.codeIn K cd13 "_law_own" = true)
    (k13 : PySem.W.keepIn K (.ref f13) = true)
    {oc14 kV14 dc14 pm14 cd14 ct14 : Value} {od14 an14 : Option Addr} {sl14 : Array (Option Value)}
    (a14 : PySem.W.nsIn K mainGlobals "_law_turned" = some (some (.ref f14)))
    (l14 : K.lookup f14 = some ⟨oc14, od14, .func (PySem.W.fnOf "_law_turned" "_law_turned" (defArgs x__law_turned) (defBody x__law_turned) (defScope x__law_turned) .none kV14 dc14 pm14 an14 cd14 ct14), sl14⟩)
    (c14 : PySem.W.codeIn K cd14 "_law_turned" = true)
    (k14 : PySem.W.keepIn K (.ref f14) = true)
    {oc15 kV15 dc15 pm15 cd15 ct15 : Value} {od15 an15 : Option Addr} {sl15 : Array (Option Value)}
    (a15 : PySem.W.nsIn K mainGlobals "law" = some (some (.ref f15)))
    (l15 : K.lookup f15 = some ⟨oc15, od15, .func (PySem.W.fnOf "law" "law" (defArgs x_law) (defBody x_law) (defScope x_law) .none kV15 dc15 pm15 an15 cd15 ct15), sl15⟩)
    (c15 : PySem.W.codeIn K cd15 "law" = true)
    (k15 : PySem.W.keepIn K (.ref f15) = true)
    (z0 : PySem.W.nsIn K mainGlobals "abs" = some none)
    (z1 : PySem.W.nsIn K mainGlobals "enumerate" = some none)
    (z2 : PySem.W.nsIn K mainGlobals "int" = some none)
    (z3 : PySem.W.nsIn K mainGlobals "len" = some none)
    (z4 : PySem.W.nsIn K mainGlobals "range" = some none)
    (z5 : PySem.W.nsIn K mainGlobals "repr" = some none)
    (z6 : PySem.W.nsIn K mainGlobals "tuple" = some none)
    {t0 : Tok} (u0 : PySem.W.nsIn K mainGlobals "MODULUS" = some (some (.int 4294967291 t0)))
    {t1 : Tok} (u1 : PySem.W.nsIn K mainGlobals "LONGEST_BODY" = some (some (.int 65535 t1)))
    {t2 : Tok} (u2 : PySem.W.nsIn K mainGlobals "HEAD" = some (some (.int 4 t2)))
    {t3 : Tok} (u3 : PySem.W.nsIn K mainGlobals "EXTRA" = some (some (.int 8 t3)))
    : ∃ fd : FuncData, (∀ (s : Shared) (u : Value), BindsTo s fd ⟨[u], []⟩ [("_law_script", u)]) ∧ ∀ base : Heap, K.In base → base.Ns mainGlobals mg → ∀ ns : List Int, ns.length ≤ 63 →
        ∃ (mf : List D → AH → Res D) (AE : AH), mf [.lst (ns.map D.int)] [] = .ok (.bl true) AE ∧ FnD l.prog w K mg base 6 fa fd ["_law_script"] mf := by
  have e := hfa.symm.trans (PySem.W.mg_of X G a15)
  cases e
  have T := tx_mk X G a0 l0 c0 k0 a1 l1 c1 k1 a2 l2 c2 k2 a3 l3 c3 k3 a4 l4 c4 k4 a5 l5 c5 k5 a6 l6 c6 k6 a7 l7 c7 k7 a8 l8 c8 k8 a9 l9 c9 k9 a10 l10 c10 k10 a11 l11 c11 k11 a12 l12 c12 k12 a13 l13 c13 k13 a14 l14 c14 k14 a15 l15 c15 k15 z0 z1 z2 z3 z4 z5 z6 u0 u1 u2 u3
  exact ⟨_, fun s u => .of_eq rfl, fun base _ _ ns hl => law_true T ns hl⟩
end K07
open PySem PySem.W PyProof.Rows
set_option maxHeartbeats 0 in
theorem PySem.Challenge.cw_spelledways_k07_whole_frames_changed_any_holds : PySem.Challenge.rw_spelledways_k07_whole_frames_changed_any.Holds := by
  w_on; o_law; k_head; (case hw => w_witness2)
  k_fill
  refine DM.law_walk (l := PySem.Challenge.rw_spelledways_k07_whole_frames_changed_any) (n := 63) (k := 6) (x := "_law_script") rfl (by decide) rfl ⟨rfl, by decide, by decide⟩ (fun w h Y => PySem.W.kIn_of Y) ?F
  case F =>
    intro w mg fa h KX G hmg
    refine' K07.law_end KX G hmg ?a0 ?l0 ?c0 ?k0 ?a1 ?l1 ?c1 ?k1 ?a2 ?l2 ?c2 ?k2 ?a3 ?l3 ?c3 ?k3 ?a4 ?l4 ?c4 ?k4 ?a5 ?l5 ?c5 ?k5 ?a6 ?l6 ?c6 ?k6 ?a7 ?l7 ?c7 ?k7 ?a8 ?l8 ?c8 ?k8 ?a9 ?l9 ?c9 ?k9 ?a10 ?l10 ?c10 ?k10 ?a11 ?l11 ?c11 ?k11 ?a12 ?l12 ?c12 ?k12 ?a13 ?l13 ?c13 ?k13 ?a14 ?l14 ?c14 ?k14 ?a15 ?l15 ?c15 ?k15 ?z0 ?z1 ?z2 ?z3 ?z4 ?z5 ?z6 ?u0 ?u1 ?u2 ?u3
    (case a0 => k_is); (case l0 => k_is); (case c0 => k_is); (case k0 => k_is); (case a1 => k_is); (case l1 => k_is); (case c1 => k_is); (case k1 => k_is); (case a2 => k_is); (case l2 => k_is); (case c2 => k_is); (case k2 => k_is); (case a3 => k_is); (case l3 => k_is); (case c3 => k_is); (case k3 => k_is); (case a4 => k_is); (case l4 => k_is); (case c4 => k_is); (case k4 => k_is); (case a5 => k_is); (case l5 => k_is); (case c5 => k_is); (case k5 => k_is); (case a6 => k_is); (case l6 => k_is); (case c6 => k_is); (case k6 => k_is); (case a7 => k_is); (case l7 => k_is); (case c7 => k_is); (case k7 => k_is); (case a8 => k_is); (case l8 => k_is); (case c8 => k_is); (case k8 => k_is); (case a9 => k_is); (case l9 => k_is); (case c9 => k_is); (case k9 => k_is); (case a10 => k_is); (case l10 => k_is); (case c10 => k_is); (case k10 => k_is); (case a11 => k_is); (case l11 => k_is); (case c11 => k_is); (case k11 => k_is); (case a12 => k_is); (case l12 => k_is); (case c12 => k_is); (case k12 => k_is); (case a13 => k_is); (case l13 => k_is); (case c13 => k_is); (case k13 => k_is); (case a14 => k_is); (case l14 => k_is); (case c14 => k_is); (case k14 => k_is); (case a15 => k_is); (case l15 => k_is); (case c15 => k_is); (case k15 => k_is); (case z0 => k_is); (case z1 => k_is); (case z2 => k_is); (case z3 => k_is); (case z4 => k_is); (case z5 => k_is); (case z6 => k_is); (case u0 => k_is); (case u1 => k_is); (case u2 => k_is); (case u3 => k_is)
