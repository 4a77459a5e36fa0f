import PyProof.Rows.All
import HandS.Conv
import HandS.Deep
import HandS.Dict
import HandS.DictComp
import HandS.EndTab
import HandS.ExcField
import HandS.ExcInit
import HandS.ExcIs
import HandS.ExcSuper
import HandS.ForExc
import HandS.ForMost
import HandS.HotCalls
import HandS.IsInst
import HandS.Lambda
import HandS.More
import HandS.Nested
import HandS.NoneIn
import HandS.Remove
import HandS.SetFor
import HandS.Sort
import HandS.SortInts
import HandS.SortRule
import HandS.Strs
import HandS.Style
import HandS.Text
import HandS.TryMany
import HandS.TupAny
import HandS.TupMul
import HandS.Wide
import HandS.Zip
import KE.GoesMore
import KE.GoesZip
import KE.KDictPairs
import KE.KExcIs
import KE.KExcSuper
import KE.RegKSuper
import OpenK.AllK
import Wide.All
import Wide.FinOn
import PySem.Challenge.RW_spelledways_k12_whole_steps_through_a_tr
set_option Elab.async false
set_option linter.all false
set_option maxRecDepth 100000
section
set_option maxHeartbeats 2000000
namespace DM
open PySem PySem.Spec PyProof.Rows L2
/-! ### tuples made in this run, known as plain objects -/
abbrev plT (us : List Value) : Obj := { cls := .type "tuple", data := .seq us.toArray }
abbrev plH (us : List Value) (vs : List V) : HO := .frz (plT us) (.tup vs)
theorem plain_ok {P : Program} {w : World} {H : Hp} {h : Heap} {a : Addr} {us : List Value} {vs : List V} (e : h.get? a = some (plT us)) (r : Vals vs us) (z : vs.length ≤ sizeLine) : ObjOk P w H h a (plH us vs) :=
  ⟨e, z, us, r, ⟨_, e, rfl, _, rfl⟩⟩
section
variable {X : Cx} {es : List Expr} {t : TA} {pos : Pos}
def tTupP (t : TA) : TE := fun σ H Q => t σ H fun xs H1 => xs.length ≤ sizeLine ∧ ∀ p us, H1 p = none → Q (.ref p) (upd H1 p (plH us xs))
theorem pe_tupP {x1 : Nat} (h : PA X es t) : PE X (.Tuple es x1 pos) (tTupP t) := by
  refine ⟨fun pins s σ H Q I hq => ?_⟩
  refine wpAny_Tuple_spliced (thn (h.run pos pins s σ H _ I hq) fun us s1 ⟨xs, H1, I1, r, z, q⟩ => ⟨by rw [← r.length]; exact z, ?_⟩)
  exact ⟨.ref s1.heap.objs.size, upd H1 s1.heap.objs.size (plH us xs), I1.laid (t' := s1.toks) (fun b u e => Heap.get?_push_of_some _ e) (Nat.le_refl _) (plain_ok (Heap.get?_push_size _ rfl) r z), rfl, q _ us (I1.hok.fresh (Nat.le_refl _))⟩
theorem tuple_ofP : CallR X (.type "tuple") (fun xs H Q => ∃ p ys, xs = [.ref p] ∧ ((SqL X.K H p ys ∧ ∀ l us, H l = none → Q (.ref l) (upd H l (plH us ys))) ∨ (SqT X.K H p ys ∧ Q (.ref p) H))) := by
  intro pins s σ H xs us Q I r h
  obtain ⟨p, ys, rfl, h⟩ := h
  obtain ⟨u, rfl, rx⟩ := vals1 r
  cases rx
  rcases h with ⟨sq, q⟩ | ⟨sq, q⟩
  · obtain ⟨its, rv, pl, hz⟩ := I.list sq
    have hlen := rv.length
    refine call_tuple_list pl.isList (fun h' kp => ?_) (by simp only [List.size_toArray] <;> omega)
    have I1 : Inv X pins σ H { s with heap := h' } := I.kept (t' := s.toks) kp
    exact ⟨.ref h'.objs.size, _, I1.laid (o := plH its ys) (t' := s.toks) (fun b o e => Heap.get?_push_of_some _ e) (Nat.le_refl _) (plain_ok (Heap.get?_push_size _ rfl) rv hz), rfl, q _ its (I1.hok.fresh (Nat.le_refl _))⟩
  · obtain ⟨its, rv, pl, hz⟩ := I.tuple sq
    exact call_tuple_same pl ⟨.ref p, H, I, rfl, q⟩
/-- t + u -/
def rCatP (K : PySem.W.Frag) : R2 := fun x y H Q => ∃ a b xs ys, x = .ref a ∧ y = .ref b ∧ SqT K H a xs ∧ SqT K H b ys ∧ xs.length + ys.length ≤ sizeLine ∧
  (xs = [] → Q (.ref b) H) ∧ (xs ≠ [] → ys = [] → Q (.ref a) H) ∧ (xs ≠ [] → ys ≠ [] → ∀ p us, H p = none → Q (.ref p) (upd H p (plH us (xs ++ ys))))
theorem op_catP : OpR X (binaryOp .Add) (rCatP X.K) := by
  intro pins s σ H x y v u Q I rx ry h
  obtain ⟨a, b, xs, ys, rfl, rfl, ha, hb, hz, q0, q1, q2⟩ := h
  cases rx
  cases ry
  obtain ⟨its, r1, p1, _⟩ := I.tuple ha
  obtain ⟨its2, r2, p2, _⟩ := I.tuple hb
  by_cases hx : xs = []
  · subst hx
    cases r1
    exact cat_tup0 p1 p2 ⟨.ref b, H, I, rfl, q0 rfl⟩
  · refine HT.cat_tup p1 p2 (fun z => hx (r1.nil_iff.mp z)) (fun z => ⟨.ref a, H, I, rfl, q1 hx (r2.nil_iff.mp z)⟩) (fun z => ?_) (by rw [← r1.length, ← r2.length]; exact hz)
    exact ⟨.ref s.heap.objs.size, _, I.laid (o := plH (its ++ its2) (xs ++ ys)) (t' := s.toks) (fun b ob q => Heap.get?_push_of_some _ q) (Nat.le_refl _) (plain_ok (Heap.get?_push_size _ rfl) (r1.append r2) (by rw [List.length_append]; exact hz)), rfl,
      q2 hx (fun w => z (r2.nil_iff.mpr w)) _ _ (I.hok.fresh (Nat.le_refl _))⟩
/-- t[lo:hi] -/
def rSlP (K : PySem.W.Frag) : V → Option Int → Option Int → Hp → VK → Prop := fun x lo hi H Q => ∃ a xs, x = .ref a ∧ SqT K H a xs ∧
  (HT.sIx xs.length 0 lo = 0 ∧ HT.sIx xs.length xs.length hi = xs.length → Q (.ref a) H) ∧ (¬ (HT.sIx xs.length 0 lo = 0 ∧ HT.sIx xs.length xs.length hi = xs.length) → ∀ p us, H p = none → Q (.ref p) (upd H p (plH us (cutV xs lo hi))))
theorem sl_tupP : SlR X (rSlP X.K) := by
  intro pins s σ H x v vl vu lo hi sl Q I rx hs pl pu h
  obtain ⟨a, xs, rfl, hx, q1, q2⟩ := h
  cases rx
  obtain ⟨its, r, ht, hz⟩ := I.tuple hx
  have hlen : its.toArray.size = xs.length := by rw [List.size_toArray]; exact r.length.symm
  refine ⟨"tuple", _, PyProof.Rows.slot_tuple_getitem.lookup, ht.typeIs, ?_⟩
  by_cases hw : HT.sIx xs.length 0 lo = 0 ∧ HT.sIx xs.length xs.length hi = xs.length
  · exact getItem_tuple_whole ht hs pl pu (by rw [hlen]; exact hw) ⟨.ref a, H, I, rfl, q1 hw⟩
  · refine HT.getItem_tuple_cut ht hs pl pu (by rw [hlen]; exact hw) ?_ (by rw [hlen]; exact hz)
    rw [hlen]
    exact ⟨.ref s.heap.objs.size, _, I.laid (o := plH _ (cutV xs lo hi)) (t' := s.toks) (fun b ob q => Heap.get?_push_of_some _ q) (Nat.le_refl _)
      (plain_ok (Heap.get?_push_size _ rfl) ((r.drop (HT.sIx xs.length 0 lo)).take (HT.sIx xs.length xs.length hi - HT.sIx xs.length 0 lo)) (Nat.le_trans (cutV_length xs lo hi) hz)), rfl, q2 hw _ _ (I.hok.fresh (Nat.le_refl _))⟩
end
end DM
end
section
set_option maxHeartbeats 2000000
namespace DM
open PySem PySem.Spec PyProof.Rows L2

/-- a lambda that captures nothing: its words; key: a number of its own, so that two of them are told apart -/
structure LF where
  key : Nat
  qual : Str
  params : Arguments
  body : Expr
  scope : Scope
abbrev LF.nf (F : LF) (c : Addr) : NdefX.NF := ⟨"<lambda>", F.qual, F.params, [], F.scope, [], c⟩
/-- the object at f is the lambda F, its code at c -/
def LamO (f c : Addr) (F : LF) : HO := .ext fun h => ∃ (pm ctv : Value), h.get? f = some (PySem.W.kla_obj "<lambda>" F.qual F.params F.body F.scope [] pm c ctv)
/-- data: tuples (and lists that nobody changes) by value, changing objects by number; exv: an exception in an except suite's hand; cl: an own class; fnv: a lambda, its code at c, made at the slots σ -/
inductive D where
  | non | bl (b : Bool) | int (i : Int) | str (x : Str) | ty (n : String) | abs (a : Addr) | cl (C : Str)
  | tup (xs : List D) | qtup (xs : List D) | lst (xs : List D) | ref (n : Nat) | exv (a : Addr) (d : Option Addr) (ns : List Str) (ds : List D) | fnv (f c : Addr) (q : Str) (σ : List (Option V)) (ρ : List (Option D)) | fno (F : LF)
/-- a changing object; tab: a code object's table -/
inductive AO where
  | lst (xs : List D) | dk (kvs : List (Key × D)) | dt (kvs : List (List Key × D)) | ins (C : Str) (fs : List (Str × D)) | tab (P : Addr) (q : Str) | fk (od : Obj) (ws : List (Key × V)) (kvs : List (Key × D))
abbrev AH := List AO
/-- C: the class's name -/
inductive Res (α : Type) where
  | ok (a : α) (A : AH) | exc (C : Str) (fs : List (Str × D)) (A : AH) | no
def Res.bind {α β : Type} (r : Res α) (k : α → AH → Res β) : Res β := match r with
  | .ok a A => k a A
  | .exc C fs A => .exc C fs A
  | .no => .no
@[simp] theorem bind_ok {α β : Type} (a : α) (A : AH) (k : α → AH → Res β) : Res.bind (.ok a A) k = k a A := rfl
@[simp] theorem bind_exc {α β : Type} (C : Str) (fs : List (Str × D)) (A : AH) (k : α → AH → Res β) : Res.bind (.exc C fs A) k = .exc C fs A := rfl
@[simp] theorem bind_no {α β : Type} (k : α → AH → Res β) : Res.bind .no k = .no := rfl
abbrev Env := List (Option D)
abbrev ME := Env → AH → Res D
abbrev MT := Env → AH → Res Bool
abbrev MA := Env → AH → Res (List D)
inductive SRes where
  | nx (ρ : Env) (A : AH) | rt (d : D) (A : AH) | bk (ρ : Env) (A : AH) | ct (ρ : Env) (A : AH) | exc (C : Str) (fs : List (Str × D)) (ρ : Env) (A : AH) | no
abbrev MS := Env → AH → SRes

/-! ### what stands for what -/
/-- the class of a name -/
def clsV (K : PySem.W.Frag) (C : Str) : Option Value := (PySem.W.nsIn K mainGlobals C).join
/-- the numbered objects' addresses; those of lists that are being made -/
abbrev Mp := List Addr × List Addr
def Out (m : Mp) (a : Addr) : Prop := a ∉ m.1 ∧ a ∉ m.2
def SqT' (K : PySem.W.Frag) (m : Mp) (H : Hp) (a : Addr) (vs : List V) : Prop :=
  (∃ us, H a = some (plH us vs) ∧ Out m a) ∨ ∃ (o : Obj) (its : Array Value) (n : Nat), K.lookup a = some o ∧ o.cls = .type "tuple" ∧ o.dict = none ∧ o.data = .seq its n ∧ its.size ≤ sizeLine ∧ Vals vs its.toList
def SqL' (K : PySem.W.Frag) (m : Mp) (H : Hp) (a : Addr) (vs : List V) : Prop :=
  (Rd H a (.lst vs) ∧ Out m a) ∨ ∃ (o : Obj) (its : Array Value) (n : Nat), K.lookup a = some o ∧ o.cls = .type "list" ∧ o.dict = none ∧ o.data = .seq its n ∧ its.size ≤ sizeLine ∧ Vals vs its.toList
theorem SqT'.sq {K : PySem.W.Frag} {m : Mp} {H : Hp} {a : Addr} {vs : List V} (h : SqT' K m H a vs) : SqT K H a vs := h.elim (fun ⟨us, x, _⟩ => .inl (.inr ⟨_, x⟩)) fun ⟨o, its, n, a, b, _, c⟩ => .inr ⟨o, its, n, a, b, c⟩
theorem SqL'.sq {K : PySem.W.Frag} {m : Mp} {H : Hp} {a : Addr} {vs : List V} (h : SqL' K m H a vs) : SqL K H a vs := h.elim (fun x => .inl x.1) .inr
mutual
inductive RD (K : PySem.W.Frag) (m : Mp) (H : Hp) : D → V → Prop
  | non : RD K m H .non .non
  | bl (b : Bool) : RD K m H (.bl b) (.bl b)
  | int (i : Int) : RD K m H (.int i) (.int i)
  | str (x : Str) : RD K m H (.str x) (.str x)
  | ty (n : String) : RD K m H (.ty n) (.ty n)
  | abs (a : Addr) : RD K m H (.abs a) (.ref a)
  | cl {C : Str} {a : Addr} : clsV K C = some (.ref a) → RD K m H (.cl C) (.ref a)
  | tup {a : Addr} {vs : List V} {xs : List D} : SqT' K m H a vs → RDs K m H xs vs → RD K m H (.tup xs) (.ref a)
  | qtup {a : Addr} {vs : List V} {xs : List D} : Rd H a (.tup vs) → Out m a → RDs K m H xs vs → RD K m H (.qtup xs) (.ref a)
  | lst {a : Addr} {vs : List V} {xs : List D} : SqL' K m H a vs → RDs K m H xs vs → RD K m H (.lst xs) (.ref a)
  | ref {n : Nat} {a : Addr} : m.1[n]? = some a → RD K m H (.ref n) (.ref a)
  | exv0 (a : Addr) : RD K m H (.exv a none [] []) (.ref a)
  | exv1 {a dd : Addr} {gs : List (Str × V)} {ns : List Str} {ds : List D} : H dd = some (.xd gs) → Out m dd → ns = gs.map (·.1) → RDs K m H ds (gs.map (·.2)) → RD K m H (.exv a (some dd) ns ds) (.ref a)
  | fnv {f c : Addr} {q : Str} {σ : List (Option V)} {ρ : List (Option D)} : H c = some (LamX.CodeO c q) → Out m c → RDo K m H ρ σ → RD K m H (.fnv f c q σ ρ) (.ref f)
  | fno {f c : Addr} {F : LF} : H f = some (LamO f c F) → Out m f → H c = some (LamX.CodeO c F.qual) → Out m c → RD K m H (.fno F) (.ref f)
inductive RDo (K : PySem.W.Frag) (m : Mp) (H : Hp) : List (Option D) → List (Option V) → Prop
  | nil : RDo K m H [] []
  | none {ρ : List (Option D)} {x : Option V} {σ : List (Option V)} : RDo K m H ρ σ → RDo K m H (none :: ρ) (x :: σ)
  | some {d : D} {v : V} {ρ : List (Option D)} {σ : List (Option V)} : RD K m H d v → RDo K m H ρ σ → RDo K m H (some d :: ρ) (some v :: σ)
inductive RDs (K : PySem.W.Frag) (m : Mp) (H : Hp) : List D → List V → Prop
  | nil : RDs K m H [] []
  | cons {x : D} {xs : List D} {v : V} {vs : List V} : RD K m H x v → RDs K m H xs vs → RDs K m H (x :: xs) (v :: vs)
end
/-- carried over: the numbers stay, what is in nobody's hand stays -/
theorem sqT_move {K : PySem.W.Frag} {m m' : Mp} {H H' : Hp} (ho : ∀ a o, H a = some o → Out m a → H' a = some o ∧ Out m' a) {a : Addr} {vs : List V} (h : SqT' K m H a vs) : SqT' K m' H' a vs := by
  rcases h with ⟨us, r, hn⟩ | h
  · exact .inl ⟨us, (ho _ _ r hn).1, (ho _ _ r hn).2⟩
  · exact .inr h
theorem qt_move {m m' : Mp} {H H' : Hp} (ho : ∀ a o, H a = some o → Out m a → H' a = some o ∧ Out m' a) {a : Addr} {vs : List V} (r : Rd H a (.tup vs)) (hn : Out m a) : Rd H' a (.tup vs) ∧ Out m' a := by
  rcases r with r | ⟨o, r⟩
  · exact ⟨.inl (ho _ _ r hn).1, (ho _ _ r hn).2⟩
  · exact ⟨.inr ⟨o, (ho _ _ r hn).1⟩, (ho _ _ r hn).2⟩
theorem sqL_move {K : PySem.W.Frag} {m m' : Mp} {H H' : Hp} (ho : ∀ a o, H a = some o → Out m a → H' a = some o ∧ Out m' a) {a : Addr} {vs : List V} (h : SqL' K m H a vs) : SqL' K m' H' a vs := by
  rcases h with ⟨r, hn⟩ | h
  · refine .inl ?_
    rcases r with r | ⟨o, r⟩
    · exact ⟨.inl (ho _ _ r hn).1, (ho _ _ r hn).2⟩
    · exact ⟨.inr ⟨o, (ho _ _ r hn).1⟩, (ho _ _ r hn).2⟩
  · exact .inr h
/-! no number of n or more is named -/
mutual
def clo (n : Nat) : D → Prop
  | .ref i => i < n
  | .tup xs => clos n xs
  | .qtup xs => clos n xs
  | .lst xs => clos n xs
  | .exv _ _ _ ds => clos n ds
  | .fnv _ _ _ _ ρ => cloo n ρ
  | .fno _ => True
  | .non => True
  | .bl _ => True
  | .int _ => True
  | .str _ => True
  | .ty _ => True
  | .abs _ => True
  | .cl _ => True
def cloo (n : Nat) : List (Option D) → Prop
  | [] => True
  | none :: ρ => cloo n ρ
  | some d :: ρ => clo n d ∧ cloo n ρ
def clos (n : Nat) : List D → Prop
  | [] => True
  | d :: ds => clo n d ∧ clos n ds
end
mutual
theorem RD.moveN {K : PySem.W.Frag} {m m' : Mp} {H H' : Hp} {n : Nat} (hr : ∀ (i : Nat) (a : Addr), i < n → m.1[i]? = some a → m'.1[i]? = some a) (ho : ∀ a o, H a = some o → Out m a → H' a = some o ∧ Out m' a) : ∀ (d : D) (v : V), clo n d → RD K m H d v → RD K m' H' d v
  | .non, _, _, h => by cases h; exact .non
  | .bl b, _, _, h => by cases h; exact .bl b
  | .int i, _, _, h => by cases h; exact .int i
  | .str x, _, _, h => by cases h; exact .str x
  | .ty x, _, _, h => by cases h; exact .ty x
  | .abs x, _, _, h => by cases h; exact .abs x
  | .cl x, _, _, h => by cases h with | cl h => exact .cl h
  | .ref n, _, c, h => by cases h with | ref h => exact .ref (hr _ _ c h)
  | .tup xs, _, c, h => by cases h with | tup h r => exact .tup (sqT_move ho h) (RDs.moveN hr ho xs _ c r)
  | .qtup xs, _, c, h => by cases h with | qtup h n r => exact .qtup (qt_move ho h n).1 (qt_move ho h n).2 (RDs.moveN hr ho xs _ c r)
  | .lst xs, _, c, h => by cases h with | lst h r => exact .lst (sqL_move ho h) (RDs.moveN hr ho xs _ c r)
  | .exv a d ns ds, _, c, h => by
    cases h with
    | exv0 => exact .exv0 a
    | exv1 h1 h2 h3 r => exact .exv1 (ho _ _ h1 h2).1 (ho _ _ h1 h2).2 h3 (RDs.moveN hr ho ds _ c r)
  | .fnv f a q σ ρ, _, c, h => by cases h with | fnv h1 h2 r => exact .fnv (ho _ _ h1 h2).1 (ho _ _ h1 h2).2 (RDo.moveN hr ho ρ _ c r)
  | .fno F, _, c, h => by cases h with | fno h1 h2 h3 h4 => exact .fno (ho _ _ h1 h2).1 (ho _ _ h1 h2).2 (ho _ _ h3 h4).1 (ho _ _ h3 h4).2
theorem RDo.moveN {K : PySem.W.Frag} {m m' : Mp} {H H' : Hp} {n : Nat} (hr : ∀ (i : Nat) (a : Addr), i < n → m.1[i]? = some a → m'.1[i]? = some a) (ho : ∀ a o, H a = some o → Out m a → H' a = some o ∧ Out m' a) : ∀ (ρ : List (Option D)) (σ : List (Option V)), cloo n ρ → RDo K m H ρ σ → RDo K m' H' ρ σ
  | [], _, _, h => by cases h; exact .nil
  | none :: ρ, _, c, h => by cases h with | none h => exact .none (RDo.moveN hr ho ρ _ c h)
  | some d :: ρ, _, c, h => by cases h with | some h r => exact .some (RD.moveN hr ho d _ c.1 h) (RDo.moveN hr ho ρ _ c.2 r)
theorem RDs.moveN {K : PySem.W.Frag} {m m' : Mp} {H H' : Hp} {n : Nat} (hr : ∀ (i : Nat) (a : Addr), i < n → m.1[i]? = some a → m'.1[i]? = some a) (ho : ∀ a o, H a = some o → Out m a → H' a = some o ∧ Out m' a) : ∀ (ds : List D) (vs : List V), clos n ds → RDs K m H ds vs → RDs K m' H' ds vs
  | [], _, _, h => by cases h; exact .nil
  | d :: ds, _, c, h => by cases h with | cons h r => exact .cons (RD.moveN hr ho d _ c.1 h) (RDs.moveN hr ho ds _ c.2 r)
end
mutual
theorem RD.clo {K : PySem.W.Frag} {m : Mp} {H : Hp} : ∀ (d : D) (v : V), RD K m H d v → DM.clo m.1.length d
  | .non, _, _ => trivial
  | .bl b, _, _ => trivial
  | .int b, _, _ => trivial
  | .str b, _, _ => trivial
  | .ty b, _, _ => trivial
  | .abs b, _, _ => trivial
  | .cl b, _, _ => trivial
  | .ref n, _, h => by cases h with | ref h => exact (List.getElem?_eq_some_iff.mp h).1
  | .tup xs, _, h => by cases h with | tup s r => exact RDs.clos xs _ r
  | .qtup xs, _, h => by cases h with | qtup s n r => exact RDs.clos xs _ r
  | .lst xs, _, h => by cases h with | lst s r => exact RDs.clos xs _ r
  | .exv a d ns ds, _, h => by
    cases h with
    | exv0 => trivial
    | exv1 _ _ _ r => exact RDs.clos ds _ r
  | .fnv f a q σ ρ, _, h => by cases h with | fnv _ _ r => exact RDo.cloo ρ _ r
  | .fno _, _, _ => trivial
theorem RDo.cloo {K : PySem.W.Frag} {m : Mp} {H : Hp} : ∀ (ρ : List (Option D)) (σ : List (Option V)), RDo K m H ρ σ → DM.cloo m.1.length ρ
  | [], _, _ => trivial
  | none :: ρ, _, h => by cases h with | none h => exact RDo.cloo ρ _ h
  | some d :: ρ, _, h => by cases h with | some h r => exact ⟨RD.clo d _ h, RDo.cloo ρ _ r⟩
theorem RDs.clos {K : PySem.W.Frag} {m : Mp} {H : Hp} : ∀ (ds : List D) (vs : List V), RDs K m H ds vs → DM.clos m.1.length ds
  | [], _, _ => trivial
  | d :: ds, _, h => by cases h with | cons h r => exact ⟨RD.clo d _ h, RDs.clos ds _ r⟩
end
/-- as above, all numbers -/
theorem RD.move {K : PySem.W.Frag} {m m' : Mp} {H H' : Hp} (hr : ∀ (i : Nat) (a : Addr), m.1[i]? = some a → m'.1[i]? = some a) (ho : ∀ a o, H a = some o → Out m a → H' a = some o ∧ Out m' a) (d : D) (v : V) (h : RD K m H d v) : RD K m' H' d v :=
  RD.moveN (n := m.1.length) (fun i a _ => hr i a) ho d v (RD.clo d v h) h
theorem RDs.move {K : PySem.W.Frag} {m m' : Mp} {H H' : Hp} (hr : ∀ (i : Nat) (a : Addr), m.1[i]? = some a → m'.1[i]? = some a) (ho : ∀ a o, H a = some o → Out m a → H' a = some o ∧ Out m' a) (d : List D) (v : List V) (h : RDs K m H d v) : RDs K m' H' d v :=
  RDs.moveN (n := m.1.length) (fun i a _ => hr i a) ho d v (RDs.clos d v h) h
structure Ext (m : Mp) (H : Hp) (m' : Mp) (H' : Hp) : Prop where
  pre : ∃ l, m'.1 = m.1 ++ l
  sub : ∀ p ∈ m.2, p ∈ m'.2
  pvs : ∀ p ∈ m'.2, p ∈ m.2 ∨ p ∈ m.1 ∨ H p = none
  new : ∀ p ∈ m'.1, p ∈ m.1 ∨ H p = none
  keep : ∀ p o, H p = some o → p ∉ m.1 → H' p = some o
theorem Ext.refl (m : Mp) (H : Hp) : Ext m H m H := ⟨⟨[], (List.append_nil m.1).symm⟩, fun _ h => h, fun _ h => .inl h, fun _ h => .inl h, fun _ _ h _ => h⟩
theorem Ext.none {m m1 : Mp} {H H1 : Hp} (a : Ext m H m1 H1) {p : Addr} (hm : p ∉ m.1) (z : H1 p = none) : H p = none := by
  cases q : H p with
  | none => rfl
  | some o =>
    have := a.keep p o q hm
    rw [z] at this; cases this
theorem Ext.trans {m m1 m2 : Mp} {H H1 H2 : Hp} (a : Ext m H m1 H1) (b : Ext m1 H1 m2 H2) : Ext m H m2 H2 := by
  have out : ∀ p o, H p = some o → p ∉ m.1 → p ∉ m1.1 := fun p o h hn hm => by
    rcases a.new p hm with z | z
    · exact hn z
    · rw [z] at h; cases h
  refine ⟨?_, fun p h => b.sub p (a.sub p h), fun p hp => ?_, fun p hp => ?_, fun p o h hn => b.keep p o (a.keep p o h hn) (out p o h hn)⟩
  · obtain ⟨l, h1⟩ := a.pre
    obtain ⟨l2, h2⟩ := b.pre
    exact ⟨l ++ l2, by rw [h2, h1, List.append_assoc]⟩
  · by_cases hm : p ∈ m.1
    · exact .inr (.inl hm)
    · rcases b.pvs p hp with z | z | z
      · exact a.pvs p z
      · rcases a.new p z with y | y
        · exact .inr (.inl y)
        · exact .inr (.inr y)
      · exact .inr (.inr (a.none hm z))
  · by_cases hm : p ∈ m.1
    · exact .inl hm
    · rcases b.new p hp with z | z
      · exact a.new p z
      · exact .inr (a.none hm z)
theorem Ext.get {m m' : Mp} {H H' : Hp} (e : Ext m H m' H') {n : Nat} {a : Addr} (h : m.1[n]? = some a) : m'.1[n]? = some a := by
  obtain ⟨l, h0⟩ := e.pre
  obtain ⟨h1, h2⟩ := List.getElem?_eq_some_iff.mp h
  rw [h0, List.getElem?_append_left h1]; exact h
theorem Ext.out {m m' : Mp} {H H' : Hp} (e : Ext m H m' H') {a : Addr} {o : HO} (q : H a = some o) (hn : Out m a) : H' a = some o ∧ Out m' a := by
  refine ⟨e.keep a o q hn.1, fun hm => ?_, fun hm => ?_⟩
  · rcases e.new a hm with z | z
    · exact hn.1 z
    · rw [z] at q; cases q
  · rcases e.pvs a hm with z | z | z
    · exact hn.2 z
    · exact hn.1 z
    · rw [z] at q; cases q
theorem RD.mono {K : PySem.W.Frag} {m m' : Mp} {H H' : Hp} (e : Ext m H m' H') (d : D) (v : V) (h : RD K m H d v) : RD K m' H' d v := RD.move (fun _ _ => e.get) (fun _ _ => e.out) d v h
theorem RDs.mono {K : PySem.W.Frag} {m m' : Mp} {H H' : Hp} (e : Ext m H m' H') (d : List D) (v : List V) (h : RDs K m H d v) : RDs K m' H' d v := RDs.move (fun _ _ => e.get) (fun _ _ => e.out) d v h
theorem RDs.length {K : PySem.W.Frag} {m : Mp} {H : Hp} : ∀ {ds : List D} {vs : List V}, RDs K m H ds vs → ds.length = vs.length
  | [], _, h => by cases h; rfl
  | d :: ds, _, h => by cases h with | cons h r => rw [List.length_cons, List.length_cons, RDs.length r]
theorem RDs.get {K : PySem.W.Frag} {m : Mp} {H : Hp} : ∀ {ds : List D} {vs : List V} {i : Nat} {d : D}, RDs K m H ds vs → ds[i]? = some d → ∃ v, vs[i]? = some v ∧ RD K m H d v
  | [], _, _, _, _, e => by simp at e
  | d :: ds, _, 0, x, h, e => by cases h with | cons h r => (simp at e; subst e; exact ⟨_, rfl, h⟩)
  | d :: ds, _, i + 1, x, h, e => by
    cases h with
    | cons h r =>
      obtain ⟨v, h1, h2⟩ := RDs.get (i := i) (d := x) r (by simpa using e)
      exact ⟨v, by simpa using h1, h2⟩
theorem RDs.append {K : PySem.W.Frag} {m : Mp} {H : Hp} : ∀ {ds es : List D} {vs ws : List V}, RDs K m H ds vs → RDs K m H es ws → RDs K m H (ds ++ es) (vs ++ ws)
  | [], _, _, _, h, q => by cases h; exact q
  | d :: ds, _, _, _, h, q => by cases h with | cons h r => exact .cons h (RDs.append r q)
theorem RDs.take {K : PySem.W.Frag} {m : Mp} {H : Hp} : ∀ {ds : List D} {vs : List V} (n : Nat), RDs K m H ds vs → RDs K m H (ds.take n) (vs.take n)
  | _, _, 0, _ => by simp; exact .nil
  | [], _, n + 1, h => by cases h; exact .nil
  | d :: ds, _, n + 1, h => by cases h with | cons h r => exact .cons h (RDs.take n r)
theorem RDs.drop {K : PySem.W.Frag} {m : Mp} {H : Hp} : ∀ {ds : List D} {vs : List V} (n : Nat), RDs K m H ds vs → RDs K m H (ds.drop n) (vs.drop n)
  | _, _, 0, h => h
  | [], _, n + 1, h => by cases h; exact .nil
  | d :: ds, _, n + 1, h => by cases h with | cons h r => exact RDs.drop n r
theorem RDs.set {K : PySem.W.Frag} {m : Mp} {H : Hp} {d : D} {v : V} (q : RD K m H d v) : ∀ {ds : List D} {vs : List V} (n : Nat), RDs K m H ds vs → RDs K m H (ds.set n d) (vs.set n v)
  | [], _, n, h => by cases h; exact .nil
  | _ :: ds, _, 0, h => by cases h with | cons h r => exact .cons q r
  | _ :: ds, _, n + 1, h => by cases h with | cons h r => exact .cons h (RDs.set q n r)


def RFs (K : PySem.W.Frag) (m : Mp) (H : Hp) (fs : List (Str × D)) (gs : List (Str × V)) : Prop := fs.map (·.1) = gs.map (·.1) ∧ RDs K m H (fs.map (·.2)) (gs.map (·.2))
/-- the values of a changing object -/
def AO.vals : AO → List D
  | .lst xs => xs
  | .dk kvs => kvs.map (·.2)
  | .dt kvs => kvs.map (·.2)
  | .ins _ fs => fs.map (·.2)
  | .tab _ _ => []
  | .fk _ _ kvs => kvs.map (·.2)
/-- the table at P: each code object that it tells bears the name q -/
def TabR (m : Mp) (H : Hp) (P : Addr) (q : Str) : Prop := ∃ ps : Array Value, H P = some (.tbl ps) ∧ TriplesOk ps.toList ∧ ∀ (pos : Pos) (cv : Value), codeAmong pos ps.toList = some cv → ∃ c, cv = .ref c ∧ H c = some (LamX.CodeO c q) ∧ Out m c
def ObjR (K : PySem.W.Frag) (m : Mp) (H : Hp) : AO → Addr → Prop
  | .lst xs, a => ∃ vs, H a = some (.lst vs) ∧ RDs K m H xs vs
  | .dk kvs, a => ∃ ws : List (Key × V), (H a = some (.dK ws) ∧ kvs.map (·.1) = ws.map (·.1)) ∧ RDs K m H (kvs.map (·.2)) (ws.map (·.2))
  | .dt kvs, a => ∃ ws : List (List Key × V), (H a = some (.dT ws) ∧ kvs.map (·.1) = ws.map (·.1)) ∧ RDs K m H (kvs.map (·.2)) (ws.map (·.2))
  | .ins C fs, a => ∃ gs : List (Str × V), (∃ c dx, clsV K C = some (.ref c) ∧ H a = some (.ins c dx gs) ∧ H dx = some (.own a) ∧ Out m dx ∧ fs.map (·.1) = gs.map (·.1)) ∧ RDs K m H (fs.map (·.2)) (gs.map (·.2))
  | .tab P q, a => a = P ∧ TabR m H P q
  | .fk od ws kvs, a => (H a = some (.frz od (.dK ws)) ∧ kvs.map (·.1) = ws.map (·.1)) ∧ RDs K m H (kvs.map (·.2)) (ws.map (·.2))
/-- its shape is carried over where its object is the same, its values where they are -/
theorem ObjR.moveN {K : PySem.W.Frag} {m m' : Mp} {H H' : Hp} {n : Nat} (hr : ∀ (i : Nat) (a : Addr), i < n → m.1[i]? = some a → m'.1[i]? = some a) (ho : ∀ a o, H a = some o → Out m a → H' a = some o ∧ Out m' a) {o : AO} {q : Addr} (hq : H' q = H q) (c : clos n o.vals) (h : ObjR K m H o q) : ObjR K m' H' o q := by
  cases o with
  | lst xs => obtain ⟨vs, e1, r⟩ := h; exact ⟨vs, hq.trans e1, RDs.moveN hr ho _ _ c r⟩
  | dk kvs => obtain ⟨vs, ⟨e1, e2⟩, r⟩ := h; exact ⟨vs, ⟨hq.trans e1, e2⟩, RDs.moveN hr ho _ _ c r⟩
  | dt kvs => obtain ⟨vs, ⟨e1, e2⟩, r⟩ := h; exact ⟨vs, ⟨hq.trans e1, e2⟩, RDs.moveN hr ho _ _ c r⟩
  | ins C fs =>
    obtain ⟨gs, ⟨cc, dx, e0, e1, e2, e3, e4⟩, r⟩ := h
    exact ⟨gs, ⟨cc, dx, e0, hq.trans e1, (ho _ _ e2 e3).1, (ho _ _ e2 e3).2, e4⟩, RDs.moveN hr ho _ _ c r⟩
  | fk od ws kvs => obtain ⟨⟨e1, e2⟩, r⟩ := h; exact ⟨⟨hq.trans e1, e2⟩, RDs.moveN hr ho _ _ c r⟩
  | tab P q =>
    obtain ⟨rfl, ps, e1, e2, e3⟩ := h
    refine ⟨rfl, ps, hq.trans e1, e2, fun pos cv hc => ?_⟩
    obtain ⟨c', f1, f2, f3⟩ := e3 pos cv hc
    exact ⟨c', f1, (ho _ _ f2 f3).1, (ho _ _ f2 f3).2⟩
theorem ObjR.clos {K : PySem.W.Frag} {m : Mp} {H : Hp} {o : AO} {q : Addr} (h : ObjR K m H o q) : DM.clos m.1.length o.vals := by
  cases o with
  | lst xs => obtain ⟨vs, e1, r⟩ := h; exact RDs.clos _ _ r
  | dk kvs => obtain ⟨vs, e1, r⟩ := h; exact RDs.clos _ _ r
  | dt kvs => obtain ⟨vs, e1, r⟩ := h; exact RDs.clos _ _ r
  | ins C fs => obtain ⟨vs, e1, r⟩ := h; exact RDs.clos _ _ r
  | tab P q => trivial
  | fk od ws kvs => exact RDs.clos _ _ h.2
theorem ObjR.move {K : PySem.W.Frag} {m m' : Mp} {H H' : Hp} (hr : ∀ (i : Nat) (a : Addr), m.1[i]? = some a → m'.1[i]? = some a) (ho : ∀ a o, H a = some o → Out m a → H' a = some o ∧ Out m' a) {o : AO} {q : Addr} (hq : H' q = H q) (h : ObjR K m H o q) : ObjR K m' H' o q :=
  ObjR.moveN (n := m.1.length) (fun i a _ => hr i a) ho hq h.clos h
theorem ObjR.held {K : PySem.W.Frag} {m : Mp} {H : Hp} {o : AO} {q : Addr} (h : ObjR K m H o q) : H q ≠ none := by
  cases o with
  | lst xs => obtain ⟨vs, e, _⟩ := h; rw [e]; exact fun z => nomatch z
  | dk xs => obtain ⟨vs, ⟨e, _⟩, _⟩ := h; rw [e]; exact fun z => nomatch z
  | dt xs => obtain ⟨vs, ⟨e, _⟩, _⟩ := h; rw [e]; exact fun z => nomatch z
  | ins C fs => obtain ⟨gs, ⟨c, dx, _, e, _⟩, _⟩ := h; rw [e]; exact fun z => nomatch z
  | tab P q => obtain ⟨rfl, ps, e, _⟩ := h; rw [e]; exact fun z => nomatch z
  | fk od ws kvs => obtain ⟨⟨e, _⟩, _⟩ := h; rw [e]; exact fun z => nomatch z
structure Rel (K : PySem.W.Frag) (m : Mp) (A : AH) (H : Hp) : Prop where
  len : m.1.length = A.length
  nd : m.1.Nodup
  pv : ∀ p ∈ m.2, H p ≠ none
  obj : ∀ (n : Nat) (o : AO), A[n]? = some o → ∃ a, m.1[n]? = some a ∧ ObjR K m H o a
/-- slots -/
def REnv (K : PySem.W.Frag) (m : Mp) (H : Hp) (ρ : Env) (σ : L2.St) : Prop := ρ.length = σ.length ∧ ∀ (i : Nat) (d : D), ρ[i]? = some (some d) → ∃ v, σ[i]? = some (some v) ∧ RD K m H d v
theorem REnv.mono {K : PySem.W.Frag} {m m' : Mp} {H H' : Hp} {ρ : Env} {σ : L2.St} (e : Ext m H m' H') (h : REnv K m H ρ σ) : REnv K m' H' ρ σ :=
  ⟨h.1, fun i d q => let ⟨v, h1, h2⟩ := h.2 i d q; ⟨v, h1, RD.mono e _ _ h2⟩⟩
theorem REnv.set {K : PySem.W.Frag} {m : Mp} {H : Hp} {ρ : Env} {σ : L2.St} {d : D} {v : V} (h : REnv K m H ρ σ) (r : RD K m H d v) (i : Nat) : REnv K m H (ρ.set i (some d)) (σ.set i (some v)) := by
  refine ⟨by rw [List.length_set, List.length_set]; exact h.1, fun j e q => ?_⟩
  by_cases hj : i = j
  · subst hj
    by_cases hl : i < ρ.length
    · rw [List.getElem?_set_self hl] at q
      cases q
      exact ⟨v, List.getElem?_set_self (by rw [← h.1]; exact hl), r⟩
    · rw [List.getElem?_eq_none (by simpa using hl)] at q; cases q
  · rw [List.getElem?_set_ne hj] at q ⊢
    exact h.2 j e q
theorem REnv.unset {K : PySem.W.Frag} {m : Mp} {H : Hp} {ρ : Env} {σ : L2.St} (h : REnv K m H ρ σ) (i : Nat) (x : Option V) : REnv K m H (ρ.set i none) (σ.set i x) := by
  refine ⟨by rw [List.length_set, List.length_set]; exact h.1, fun j e q => ?_⟩
  by_cases hj : i = j
  · subst hj
    by_cases hl : i < ρ.length
    · rw [List.getElem?_set_self hl] at q; cases q
    · rw [List.getElem?_eq_none (by simpa using hl)] at q; cases q
  · rw [List.getElem?_set_ne hj] at q ⊢
    exact h.2 j e q

theorem RDo.env {K : PySem.W.Frag} {m : Mp} {H : Hp} : ∀ {ρ : Env} {σ : L2.St}, RDo K m H ρ σ → REnv K m H ρ σ
  | [], _, h => by cases h; exact ⟨rfl, fun i d e => by simp at e⟩
  | Option.none :: ρ, _, h => by
    cases h with
    | none h =>
      have r := RDo.env h
      refine ⟨by simp [r.1], fun i d e => ?_⟩
      cases i with
      | zero => simp at e
      | succ i => simpa using r.2 i d (by simpa using e)
  | Option.some x :: ρ, _, h => by
    cases h with
    | some q h =>
      have r := RDo.env h
      refine ⟨by simp [r.1], fun i d e => ?_⟩
      cases i with
      | zero => simp at e; subst e; exact ⟨_, by simp, q⟩
      | succ i => simpa using r.2 i d (by simpa using e)

/-! ### what follows -/
/-- an exception's dict -/
def ExcAt (K : PySem.W.Frag) (m : Mp) (H : Hp) (fs : List (Str × D)) (d : Option Addr) : Prop := match d with
  | some dx => fs ≠ [] ∧ ∃ gs, H dx = some (.xd gs) ∧ Out m dx ∧ RFs K m H fs gs
  | none => fs = []
def Post {α β : Type} (K : PySem.W.Frag) (R : Mp → Hp → α → β → Prop) (W : WX) (σ : L2.St) (m : Mp) (H : Hp) (r : Res α) (Q : β → Hp → Prop) : Prop := match r with
  | .ok d A' => ∀ m' H' v, Ext m H m' H' → Rel K m' A' H' → R m' H' d v → Q v H'
  | .exc C fs A' => ∀ m' H' c dx, Ext m H m' H' → Rel K m' A' H' → clsV K C = some c → ExcAt K m' H' fs dx → W c dx σ H'
  | .no => False
def PostS (K : PySem.W.Frag) (W : WX) (m : Mp) (H : Hp) (r : SRes) (D : Ends) : Prop := match r with
  | .nx ρ A' => ∀ m' H' σ', Ext m H m' H' → Rel K m' A' H' → REnv K m' H' ρ σ' → D.nx σ' H'
  | .bk ρ A' => ∀ m' H' σ', Ext m H m' H' → Rel K m' A' H' → REnv K m' H' ρ σ' → D.bk σ' H'
  | .ct ρ A' => ∀ m' H' σ', Ext m H m' H' → Rel K m' A' H' → REnv K m' H' ρ σ' → D.ct σ' H'
  | .rt d A' => ∀ m' H' v, Ext m H m' H' → Rel K m' A' H' → RD K m' H' d v → D.rt v H'
  | .exc C fs ρ A' => ∀ m' H' c dx σ', Ext m H m' H' → Rel K m' A' H' → REnv K m' H' ρ σ' → clsV K C = some c → ExcAt K m' H' fs dx → W c dx σ' H'
  | .no => False
section
variable {K : PySem.W.Frag} {W : WX} {σ : L2.St} {m m' m1 : Mp} {H H' H1 : Hp} {α β γ δ : Type}
theorem Post.mono {R : Mp → Hp → α → β → Prop} {r : Res α} {Q : β → Hp → Prop} (e : Ext m H m1 H1) (h : Post K R W σ m H r Q) : Post K R W σ m1 H1 r Q := by
  cases r with
  | ok d A' => exact fun m' H' v e' => h m' H' v (e.trans e')
  | exc C fs A' => exact fun m' H' c dx e' => h m' H' c dx (e.trans e')
  | no => exact h
theorem PostS.mono {r : SRes} {D : Ends} (e : Ext m H m1 H1) (h : PostS K W m H r D) : PostS K W m1 H1 r D := by
  cases r with
  | nx ρ A' => exact fun m' H' v e' => h m' H' v (e.trans e')
  | bk ρ A' => exact fun m' H' v e' => h m' H' v (e.trans e')
  | ct ρ A' => exact fun m' H' v e' => h m' H' v (e.trans e')
  | rt d A' => exact fun m' H' v e' => h m' H' v (e.trans e')
  | exc C fs ρ A' => exact fun m' H' c dx σ' e' => h m' H' c dx σ' (e.trans e')
  | no => exact h
theorem Post.imp {R : Mp → Hp → α → β → Prop} {r : Res α} {Q Q' : β → Hp → Prop} (h : Post K R W σ m H r Q) (q : ∀ v H', Q v H' → Q' v H') : Post K R W σ m H r Q' := by
  cases r with
  | ok d A' => exact fun m' H' v e R' r' => q _ _ (h m' H' v e R' r')
  | exc C fs A' => exact h
  | no => exact h
theorem Post.bind {R : Mp → Hp → α → β → Prop} {R2 : Mp → Hp → γ → δ → Prop} {r : Res α} {k : α → AH → Res γ} {Q : δ → Hp → Prop} (h : Post K R2 W σ m H (r.bind k) Q) :
    Post K R W σ m H r fun v H1 => ∃ m1 A1 d, Ext m H m1 H1 ∧ Rel K m1 A1 H1 ∧ R m1 H1 d v ∧ Post K R2 W σ m1 H1 (k d A1) Q := by
  cases r with
  | ok d A' => exact fun m' H' v e R' r' => ⟨m', A', d, e, R', r', Post.mono e h⟩
  | exc C fs A' => exact h
  | no => exact h
end

/-! ### judgements -/
def tE (K : PySem.W.Frag) (W : WX) (me : ME) : TE := fun σ H Q => ∃ m A ρ, Rel K m A H ∧ REnv K m H ρ σ ∧ Post K (RD K) W σ m H (me ρ A) Q
def tT (K : PySem.W.Frag) (W : WX) (me : MT) : TT := fun σ H Q => ∃ m A ρ, Rel K m A H ∧ REnv K m H ρ σ ∧ Post K (fun _ _ a b => a = b) W σ m H (me ρ A) Q
def tA (K : PySem.W.Frag) (W : WX) (me : MA) : TA := fun σ H Q => ∃ m A ρ, Rel K m A H ∧ REnv K m H ρ σ ∧ Post K (RDs K) W σ m H (me ρ A) Q
def tS (K : PySem.W.Frag) (W : WX) (ms : MS) : TS := fun D σ H => ∃ m A ρ, Rel K m A H ∧ REnv K m H ρ σ ∧ PostS K W m H (ms ρ A) D
abbrev DE (X : Cx) (W : WX) (e : Expr) (me : ME) : Prop := PE X e (tE X.K W me)
abbrev DT (X : Cx) (W : WX) (e : Expr) (me : MT) : Prop := PT X e (tT X.K W me)
abbrev DW (X : Cx) (W : WX) (e : Expr) (me : MT) : Prop := PW X e (tT X.K W me)
abbrev DA (X : Cx) (W : WX) (es : List Expr) (me : MA) : Prop := PA X es (tA X.K W me)
abbrev DS (X : Cx) (W : WX) (st : Stmt) (ms : MS) : Prop := PS X st (tS X.K W ms)
abbrev DSs (X : Cx) (W : WX) (st : List Stmt) (ms : MS) : Prop := PSs X st (tS X.K W ms)
theorem PEi {X : Cx} {e : Expr} {t t' : TE} (h : PE X e t) (q : ∀ σ H Q, t' σ H Q → t σ H Q) : PE X e t' := ⟨fun pins s σ H Q I w => h.run pins s σ H Q I (q σ H Q w)⟩
theorem PTi {X : Cx} {e : Expr} {t t' : TT} (h : PT X e t) (q : ∀ σ H Q, t' σ H Q → t σ H Q) : PT X e t' := ⟨fun pins s σ H Q I w => h.run pins s σ H Q I (q σ H Q w)⟩
theorem PWi {X : Cx} {e : Expr} {t t' : TT} (h : PW X e t) (q : ∀ σ H Q, t' σ H Q → t σ H Q) : PW X e t' := ⟨fun wh pins s σ H Q I w => h.run wh pins s σ H Q I (q σ H Q w)⟩
theorem PAi {X : Cx} {e : List Expr} {t t' : TA} (h : PA X e t) (q : ∀ σ H Q, t' σ H Q → t σ H Q) : PA X e t' := ⟨fun pos pins s σ H Q I w => h.run pos pins s σ H Q I (q σ H Q w)⟩
theorem PSi {X : Cx} {e : Stmt} {t t' : TS} (h : PS X e t) (q : ∀ D σ H, t' D σ H → t D σ H) : PS X e t' := ⟨fun pins s σ H D I w => h.run pins s σ H D I (q D σ H w)⟩
theorem PSsi {X : Cx} {e : List Stmt} {t t' : TS} (h : PSs X e t) (q : ∀ D σ H, t' D σ H → t D σ H) : PSs X e t' := ⟨fun pins s σ H D I w => h.run pins s σ H D I (q D σ H w)⟩

section
variable {K : PySem.W.Frag} {W : WX} {σ : L2.St} {m : Mp} {A : AH} {ρ : Env} {H : Hp} {α β γ : Type}
/-- first an expression, then k -/
theorem tE.bind {R2 : Mp → Hp → γ → β → Prop} {me : ME} {k : D → AH → Res γ} {Q : β → Hp → Prop} {T : V → Hp → Prop} (R : Rel K m A H) (E : REnv K m H ρ σ) (h : Post K R2 W σ m H ((me ρ A).bind k) Q)
    (q : ∀ m1 A1 d v H1, Ext m H m1 H1 → Rel K m1 A1 H1 → REnv K m1 H1 ρ σ → RD K m1 H1 d v → Post K R2 W σ m1 H1 (k d A1) Q → T v H1) : tE K W me σ H T :=
  ⟨m, A, ρ, R, E, Post.imp (Post.bind h) fun v H1 ⟨m1, A1, d, e, R1, r, p⟩ => q m1 A1 d v H1 e R1 (E.mono e) r p⟩
theorem tT.bind {R2 : Mp → Hp → γ → β → Prop} {me : MT} {k : Bool → AH → Res γ} {Q : β → Hp → Prop} {T : Bool → Hp → Prop} (R : Rel K m A H) (E : REnv K m H ρ σ) (h : Post K R2 W σ m H ((me ρ A).bind k) Q)
    (q : ∀ m1 A1 b H1, Ext m H m1 H1 → Rel K m1 A1 H1 → REnv K m1 H1 ρ σ → Post K R2 W σ m1 H1 (k b A1) Q → T b H1) : tT K W me σ H T :=
  ⟨m, A, ρ, R, E, Post.imp (Post.bind (R := fun _ _ a b => a = b) h) fun v H1 ⟨m1, A1, d, e, R1, r, p⟩ => by subst r; exact q m1 A1 _ H1 e R1 (E.mono e) p⟩
theorem tA.bind {R2 : Mp → Hp → γ → β → Prop} {me : MA} {k : List D → AH → Res γ} {Q : β → Hp → Prop} {T : List V → Hp → Prop} (R : Rel K m A H) (E : REnv K m H ρ σ) (h : Post K R2 W σ m H ((me ρ A).bind k) Q)
    (q : ∀ m1 A1 ds vs H1, Ext m H m1 H1 → Rel K m1 A1 H1 → REnv K m1 H1 ρ σ → RDs K m1 H1 ds vs → Post K R2 W σ m1 H1 (k ds A1) Q → T vs H1) : tA K W me σ H T :=
  ⟨m, A, ρ, R, E, Post.imp (Post.bind h) fun v H1 ⟨m1, A1, d, e, R1, r, p⟩ => q m1 A1 d v H1 e R1 (E.mono e) r p⟩
/-- the end: a value, nothing changed -/
theorem Post.here {R : Mp → Hp → α → β → Prop} {d : α} {v : β} {Q : β → Hp → Prop} (R1 : Rel K m A H) (r : R m H d v) (h : Post K R W σ m H (.ok d A) Q) : Q v H := h m H v (Ext.refl m H) R1 r
end
end DM
end
section
set_option maxHeartbeats 2000000
namespace DM
open PySem PySem.Spec PyProof.Rows L2
section
variable {X : Cx} {W : WX} {a b c e : Expr} {es : List Expr} {ma mb mc me : ME} {pos p : Pos}
/-! ### names, constants -/
def mVar (i : Nat) : ME := fun ρ A => match ρ[i]? with | some (some d) => .ok d A | _ => .no
def mK (d : D) : ME := fun _ A => .ok d A
theorem d_var (i : Nat) {x : Str} (hN : X.N[i]? = some x := by rfl) (hv : Vis X.env.scope x := by first | exact Or.inl rfl | exact Or.inr (Or.inl rfl) | exact Or.inr (Or.inr rfl)) (hd : (x == ("__debug__" : Str)) = false := by decide)
    (hcd : (x == ("__classdict__" : Str)) = false := by decide) : DE X W (.Name x pos) (mVar i) := PEi (pe_var hN hv hd hcd) fun σ H Q ⟨m, A, ρ, R, E, h⟩ => by
  unfold mVar at h
  split at h
  · rename_i d hd
    obtain ⟨v, h1, h2⟩ := E.2 i d hd
    exact ⟨v, h1, Post.here R h2 h⟩
  · exact h.elim
theorem d_int {i : Int} {j : Nat} : DE X W (.Constant (.int i) j pos) (mK (.int i)) := PEi pe_int fun σ H Q ⟨m, A, ρ, R, E, h⟩ => Post.here R (.int i) h
theorem d_bl {i : Bool} {j : Nat} : DE X W (.Constant (.bool i) j pos) (mK (.bl i)) := PEi pe_bl fun σ H Q ⟨m, A, ρ, R, E, h⟩ => Post.here R (.bl i) h
theorem d_non {j : Nat} : DE X W (.Constant .none j pos) (mK .non) := PEi pe_non fun σ H Q ⟨m, A, ρ, R, E, h⟩ => Post.here R .non h
theorem d_str {i : Str} {j : Nat} : DE X W (.Constant (.str i) j pos) (mK (.str i)) := PEi pe_str fun σ H Q ⟨m, A, ρ, R, E, h⟩ => Post.here R (.str i) h
/-- a module's number, text .. -/
theorem d_glob {x : Str} {d : D} {v : V} {u : Value} (hg : Gl X x) (hm : X.mg x = some u) (r : RelV v u) (q : ∀ m H, RD X.K m H d v) (hd : (x == ("__debug__" : Str)) = false := by decide) : DE X W (.Name x pos) (mK d) :=
  PEi (pe_glob hg hm r hd) fun σ H Q ⟨m, A, ρ, R, E, h⟩ => Post.here R (q m H) h

theorem d_gint {x : Str} {i : Int} {t : Tok} (hm : X.mg x = some (.int i t)) (hg : Gl X x := by rfl) (hd : (x == ("__debug__" : Str)) = false := by decide) : DE X W (.Name x pos) (mK (.int i)) := d_glob hg hm (v := .int i) ⟨t, rfl⟩ (fun _ _ => .int i) hd
/-! ### two-place operations -/
def OpD (K : PySem.W.Frag) (f : D → D → AH → Res D) (r : R2) : Prop :=
  ∀ (W : WX) (σ : L2.St) (m : Mp) (A : AH) (H : Hp) (x y : V) (d e : D) (Q : VK), Rel K m A H → RD K m H d x → RD K m H e y → Post K (RD K) W σ m H (f d e A) Q → r x y H Q
def mOp (f : D → D → AH → Res D) (ma mb : ME) : ME := fun ρ A => (ma ρ A).bind fun x A1 => (mb ρ A1).bind fun y A2 => f x y A2
theorem tOpD {K : PySem.W.Frag} {f : D → D → AH → Res D} {r : R2} (hf : OpD K f r) {σ : L2.St} {H : Hp} {Q : VK} (h : tE K W (mOp f ma mb) σ H Q) : tOp r (tE K W ma) (tE K W mb) σ H Q := by
  obtain ⟨m, A, ρ, R, E, h⟩ := h
  exact tE.bind R E h fun m1 A1 d v H1 e1 R1 E1 r1 h1 => tE.bind R1 E1 h1 fun m2 A2 d2 v2 H2 e2 R2 E2 r2 h2 => hf W σ m2 A2 H2 v v2 d d2 Q R2 (RD.mono e2 _ _ r1) r2 h2
theorem d_op {op : Operator} {f : D → D → AH → Res D} {r : R2} (ho : OpR X (binaryOp op) r) (hf : OpD X.K f r) (ha : DE X W a ma) (hb : DE X W b mb) : DE X W (.BinOp a op b pos) (mOp f ma mb) :=
  PEi (pe_op ho ha hb) fun _ _ _ h => tOpD hf h
/-- ints in -/
def fI (C : Int → Int → Prop) [∀ i j, Decidable (C i j)] (g : Int → Int → D) : D → D → AH → Res D := fun d e A => match d, e with
  | .int i, .int j => if C i j then .ok (g i j) A else .no
  | _, _ => .no
theorem fI_ok {K : PySem.W.Frag} {C C' : Int → Int → Prop} [∀ i j, Decidable (C i j)] {g : Int → Int → D} {g' : Int → Int → V} (hC : ∀ i j, C i j → C' i j) (hg : ∀ m H i j, RD K m H (g i j) (g' i j)) : OpD K (fI C g) (rI C' g') := by
  intro W σ m A H x y d e Q R hx hy h
  unfold fI at h
  split at h
  · rename_i i j
    cases hx; cases hy
    split at h
    · rename_i hc
      exact ⟨i, j, rfl, rfl, hC i j hc, Post.here R (hg m H i j) h⟩
    · exact h.elim
  · exact h.elim
def fI0 (g : Int → Int → D) : D → D → AH → Res D := fun d e A => match d, e with
  | .int i, .int j => .ok (g i j) A
  | _, _ => .no
theorem fI0_ok {K : PySem.W.Frag} {g : Int → Int → D} {g' : Int → Int → V} (hg : ∀ m H i j, RD K m H (g i j) (g' i j)) : OpD K (fI0 g) (rI0 g') := by
  intro W σ m A H x y d e Q R hx hy h
  unfold fI0 at h
  split at h
  · rename_i i j
    cases hx; cases hy
    exact ⟨i, j, rfl, rfl, Post.here R (hg m H i j) h⟩
  · exact h.elim
instance (i j : Int) : Decidable (CMul i j) := by unfold CMul; infer_instance
instance (i j : Int) : Decidable (CPow i j) := by unfold CPow; infer_instance
instance (i j : Int) : Decidable (CDiv i j) := by unfold CDiv; infer_instance
instance (i j : Int) : Decidable (CDivW i j) := by unfold CDivW; infer_instance
theorem cdw_of {i j : Int} (h : CDiv i j) : CDivW i j := wide_div (b := 30) h.1 (by have := h.1; have := h.2; omega) (by decide) (by decide)
theorem cdw_big {i j : Int} (h0 : 0 < j) (h1 : j < 1180591620717411303424) : CDivW i j := wide_div (b := 70) h0 (by omega) (by decide) (by decide)
def fSub : D → D → AH → Res D := fI0 fun i j => .int (i - j)
def fDiv : D → D → AH → Res D := fI CDivW fun i j => .int (i / j)
def fMod : D → D → AH → Res D := fI (fun _ j => 0 < j) fun i j => .int (i % j)
def fPow : D → D → AH → Res D := fI CPow fun i j => .int (i ^ j.toNat)
def fShr : D → D → AH → Res D := fI (fun _ j => 0 ≤ j) fun i j => .int (i / 2 ^ j.toNat)
def fAnd : D → D → AH → Res D := fI0 fun i j => .int (Builtin.bitAnd i j)
theorem d_sub (ha : DE X W a ma) (hb : DE X W b mb) : DE X W (.BinOp a .Sub b pos) (mOp fSub ma mb) := d_op op_sub (fI0_ok fun _ _ _ _ => .int _) ha hb
theorem d_div (ha : DE X W a ma) (hb : DE X W b mb) : DE X W (.BinOp a .FloorDiv b pos) (mOp fDiv ma mb) := d_op op_fdivW (fI_ok (fun _ _ h => h) fun _ _ _ _ => .int _) ha hb
theorem d_mod (ha : DE X W a ma) (hb : DE X W b mb) : DE X W (.BinOp a .Mod b pos) (mOp fMod ma mb) := d_op op_mod (fI_ok (fun _ _ h => h) fun _ _ _ _ => .int _) ha hb
theorem d_pow (ha : DE X W a ma) (hb : DE X W b mb) : DE X W (.BinOp a .Pow b pos) (mOp fPow ma mb) := d_op op_pow (fI_ok (fun _ _ h => h) fun _ _ _ _ => .int _) ha hb
/-! ### a new object that is a value -/
theorem Rel.there {K : PySem.W.Frag} {m : Mp} {A : AH} {H : Hp} (R : Rel K m A H) {q : Addr} (hq : q ∈ m.1) : ∃ (n : Nat) (o : AO), m.1[n]? = some q ∧ A[n]? = some o ∧ ObjR K m H o q := by
  obtain ⟨n, hn, e⟩ := List.mem_iff_getElem.mp hq
  have hA : A[n]? = some (A[n]'(by rw [← R.len]; exact hn)) := List.getElem?_eq_getElem _
  obtain ⟨a, h1, h2⟩ := R.obj n _ hA
  have h0 : m.1[n]? = some q := by rw [List.getElem?_eq_getElem hn, e]
  rw [h0] at h1; cases h1
  exact ⟨n, _, h0, hA, h2⟩
theorem ObjR.keep {K : PySem.W.Frag} {m m' : Mp} {H H' : Hp} (e : Ext m H m' H') {o : AO} {q : Addr} (hq : H' q = H q) (h : ObjR K m H o q) : ObjR K m' H' o q := ObjR.move (fun _ _ => e.get) (fun _ _ => e.out) hq h
theorem Rel.out {K : PySem.W.Frag} {m : Mp} {A : AH} {H : Hp} (R : Rel K m A H) {q : Addr} (h : H q = none) : Out m q := ⟨fun hq => by
  obtain ⟨n, o, _, _, r⟩ := R.there hq
  exact r.held h, fun hq => R.pv q hq h⟩
theorem held_keep {H H' : Hp} (k : ∀ p o, H p = some o → H' p = some o) {q : Addr} (h : H q ≠ none) : H' q ≠ none := by
  cases z : H q with
  | none => exact absurd z h
  | some u => rw [k q u z]; exact fun y => nomatch y
/-- the numbered objects as they were, something else new -/
theorem Rel.beside {K : PySem.W.Frag} {m : Mp} {A : AH} {H H' : Hp} (R : Rel K m A H) (k : ∀ p o, H p = some o → H' p = some o) : Rel K m A H' ∧ Ext m H m H' := by
  have e : Ext m H m H' := ⟨⟨[], (List.append_nil m.1).symm⟩, fun _ h => h, fun _ h => .inl h, fun _ h => .inl h, fun p o h _ => k p o h⟩
  refine ⟨⟨R.len, R.nd, fun p hp => held_keep k (R.pv p hp), fun n o hn => ?_⟩, e⟩
  obtain ⟨q, h1, h2⟩ := R.obj n o hn
  refine ⟨q, h1, h2.keep e ?_⟩
  cases z : H q with
  | none => exact absurd z h2.held
  | some u => exact k q u z
theorem Rel.new {K : PySem.W.Frag} {m : Mp} {A : AH} {H : Hp} (R : Rel K m A H) {q : Addr} (h : H q = none) (o : HO) : Rel K m A (upd H q o) ∧ Ext m H m (upd H q o) :=
  R.beside fun p u z => by rw [upd_ne (ne_of_none z h)]; exact z
/-- one of them changed -/
theorem Rel.write {K : PySem.W.Frag} {m : Mp} {A : AH} {H H' : Hp} (R : Rel K m A H) {n : Nat} {q : Addr} {o : AO} (hn : m.1[n]? = some q) (k : ∀ p u, p ≠ q → H p = some u → H' p = some u) (ho : Ext m H m H' → ObjR K m H' o q) : Rel K m (A.set n o) H' ∧ Ext m H m H' := by
  have hm : q ∈ m.1 := List.mem_of_getElem? hn
  have e : Ext m H m H' := ⟨⟨[], (List.append_nil m.1).symm⟩, fun _ h => h, fun _ h => .inl h, fun _ h => .inl h, fun p u h hp => k p u (fun z => hp (by rw [z]; exact hm)) h⟩
  refine ⟨⟨by rw [List.length_set]; exact R.len, R.nd, fun p hp z => ?_, fun j u hj => ?_⟩, e⟩
  · by_cases hpq : p = q
    · subst hpq
      exact (ho e).held z
    · cases y : H p with
      | none => exact R.pv p hp y
      | some u => rw [k p u hpq y] at z; cases z
  · by_cases hjn : n = j
    · subst hjn
      have hl : n < A.length := by rw [← R.len]; exact (List.getElem?_eq_some_iff.mp hn).1
      rw [List.getElem?_set_self hl] at hj; cases hj
      exact ⟨q, hn, ho e⟩
    · rw [List.getElem?_set_ne hjn] at hj
      obtain ⟨p, h1, h2⟩ := R.obj j u hj
      refine ⟨p, h1, h2.keep e ?_⟩
      have hpq : p ≠ q := fun z => by
        subst z
        obtain ⟨l1, e1⟩ := List.getElem?_eq_some_iff.mp h1
        obtain ⟨l2, e2⟩ := List.getElem?_eq_some_iff.mp hn
        exact hjn ((List.getElem_inj R.nd).mp (e2.trans e1.symm))
      cases z : H p with
      | none => exact absurd z h2.held
      | some w => exact k p w hpq z
/-- a new one -/
theorem Rel.push {K : PySem.W.Frag} {m : Mp} {A : AH} {H H' : Hp} (R : Rel K m A H) {q : Addr} {o : AO} (h : H q = none) (k : ∀ p u, H p = some u → H' p = some u) (ho : Ext m H (m.1 ++ [q], m.2) H' → ObjR K (m.1 ++ [q], m.2) H' o q) : Rel K (m.1 ++ [q], m.2) (A ++ [o]) H' ∧ Ext m H (m.1 ++ [q], m.2) H' := by
  have e : Ext m H (m.1 ++ [q], m.2) H' := ⟨⟨[q], rfl⟩, fun _ h => h, fun _ h => .inl h, fun p hp => (List.mem_append.mp hp).elim .inl fun z => .inr (by rw [List.mem_singleton.mp z]; exact h), fun p u z _ => k p u z⟩
  refine ⟨⟨by rw [List.length_append, List.length_append, R.len]; rfl, List.nodup_append.mpr ⟨R.nd, by simp, fun x hx y hy z => (R.out h).1 (by rw [← List.mem_singleton.mp hy, ← z]; exact hx)⟩, fun p hp => held_keep k (R.pv p hp), fun n u hn => ?_⟩, e⟩
  by_cases hl : n < A.length
  · rw [List.getElem?_append_left hl] at hn
    obtain ⟨p, h1, h2⟩ := R.obj n u hn
    refine ⟨p, e.get h1, h2.keep e ?_⟩
    cases z : H p with
    | none => exact absurd z h2.held
    | some w => exact k p w z
  · rw [List.getElem?_append_right (by omega)] at hn
    have h0 : n - A.length = 0 := by
      have := (List.getElem?_eq_some_iff.mp hn).1
      simp at this; omega
    rw [h0] at hn
    cases hn
    refine ⟨q, ?_, ho e⟩
    show (m.1 ++ [q])[n]? = some q
    rw [List.getElem?_append_right (by rw [R.len]; omega), R.len, h0]; rfl
theorem tup_new {K : PySem.W.Frag} {m : Mp} {A : AH} {H : Hp} {σ : L2.St} {ds : List D} {vs : List V} {Q : VK} (R : Rel K m A H) (r : RDs K m H ds vs) (h : Post K (RD K) W σ m H (.ok (.tup ds) A) Q) : ∀ p us, H p = none → Q (.ref p) (upd H p (plH us vs)) := fun p us hp =>
  let ⟨R1, e1⟩ := R.new hp (plH us vs)
  h m _ _ e1 R1 (.tup (.inl ⟨us, upd_same, R.out hp⟩) (RDs.mono e1 _ _ r))
theorem lst_new {K : PySem.W.Frag} {m : Mp} {A : AH} {H : Hp} {σ : L2.St} {ds : List D} {vs : List V} {Q : VK} (R : Rel K m A H) (r : RDs K m H ds vs) (h : Post K (RD K) W σ m H (.ok (.lst ds) A) Q) : ∀ p, H p = none → Q (.ref p) (upd H p (.lst vs)) := fun p hp =>
  let ⟨R1, e1⟩ := R.new hp (.lst vs)
  h m _ _ e1 R1 (.lst (.inl ⟨.inl upd_same, R.out hp⟩) (RDs.mono e1 _ _ r))
theorem ref_new {K : PySem.W.Frag} {m : Mp} {A : AH} {H : Hp} {σ : L2.St} {ds : List D} {vs : List V} {Q : VK} (R : Rel K m A H) (r : RDs K m H ds vs) (h : Post K (RD K) W σ m H (.ok (.ref A.length) (A ++ [.lst ds])) Q) : ∀ p, H p = none → Q (.ref p) (upd H p (.lst vs)) := fun p hp =>
  let ⟨R1, e1⟩ := R.push (H' := upd H p (.lst vs)) (o := .lst ds) hp (fun q u z => by rw [upd_ne (ne_of_none z hp)]; exact z) fun e => ⟨vs, upd_same, RDs.mono e _ _ r⟩
  h _ _ _ e1 R1 (.ref (by rw [← R.len]; simp))
/-! ### a + b -/
def fAdd : D → D → AH → Res D := fun d e A => match d, e with
  | .int i, .int j => .ok (.int (i + j)) A
  | .str x, .str y => if x.length + y.length ≤ 16777216 then .ok (.str (x ++ y)) A else .no
  | .tup xs, .tup ys => if xs.length + ys.length ≤ 16777216 then .ok (.tup (xs ++ ys)) A else .no
  | .lst xs, .lst ys => if xs.length + ys.length ≤ 16777216 then .ok (.lst (xs ++ ys)) A else .no
  | _, _ => .no
def rCatL (K : PySem.W.Frag) : R2 := fun x y H Q => ∃ l b xs zs, x = .ref l ∧ y = .ref b ∧ SqL K H l xs ∧ SqL K H b zs ∧ xs.length + zs.length ≤ sizeLine ∧ ∀ p, H p = none → Q (.ref p) (upd H p (.lst (xs ++ zs)))
theorem fAdd_ok {K : PySem.W.Frag} : OpD K fAdd (fun x y H Q => rI0 (fun i j => .int (i + j)) x y H Q ∨ (∃ i j, x = .str i ∧ y = .str j ∧ i.length + j.length ≤ sizeLine ∧ Q (.str (i ++ j)) H) ∨ rCatP K x y H Q ∨ rCatL K x y H Q) := by
  intro W σ m A H x y d e Q R hx hy h
  have sz : (sizeLine : Nat) = 16777216 := sizeLine_eq
  unfold fAdd at h
  split at h
  · rename_i i j
    cases hx; cases hy
    exact .inl ⟨i, j, rfl, rfl, Post.here R (.int _) h⟩
  · rename_i i j
    cases hx; cases hy
    split at h
    · rename_i hz
      exact .inr (.inl ⟨i, j, rfl, rfl, by rw [sz]; exact hz, Post.here R (.str _) h⟩)
    · exact h.elim
  · rename_i xs ys
    cases hx with
    | tup sx rx =>
      cases hy with
      | tup sy ry =>
        rename_i a vs b ws
        split at h
        · rename_i hz
          refine .inr (.inr (.inl ⟨a, b, vs, ws, rfl, rfl, sx.sq, sy.sq, by rw [sz, ← rx.length, ← ry.length]; exact hz, fun e0 => ?_, fun _ e0 => ?_, fun _ _ => tup_new R (rx.append ry) h⟩))
          · subst e0
            cases rx
            exact Post.here R (.tup sy ry) h
          · subst e0
            cases ry
            rw [List.append_nil] at h
            exact Post.here R (.tup sx rx) h
        · exact h.elim
  · rename_i xs ys
    cases hx with
    | lst sx rx =>
      cases hy with
      | lst sy ry =>
        rename_i a vs b ws
        split at h
        · rename_i hz
          exact .inr (.inr (.inr ⟨a, b, vs, ws, rfl, rfl, sx.sq, sy.sq, by rw [sz, ← rx.length, ← ry.length]; exact hz, lst_new R (rx.append ry) h⟩))
        · exact h.elim
  · exact h.elim
/-- two lists that are read, joined -/
theorem op_catL : OpR X (binaryOp .Add) (rCatL X.K) := by
  intro pins s σ H x y v u Q I rx ry h
  obtain ⟨l, b, xs, zs, rfl, rfl, hx, hz, hl, q⟩ := h
  cases rx; cases ry
  obtain ⟨i1, r1, ⟨o1, n1, g1, c1, d1, t1⟩, l1⟩ := I.list hx
  obtain ⟨i2, r2, ⟨o2, n2, g2, c2, d2, t2⟩, l2⟩ := I.list hz
  obtain ⟨oc1, od1, ot1, os1⟩ := o1
  obtain ⟨oc2, od2, ot2, os2⟩ := o2
  simp only at c1 d1 t1 c2 d2 t2
  subst c1 d1 t1 c2 d2 t2
  have e1 := r1.length
  have e2 := r2.length
  refine concat_meets ⟨_, g1, rfl⟩ ⟨_, g2, rfl⟩ noFill_list_add seq_list_add PySem.F.slot_list_add PySem.F.entry_list_add (PySem.F.args_list_add_2 _ _)
    (list_addW l b i1.toArray i2.toArray n1 n2 none none os1 os2 (by rw [List.size_toArray, List.size_toArray]; omega)) ⟨g1, g2, ?_⟩
  rw [show i1.toArray ++ i2.toArray = (i1 ++ i2).toArray by simp]
  exact ⟨.ref _, _, I.lnew (t' := s.toks) (r1.append r2) (by rw [List.length_append]; omega), rfl, q _ I.fresh⟩
end
end DM
end
section
set_option maxHeartbeats 2000000
namespace DM
open PySem PySem.Spec PyProof.Rows L2
/-! ### plain data -/
mutual
def toPy : D → Option PyData
  | .non => some .none
  | .bl b => some (.bool b)
  | .int i => some (.int i)
  | .str x => some (.str x)
  | .tup xs => (toPys xs).map .tuple
  | .qtup xs => (toPys xs).map .tuple
  | .lst xs => (toPys xs).map .list
  | .ty _ => none
  | .abs _ => none
  | .cl _ => none
  | .ref _ => none
  | .exv _ _ _ _ => none
  | .fnv _ _ _ _ _ => none
  | .fno _ => none
def toPys : List D → Option (List PyData)
  | [] => some []
  | x :: xs => match toPy x, toPys xs with
    | some d, some ds => some (d :: ds)
    | _, _ => none
end
mutual
def toPyG (g : Nat → Option PyData) : D → Option PyData
  | .non => some .none
  | .bl b => some (.bool b)
  | .int i => some (.int i)
  | .str x => some (.str x)
  | .tup xs => (toPysG g xs).map .tuple
  | .qtup xs => (toPysG g xs).map .tuple
  | .lst xs => (toPysG g xs).map .list
  | .ty _ => none
  | .abs _ => none
  | .cl _ => none
  | .ref n => g n
  | .exv _ _ _ _ => none
  | .fnv _ _ _ _ _ => none
  | .fno _ => none
def toPysG (g : Nat → Option PyData) : List D → Option (List PyData)
  | [] => some []
  | x :: xs => match toPyG g x, toPysG g xs with
    | some d, some ds => some (d :: ds)
    | _, _ => none
end
/-- changing lists, within one another k deep -/
def refPy (A : AH) : Nat → Nat → Option PyData
  | 0, _ => none
  | k + 1, n => match A[n]? with
    | some (.lst xs) => (toPysG (refPy A k) xs).map .list
    | _ => none
def toPyA (A : AH) (d : D) : Option PyData := match toPy d with
  | some p => some p
  | none => toPyG (refPy A 3) d
mutual
theorem RD.dp {K : PySem.W.Frag} {m : Mp} {H : Hp} : ∀ (d : D) (v : V) (p : PyData), RD K m H d v → toPy d = some p → Dp K H v p
  | .non, _, _, h, e => by cases h; cases e; exact .non
  | .bl b, _, _, h, e => by cases h; cases e; exact .bl b
  | .int b, _, _, h, e => by cases h; cases e; exact .int b
  | .str b, _, _, h, e => by cases h; cases e; exact .str b
  | .tup xs, _, _, h, e => by
    cases h with
    | tup s r =>
      simp only [toPy, Option.map_eq_some_iff] at e
      obtain ⟨ds, e1, rfl⟩ := e
      exact .tup s.sq (RDs.dp xs _ ds r e1)
  | .qtup xs, _, _, h, e => by
    cases h with
    | qtup s n r =>
      simp only [toPy, Option.map_eq_some_iff] at e
      obtain ⟨ds, e1, rfl⟩ := e
      exact .tup (.inl s) (RDs.dp xs _ ds r e1)
  | .lst xs, _, _, h, e => by
    cases h with
    | lst s r =>
      simp only [toPy, Option.map_eq_some_iff] at e
      obtain ⟨ds, e1, rfl⟩ := e
      exact .lst s.sq (RDs.dp xs _ ds r e1)
  | .ty _, _, _, _, e => by cases e
  | .abs _, _, _, _, e => by cases e
  | .cl _, _, _, _, e => by cases e
  | .ref _, _, _, _, e => by cases e
  | .exv _ _ _ _, _, _, _, e => by cases e
  | .fnv _ _ _ _ _, _, _, _, e => by cases e
  | .fno _, _, _, _, e => by cases e
theorem RDs.dp {K : PySem.W.Frag} {m : Mp} {H : Hp} : ∀ (ds : List D) (vs : List V) (ps : List PyData), RDs K m H ds vs → toPys ds = some ps → DpAll K H vs ps
  | [], _, _, h, e => by cases h; cases e; exact .nil
  | d :: ds, _, _, h, e => by
    cases h with
    | cons h r =>
      unfold toPys at e
      split at e
      · rename_i p ps e1 e2
        cases e
        exact .cons (RD.dp d _ p h e1) (RDs.dp ds _ ps r e2)
      · cases e
end
mutual
theorem RD.dpG {K : PySem.W.Frag} {m : Mp} {H : Hp} {g : Nat → Option PyData} (hg : ∀ n a p, m.1[n]? = some a → g n = some p → Dp K H (.ref a) p) : ∀ (d : D) (v : V) (p : PyData), RD K m H d v → toPyG g d = some p → Dp K H v p
  | .non, _, _, h, e => by cases h; cases e; exact .non
  | .bl b, _, _, h, e => by cases h; cases e; exact .bl b
  | .int b, _, _, h, e => by cases h; cases e; exact .int b
  | .str b, _, _, h, e => by cases h; cases e; exact .str b
  | .tup xs, _, _, h, e => by
    cases h with
    | tup s r =>
      simp only [toPyG, Option.map_eq_some_iff] at e
      obtain ⟨ds, e1, rfl⟩ := e
      exact .tup s.sq (RDs.dpG hg xs _ ds r e1)
  | .qtup xs, _, _, h, e => by
    cases h with
    | qtup s n r =>
      simp only [toPyG, Option.map_eq_some_iff] at e
      obtain ⟨ds, e1, rfl⟩ := e
      exact .tup (.inl s) (RDs.dpG hg xs _ ds r e1)
  | .lst xs, _, _, h, e => by
    cases h with
    | lst s r =>
      simp only [toPyG, Option.map_eq_some_iff] at e
      obtain ⟨ds, e1, rfl⟩ := e
      exact .lst s.sq (RDs.dpG hg xs _ ds r e1)
  | .ty _, _, _, _, e => by cases e
  | .abs _, _, _, _, e => by cases e
  | .cl _, _, _, _, e => by cases e
  | .ref n, _, _, h, e => by cases h with | ref hm => exact hg n _ _ hm e
  | .exv _ _ _ _, _, _, _, e => by cases e
  | .fnv _ _ _ _ _, _, _, _, e => by cases e
  | .fno _, _, _, _, e => by cases e
theorem RDs.dpG {K : PySem.W.Frag} {m : Mp} {H : Hp} {g : Nat → Option PyData} (hg : ∀ n a p, m.1[n]? = some a → g n = some p → Dp K H (.ref a) p) : ∀ (ds : List D) (vs : List V) (ps : List PyData), RDs K m H ds vs → toPysG g ds = some ps → DpAll K H vs ps
  | [], _, _, h, e => by cases h; cases e; exact .nil
  | d :: ds, _, _, h, e => by
    cases h with
    | cons h r =>
      unfold toPysG at e
      split at e
      · rename_i p ps e1 e2
        cases e
        exact .cons (RD.dpG hg d _ p h e1) (RDs.dpG hg ds _ ps r e2)
      · cases e
end
theorem refPy_ok {K : PySem.W.Frag} {m : Mp} {A : AH} {H : Hp} (R : Rel K m A H) : ∀ (k n : Nat) (a : Addr) (p : PyData), m.1[n]? = some a → refPy A k n = some p → Dp K H (.ref a) p
  | 0, _, _, _, _, e => by cases e
  | k + 1, n, a, p, hm, e => by
    unfold refPy at e
    split at e
    · rename_i xs hA
      obtain ⟨q, h1, vs, h2, r⟩ := R.obj n _ hA
      rw [hm] at h1; cases h1
      simp only [Option.map_eq_some_iff] at e
      obtain ⟨ds, e1, rfl⟩ := e
      exact .lst (.inl (.inl h2)) (RDs.dpG (refPy_ok R k) xs _ ds r e1)
    · cases e
theorem RD.dpA {K : PySem.W.Frag} {m : Mp} {A : AH} {H : Hp} {d : D} {v : V} {p : PyData} (R : Rel K m A H) (h : RD K m H d v) (e : toPyA A d = some p) : Dp K H v p := by
  unfold toPyA at e
  split at e
  · rename_i q hq
    cases e
    exact RD.dp _ _ _ h hq
  · exact RD.dpG (refPy_ok R 3) _ _ _ h e

section
variable {X : Cx} {W : WX} {a b c e : Expr} {es : List Expr} {ma mb mc me : ME} {mt mu : MT} {ms : MA} {pos p : Pos}
/-! ### comparisons -/
/-- == -/
def cEq (A : AH) (d e : D) : Option Bool := match d, e with
  | .int i, .int j => some (decide (i = j))
  | .str x, .str y => some (decide (x = y))
  | .bl x, .bl y => some (decide (x = y))
  | d, e => match toPyA A d, toPyA A e with
    | some p, some q => if SeqAt.shaped p = true ∧ SeqAt.shaped q = true then some (PyData.eqv p q) else none
    | _, _ => none
def fEq (neg : Bool) : D → D → AH → Res D := fun d e A => match cEq A d e with
  | some k => .ok (.bl (if neg then !k else k)) A
  | none => .no
theorem cEq_ok {K : PySem.W.Frag} {m : Mp} {A : AH} {H : Hp} {x y : V} {d e : D} {k : Bool} (R : Rel K m A H) (hx : RD K m H d x) (hy : RD K m H e y) (h : cEq A d e = some k) :
    (scal x y = true ∧ k = decide (x = y)) ∨ ∃ p q, Dp K H x p ∧ Dp K H y q ∧ SeqAt.shaped p = true ∧ SeqAt.shaped q = true ∧ k = PyData.eqv p q := by
  unfold cEq at h
  split at h
  · cases hx; cases hy
    cases h
    refine .inl ⟨rfl, ?_⟩
    simp
  · cases hx; cases hy
    cases h
    refine .inl ⟨rfl, ?_⟩
    simp
  · cases hx; cases hy
    cases h
    refine .inl ⟨rfl, ?_⟩
    simp
  · split at h
    · rename_i p q h1 h2
      split at h
      · rename_i hs
        cases h
        exact .inr ⟨p, q, RD.dpA R hx h1, RD.dpA R hy h2, hs.1, hs.2, rfl⟩
      · cases h
    · cases h
theorem fEq_ok {K : PySem.W.Frag} : OpD K (fEq false) (fun x y H Q => rEq x y H Q ∨ rEqD K x y H Q) := by
  intro W σ m A H x y d e Q R hx hy h
  unfold fEq at h
  split at h
  · rename_i k hk
    have q := Post.here R (.bl _) h
    rcases cEq_ok R hx hy hk with ⟨h1, rfl⟩ | ⟨p, q', h1, h2, h3, h4, rfl⟩
    · exact .inl ⟨h1, q⟩
    · exact .inr ⟨p, q', h1, h2, h3, h4, q⟩
  · exact h.elim
theorem fNe_ok {K : PySem.W.Frag} : OpD K (fEq true) (fun x y H Q => rNe x y H Q ∨ rNeD K x y H Q) := by
  intro W σ m A H x y d e Q R hx hy h
  unfold fEq at h
  split at h
  · rename_i k hk
    have q := Post.here R (.bl _) h
    rcases cEq_ok R hx hy hk with ⟨h1, rfl⟩ | ⟨p, q', h1, h2, h3, h4, rfl⟩
    · exact .inl ⟨h1, q⟩
    · exact .inr ⟨p, q', h1, h2, h3, h4, q⟩
  · exact h.elim
/-- is None -/
def isNon : D → Bool
  | .non => true
  | _ => false
def fIsN (neg : Bool) : D → D → AH → Res D := fun d e A => match e with
  | .non => .ok (.bl (if neg then !isNon d else isNon d)) A
  | _ => .no
theorem isNon_ok {K : PySem.W.Frag} {m : Mp} {H : Hp} {d : D} {x : V} (h : RD K m H d x) : isNon d = decide (x = .non) := by
  cases h <;> simp [isNon]
theorem fIsN_ok {K : PySem.W.Frag} : OpD K (fIsN false) (fun x y H Q => y = .non ∧ Q (.bl (decide (x = .non))) H) := by
  intro W σ m A H x y d e Q R hx hy h
  unfold fIsN at h
  split at h
  · cases hy
    rw [← isNon_ok hx]
    exact ⟨rfl, Post.here R (.bl _) h⟩
  · exact h.elim
theorem fNotN_ok {K : PySem.W.Frag} : OpD K (fIsN true) (fun x y H Q => y = .non ∧ Q (.bl (!decide (x = .non))) H) := by
  intro W σ m A H x y d e Q R hx hy h
  unfold fIsN at h
  split at h
  · cases hy
    rw [← isNon_ok hx]
    exact ⟨rfl, Post.here R (.bl _) h⟩
  · exact h.elim
/-- in, flat things -/
def flatD : D → Bool
  | .non => true
  | .bl _ => true
  | .int _ => true
  | .str _ => true
  | _ => false
def eqD : D → D → Bool
  | .non, .non => true
  | .bl a, .bl b => a == b
  | .bl a, .int b => (if a then 1 else 0) == b
  | .int a, .bl b => a == (if b then 1 else 0)
  | .int a, .int b => a == b
  | .str a, .str b => a == b
  | _, _ => false
theorem flat_ok {K : PySem.W.Frag} {m : Mp} {H : Hp} {d : D} {x : V} (h : RD K m H d x) : flatV x = flatD d := by cases h <;> rfl
theorem eq_ok {K : PySem.W.Frag} {m : Mp} {H : Hp} {d e : D} {x y : V} (h : RD K m H d x) (h' : RD K m H e y) : eqV x y = eqD d e := by cases h <;> cases h' <;> rfl
theorem flats_ok {K : PySem.W.Frag} {m : Mp} {H : Hp} : ∀ {ds : List D} {xs : List V}, RDs K m H ds xs → xs.all flatV = ds.all flatD
  | [], _, h => by cases h; rfl
  | d :: ds, _, h => by cases h with | cons h r => rw [List.all_cons, List.all_cons, flat_ok h, flats_ok r]
theorem ins_ok {K : PySem.W.Frag} {m : Mp} {H : Hp} {e : D} {y : V} (h' : RD K m H e y) : ∀ {ds : List D} {xs : List V}, RDs K m H ds xs → inV y xs = ds.any fun d => eqD d e
  | [], _, h => by cases h; rfl
  | d :: ds, _, h => by
    cases h with
    | cons h r =>
      have ih := ins_ok h' r
      unfold inV at ih ⊢
      rw [List.any_cons, List.any_cons, eq_ok h h', ih]
/-- the items of a list, a tuple -/
def seqOf (A : AH) (d : D) : Option (List D) := match d with
  | .tup xs => some xs
  | .lst xs => some xs
  | .ref n => match A[n]? with
    | some (.lst xs) => some xs
    | _ => none
  | _ => none
theorem seqOf_ok {K : PySem.W.Frag} {m : Mp} {A : AH} {H : Hp} {d : D} {v : V} {xs : List D} (R : Rel K m A H) (h : RD K m H d v) (e : seqOf A d = some xs) :
    ∃ a vs, v = .ref a ∧ (SqL K H a vs ∨ SqT K H a vs) ∧ RDs K m H xs vs := by
  unfold seqOf at e
  split at e
  · cases e
    cases h with
    | tup s r => exact ⟨_, _, rfl, .inr s.sq, r⟩
  · cases e
    cases h with
    | lst s r => exact ⟨_, _, rfl, .inl s.sq, r⟩
  · split at e
    · rename_i hA
      cases e
      cases h with
      | ref hm =>
        obtain ⟨q, h1, vs, h2, r⟩ := R.obj _ _ hA
        rw [hm] at h1; cases h1
        exact ⟨_, vs, rfl, .inl (.inl (.inl h2)), r⟩
    · cases e
  · cases e
def fIn (neg : Bool) : D → D → AH → Res D := fun d e A => match seqOf A e with
  | some xs => if flatD d = true ∧ xs.all flatD = true then .ok (.bl (if neg then !(xs.any fun z => eqD z d) else xs.any fun z => eqD z d)) A else .no
  | none => .no
theorem fIn_ok {K : PySem.W.Frag} (neg : Bool) : OpD K (fIn neg) (rIn K neg) := by
  intro W σ m A H x y d e Q R hx hy h
  unfold fIn at h
  split at h
  · rename_i xs hs
    split at h
    · rename_i hf
      obtain ⟨q, vs, rfl, sq, r⟩ := seqOf_ok R hy hs
      refine ⟨q, vs, rfl, sq, (flat_ok hx).trans hf.1, (flats_ok r).trans hf.2, ?_⟩
      rw [ins_ok hx r]
      exact Post.here R (.bl _) h
    · exact h.elim
  · exact h.elim
def fLt : D → D → AH → Res D := fI0 fun i j => .bl (decide (i < j))
def fLe : D → D → AH → Res D := fI0 fun i j => .bl (decide (i ≤ j))
def fGt : D → D → AH → Res D := fI0 fun i j => .bl (decide (j < i))
def fGe : D → D → AH → Res D := fI0 fun i j => .bl (decide (j ≤ i))
theorem fCmp_ok {K : PySem.W.Frag} {g : Int → Int → Bool} : OpD K (fI0 fun i j => .bl (g i j)) (rI0 fun i j => .bl (g i j)) := fI0_ok fun _ _ _ _ => .bl _
/-- a value as a test: a bool -/
def mTst (me : ME) : MT := fun ρ A => (me ρ A).bind fun d A1 => match d with
  | .bl k => .ok k A1
  | _ => .no
theorem d_cmp {op : CmpOp} {f : D → D → AH → Res D} {r : R2} (ho : OpR X (compareOp op) r) (hf : OpD X.K f r) (ha : DE X W a ma) (hb : DE X W b mb) (hm : behindInMarks op b = false := by first | exact nomark _ | rfl) : DE X W (.Compare a [op] [b] pos) (mOp f ma mb) :=
  PEi (pe_cmpR ho ha hb hm) fun _ _ _ h => tOpD hf h
theorem tTstD {K : PySem.W.Frag} {t : TE} {σ : L2.St} {H : Hp} {Q : Bool → Hp → Prop} (ht : ∀ Q' : VK, tE K W me σ H Q' → t σ H Q') (h : tT K W (mTst me) σ H Q) : t σ H fun x H' => ∃ k, x = .bl k ∧ Q k H' := by
  obtain ⟨m, A, ρ, R, E, h⟩ := h
  refine ht _ (tE.bind R E h fun m1 A1 d v H1 e1 R1 E1 r1 h1 => ?_)
  split at h1
  · cases r1
    exact ⟨_, rfl, Post.here R1 rfl h1⟩
  · exact h1.elim
theorem t_cmp {op : CmpOp} {f : D → D → AH → Res D} {r : R2} (ho : OpR X (compareOp op) r) (hf : OpD X.K f r) (ha : DE X W a ma) (hb : DE X W b mb) (hm : behindInMarks op b = false := by first | exact nomark _ | rfl) : DT X W (.Compare a [op] [b] pos) (mTst (mOp f ma mb)) :=
  PTi (pt_cmpR ho ha hb hm) fun _ _ _ h => tTstD (fun _ q => tOpD hf q) h
/-- a < b < c -/
def mChn (f g : D → D → AH → Res D) (ma mb mc : ME) : ME := fun ρ A => (ma ρ A).bind fun x A1 => (mb ρ A1).bind fun y A2 => (f x y A2).bind fun z A3 => match z with
  | .bl true => (mc ρ A3).bind fun w A4 => g y w A4
  | .bl false => .ok (.bl false) A3
  | _ => .no
/-- tests -/
theorem t_val (ha : DE X W a ma) (he : ∀ whole, isTrue a X.env whole = (do let v ← whole; standAt a.pos; holding [v] (truthy v)) := by intro _; rfl) : DT X W a (mTst ma) :=
  PTi (pt_val ha he) fun _ _ _ h => tTstD (fun _ q => q) h
def mAnd (mt mu : MT) : MT := fun ρ A => (mt ρ A).bind fun k A1 => if k = true then mu ρ A1 else .ok false A1
def mOr (mt mu : MT) : MT := fun ρ A => (mt ρ A).bind fun k A1 => if k = true then .ok true A1 else mu ρ A1
def mNot (mt : MT) : MT := fun ρ A => (mt ρ A).bind fun k A1 => .ok (!k) A1
theorem w_and1 (ha : DT X W a mt) : DW X W (.BoolOp .And [a] pos) mt := pw_and1 ha
theorem w_or1 (ha : DT X W a mt) : DW X W (.BoolOp .Or [a] pos) mt := pw_or1 ha
theorem w_and (ha : DT X W a mt) (hb : DW X W (.BoolOp .And (b :: es) pos) mu) : DW X W (.BoolOp .And (a :: b :: es) pos) (mAnd mt mu) :=
  PWi (pw_and ha hb) fun σ H Q ⟨m, A, ρ, R, E, h⟩ => tT.bind R E h fun m1 A1 k H1 e1 R1 E1 h1 => by
    cases k with
    | true => exact ⟨m1, A1, ρ, R1, E1, h1⟩
    | false => exact Post.here R1 rfl h1
theorem w_or (ha : DT X W a mt) (hb : DW X W (.BoolOp .Or (b :: es) pos) mu) : DW X W (.BoolOp .Or (a :: b :: es) pos) (mOr mt mu) :=
  PWi (pw_or ha hb) fun σ H Q ⟨m, A, ρ, R, E, h⟩ => tT.bind R E h fun m1 A1 k H1 e1 R1 E1 h1 => by
    cases k with
    | false => exact ⟨m1, A1, ρ, R1, E1, h1⟩
    | true => exact Post.here R1 rfl h1
theorem t_not (ha : DT X W a mt) : DT X W (.UnaryOp .Not a pos) (mNot mt) :=
  PTi (pt_not ha) fun σ H Q ⟨m, A, ρ, R, E, h⟩ => tT.bind R E h fun m1 A1 k H1 e1 R1 E1 h1 => Post.here R1 rfl h1
/-- as values -/
def mAndV (ma mb : ME) : ME := fun ρ A => (ma ρ A).bind fun d A1 => match d with
  | .bl true => mb ρ A1
  | .bl false => .ok (.bl false) A1
  | _ => .no
def mOrV (ma mb : ME) : ME := fun ρ A => (ma ρ A).bind fun d A1 => match d with
  | .bl true => .ok (.bl true) A1
  | .bl false => mb ρ A1
  | _ => .no
def mNotV (ma : ME) : ME := fun ρ A => (ma ρ A).bind fun d A1 => match d with
  | .bl k => .ok (.bl (!k)) A1
  | _ => .no
theorem d_one {op : BoolOp} (h : DE X W a ma) : DE X W (.BoolOp op [a] pos) ma := pe_one h
theorem d_andV (ha : DE X W a ma) (hb : DE X W (.BoolOp .And (b :: es) pos) mb) : DE X W (.BoolOp .And (a :: b :: es) pos) (mAndV ma mb) :=
  PEi (pe_and ha hb) fun σ H Q ⟨m, A, ρ, R, E, h⟩ => tE.bind R E h fun m1 A1 d v H1 e1 R1 E1 r1 h1 => by
    split at h1
    · cases r1; exact ⟨true, rfl, m1, A1, ρ, R1, E1, h1⟩
    · cases r1; exact ⟨false, rfl, Post.here R1 (.bl _) h1⟩
    · exact h1.elim
theorem d_notV (ha : DE X W a ma) : DE X W (.UnaryOp .Not a pos) (mNotV ma) :=
  PEi (pe_not ha) fun σ H Q ⟨m, A, ρ, R, E, h⟩ => tE.bind R E h fun m1 A1 d v H1 e1 R1 E1 r1 h1 => by
    split at h1
    · cases r1; exact ⟨_, rfl, Post.here R1 (.bl _) h1⟩
    · exact h1.elim
def mIf (mt : MT) (ma mb : ME) : ME := fun ρ A => (mt ρ A).bind fun k A1 => if k = true then ma ρ A1 else mb ρ A1
theorem d_if (hc : DT X W c mt) (ha : DE X W a ma) (hb : DE X W b mb) : DE X W (.IfExp c a b pos) (mIf mt ma mb) :=
  PEi (pe_ifExp hc ha hb) fun σ H Q ⟨m, A, ρ, R, E, h⟩ => tT.bind R E h fun m1 A1 k H1 e1 R1 E1 h1 => by
    cases k with
    | true => exact ⟨m1, A1, ρ, R1, E1, h1⟩
    | false => exact ⟨m1, A1, ρ, R1, E1, h1⟩
/-- - a -/
def mNeg (ma : ME) : ME := fun ρ A => (ma ρ A).bind fun d A1 => match d with
  | .int i => .ok (.int (-i)) A1
  | _ => .no
theorem d_neg (ha : DE X W a ma) : DE X W (.UnaryOp .USub a pos) (mNeg ma) :=
  PEi (pe_un un_neg ha) fun σ H Q ⟨m, A, ρ, R, E, h⟩ => tE.bind R E h fun m1 A1 d v H1 e1 R1 E1 r1 h1 => by
    split at h1
    · cases r1; exact ⟨_, rfl, Post.here R1 (.int _) h1⟩
    · exact h1.elim
/-- the comparisons one writes -/
theorem d_add (ha : DE X W a ma) (hb : DE X W b mb) : DE X W (.BinOp a .Add b pos) (mOp fAdd ma mb) := d_op (op_add.or (op_add_str.or (op_catP.or op_catL))) fAdd_ok ha hb
theorem d_eq (hu : X.A.units + 64 < cLine) (ha : DE X W a ma) (hb : DE X W b mb) : DE X W (.Compare a [.Eq] [b] pos) (mOp (fEq false) ma mb) := d_cmp (op_eq.or (op_eqD hu)) fEq_ok ha hb
theorem t_eq (hu : X.A.units + 64 < cLine) (ha : DE X W a ma) (hb : DE X W b mb) : DT X W (.Compare a [.Eq] [b] pos) (mTst (mOp (fEq false) ma mb)) := t_cmp (op_eq.or (op_eqD hu)) fEq_ok ha hb
theorem t_ne (hu : X.A.units + 64 < cLine) (ha : DE X W a ma) (hb : DE X W b mb) : DT X W (.Compare a [.NotEq] [b] pos) (mTst (mOp (fEq true) ma mb)) := t_cmp (op_ne.or (op_neD hu)) fNe_ok ha hb
theorem d_is (ha : DE X W a ma) (hb : DE X W b mb) : DE X W (.Compare a [.Is] [b] pos) (mOp (fIsN false) ma mb) := d_cmp op_isN fIsN_ok ha hb
theorem d_isnt (ha : DE X W a ma) (hb : DE X W b mb) : DE X W (.Compare a [.IsNot] [b] pos) (mOp (fIsN true) ma mb) := d_cmp op_notN fNotN_ok ha hb
theorem t_is (ha : DE X W a ma) (hb : DE X W b mb) : DT X W (.Compare a [.Is] [b] pos) (mTst (mOp (fIsN false) ma mb)) := t_cmp op_isN fIsN_ok ha hb
theorem t_isnt (ha : DE X W a ma) (hb : DE X W b mb) : DT X W (.Compare a [.IsNot] [b] pos) (mTst (mOp (fIsN true) ma mb)) := t_cmp op_notN fNotN_ok ha hb
theorem t_in (ha : DE X W a ma) (hb : DE X W b mb) (hm : behindInMarks .In b = false := by rfl) : DT X W (.Compare a [.In] [b] pos) (mTst (mOp (fIn false) ma mb)) := t_cmp op_in_seq (fIn_ok false) ha hb hm
theorem t_nin (ha : DE X W a ma) (hb : DE X W b mb) (hm : behindInMarks .NotIn b = false := by rfl) : DT X W (.Compare a [.NotIn] [b] pos) (mTst (mOp (fIn true) ma mb)) := t_cmp op_notIn_seq (fIn_ok true) ha hb hm
theorem t_lt (ha : DE X W a ma) (hb : DE X W b mb) : DT X W (.Compare a [.Lt] [b] pos) (mTst (mOp fLt ma mb)) := t_cmp op_lt fCmp_ok ha hb
theorem t_le (ha : DE X W a ma) (hb : DE X W b mb) : DT X W (.Compare a [.LtE] [b] pos) (mTst (mOp fLe ma mb)) := t_cmp op_le fCmp_ok ha hb
theorem t_gt (ha : DE X W a ma) (hb : DE X W b mb) : DT X W (.Compare a [.Gt] [b] pos) (mTst (mOp fGt ma mb)) := t_cmp op_gt fCmp_ok ha hb
theorem t_ge (ha : DE X W a ma) (hb : DE X W b mb) : DT X W (.Compare a [.GtE] [b] pos) (mTst (mOp fGe ma mb)) := t_cmp op_ge fCmp_ok ha hb
/-- a chain of two orders of ints -/
theorem chnD {K : PySem.W.Frag} {f g : D → D → AH → Res D} {r r' : R2} (hf : OpD K f r) (hg : OpD K g r') {σ : L2.St} {H : Hp} {Q : VK} (h : tE K W (mChn f g ma mb mc) σ H Q) : tChain r r' (tE K W ma) (tE K W mb) (tE K W mc) σ H Q := by
  obtain ⟨m, A, ρ, R, E, h⟩ := h
  refine tE.bind R E h fun m1 A1 d v H1 e1 R1 E1 r1 h1 => tE.bind R1 E1 h1 fun m2 A2 d2 v2 H2 e2 R2 E2 r2 h2 => ?_
  refine hf W σ m2 A2 H2 v v2 d d2 _ R2 (RD.mono e2 _ _ r1) r2 (Post.imp (Post.bind (R := RD K) h2) fun z H3 ⟨m3, A3, dz, e3, R3, rz, h3⟩ => ?_)
  split at h3
  · cases rz
    refine ⟨true, rfl, ?_⟩
    rw [if_pos rfl]
    exact tE.bind R3 (E2.mono e3) h3 fun m4 A4 d4 v4 H4 e4 R4 E4 r4 h4 => hg W σ m4 A4 H4 v2 v4 d2 d4 Q R4 (RD.mono (e3.trans e4) _ _ r2) r4 h4
  · cases rz
    refine ⟨false, rfl, ?_⟩
    rw [if_neg (by decide)]
    exact Post.here R3 (.bl _) h3
  · exact h3.elim
theorem t_chn {op op' : CmpOp} {f g : D → D → AH → Res D} {r r' : R2} (ho : OpR X (compareOp op) r) (ho' : OpR X (compareOp op') r') (hf : OpD X.K f r) (hg : OpD X.K g r') (ha : DE X W a ma) (hb : DE X W b mb) (hc : DE X W c mc) (hm : lastMarks [op, op'] [b, c] = false := by with_unfolding_all rfl) :
    DT X W (.Compare a [op, op'] [b, c] pos) (mTst (mChn f g ma mb mc)) := PTi (pt_chain ho ho' ha hb hc hm) fun _ _ _ h => tTstD (fun _ q => chnD hf hg q) h
end
end DM
end
section
set_option maxHeartbeats 2000000
namespace DM
open PySem PySem.Spec PyProof.Rows L2
section
variable {X : Cx} {W : WX} {a b c e tg : Expr} {es : List Expr} {ma mb mc me : ME} {mt mu : MT} {ms : MA} {pos p p2 : Pos}
/-! ### argument lists, displays -/
def mNil : MA := fun _ A => .ok [] A
def mCons (me : ME) (ms : MA) : MA := fun ρ A => (me ρ A).bind fun d A1 => (ms ρ A1).bind fun ds A2 => .ok (d :: ds) A2
theorem a_nil : DA X W [] mNil := PAi pa_nil fun σ H Q ⟨m, A, ρ, R, E, h⟩ => Post.here R .nil h
theorem a_cons (ha : DE X W e me) (hr : DA X W es ms) (hs : starEach (e :: es) X.env = (false, eval e X.env) :: starEach es X.env := by rfl) : DA X W (e :: es) (mCons me ms) :=
  PAi (pa_cons ha hr hs) fun σ H Q ⟨m, A, ρ, R, E, h⟩ => tE.bind R E h fun m1 A1 d v H1 e1 R1 E1 r1 h1 => tA.bind R1 E1 h1 fun m2 A2 ds vs H2 e2 R2 E2 r2 h2 => Post.here R2 (.cons (RD.mono e2 _ _ r1) r2) h2
def mTup (ms : MA) : ME := fun ρ A => (ms ρ A).bind fun ds A1 => if ds.length ≤ 1000 then .ok (.tup ds) A1 else .no
def mLst (ms : MA) : ME := fun ρ A => (ms ρ A).bind fun ds A1 => if ds.length ≤ 1000 then .ok (.lst ds) A1 else .no
/-- a list that will change -/
def mNew (ms : MA) : ME := fun ρ A => (ms ρ A).bind fun ds A1 => if ds.length ≤ 1000 then .ok (.ref A1.length) (A1 ++ [.lst ds]) else .no
theorem k1000 {ds : List D} {vs : List V} {K : PySem.W.Frag} {m : Mp} {H : Hp} (r : RDs K m H ds vs) (h : ds.length ≤ 1000) : vs.length ≤ sizeLine := by
  rw [← r.length, sizeLine_eq]; omega
theorem d_tup {x1 : Nat} (h : DA X W es ms) : DE X W (.Tuple es x1 pos) (mTup ms) :=
  PEi (pe_tupP h) fun σ H Q ⟨m, A, ρ, R, E, h⟩ => tA.bind R E h fun m1 A1 ds vs H1 e1 R1 E1 r1 h1 => by
    split at h1
    · rename_i hz
      exact ⟨k1000 r1 hz, tup_new R1 r1 h1⟩
    · exact h1.elim
theorem d_lst (h : DA X W es ms) : DE X W (.List es pos) (mLst ms) :=
  PEi (pe_lst h) fun σ H Q ⟨m, A, ρ, R, E, h⟩ => tA.bind R E h fun m1 A1 ds vs H1 e1 R1 E1 r1 h1 => by
    split at h1
    · rename_i hz
      exact ⟨k1000 r1 hz, lst_new R1 r1 h1⟩
    · exact h1.elim
theorem d_new (h : DA X W es ms) : DE X W (.List es pos) (mNew ms) :=
  PEi (pe_lst h) fun σ H Q ⟨m, A, ρ, R, E, h⟩ => tA.bind R E h fun m1 A1 ds vs H1 e1 R1 E1 r1 h1 => by
    split at h1
    · rename_i hz
      exact ⟨k1000 r1 hz, ref_new R1 r1 h1⟩
    · exact h1.elim
theorem RDs.rep {K : PySem.W.Frag} {m : Mp} {H : Hp} {ds : List D} {vs : List V} (r : RDs K m H ds vs) : ∀ n : Nat, RDs K m H (List.replicate n ds).flatten (List.replicate n vs).flatten
  | 0 => .nil
  | n + 1 => by
    rw [List.replicate_succ, List.replicate_succ, List.flatten_cons, List.flatten_cons]
    exact r.append (RDs.rep r n)
/-! ### built-ins -/
def CallD (K : PySem.W.Frag) (f : List D → AH → Res D) (r : List V → Hp → VK → Prop) : Prop :=
  ∀ (W : WX) (σ : L2.St) (m : Mp) (A : AH) (H : Hp) (xs : List V) (ds : List D) (Q : VK), Rel K m A H → RDs K m H ds xs → Post K (RD K) W σ m H (f ds A) Q → r xs H Q
def mCall (f : List D → AH → Res D) (ms : MA) : ME := fun ρ A => (ms ρ A).bind fun ds A1 => f ds A1
theorem tCB_D {K : PySem.W.Frag} {f : List D → AH → Res D} {r : List V → Hp → VK → Prop} (hf : CallD K f r) {σ : L2.St} {H : Hp} {Q : VK} (h : tE K W (mCall f ms) σ H Q) : tCB r (tA K W ms) σ H Q := by
  obtain ⟨m, A, ρ, R, E, h⟩ := h
  exact tA.bind R E h fun m1 A1 ds vs H1 e1 R1 E1 r1 h1 => hf W σ m1 A1 H1 vs ds Q R1 r1 h1
theorem d_callB {id : String} {x : Str} {f : List D → AH → Res D} {r : List V → Hp → VK → Prop} (hc : CallR X (.builtin id) r) (hf : CallD X.K f r) (hg : Gl X x) (hm : X.mg x = none) (hv : bootBuiltins x = some (.builtin id)) (ha : DA X W (e :: es) ms) (hn : x ≠ "__name__" := by decide)
    (hdb : (x == ("__debug__" : Str)) = false := by decide) (he : starEach (e :: es) X.env = (false, eval e X.env) :: starEach es X.env := by rfl) (hpl : (backTo pos (starEach es X.env)).any (·.1) = false := by rfl) :
    DE X W (.Call (.Name x p) (e :: es) [] pos) (mCall f ms) := PEi (pe_callB hc hg hm hv ha hn hdb he hpl) fun _ _ _ h => tCB_D hf h
theorem d_callTy {T : String} {x : Str} {f : List D → AH → Res D} {r : List V → Hp → VK → Prop} (hc : CallR X (.type T) r) (hf : CallD X.K f r) (hg : Gl X x) (hm : X.mg x = none) (hv : bootBuiltins x = some (.type T)) (ha : DA X W (e :: es) ms) (hn : x ≠ "__name__" := by decide)
    (hdb : (x == ("__debug__" : Str)) = false := by decide) (he : starEach (e :: es) X.env = (false, eval e X.env) :: starEach es X.env := by rfl) (hpl : (backTo pos (starEach es X.env)).any (·.1) = false := by rfl) :
    DE X W (.Call (.Name x p) (e :: es) [] pos) (mCall f ms) := PEi (pe_callTy hc hg hm hv ha hn hdb he hpl) fun _ _ _ h => tCB_D hf h
theorem RDs.one {K : PySem.W.Frag} {m : Mp} {H : Hp} {d : D} {xs : List V} (h : RDs K m H [d] xs) : ∃ v, xs = [v] ∧ RD K m H d v := by
  cases h with
  | cons h r => cases r; exact ⟨_, rfl, h⟩
/-- len -/
def fLen : List D → AH → Res D := fun ds A => match ds with
  | [.str x] => if x.length ≤ 16777216 then .ok (.int x.length) A else .no
  | [d] => match seqOf A d with
    | some xs => .ok (.int xs.length) A
    | none => .no
  | _ => .no
theorem fLen_ok {K : PySem.W.Frag} : CallD K fLen (fun xs H Q => ∃ x n, xs = [x] ∧ LenV K x H n ∧ Q (.int n) H) := by
  intro W σ m A H xs ds Q R hx h
  unfold fLen at h
  split at h
  · rename_i x
    obtain ⟨v, rfl, r⟩ := hx.one
    cases r
    split at h
    · rename_i hz
      exact ⟨.str x, x.length, rfl, ⟨by rw [sizeLine_eq]; exact hz, rfl⟩, Post.here R (.int _) h⟩
    · exact h.elim
  · rename_i d _
    obtain ⟨v, rfl, r⟩ := hx.one
    split at h
    · rename_i ys hs
      obtain ⟨q, vs, rfl, sq, rs⟩ := seqOf_ok R r hs
      refine ⟨.ref q, vs.length, rfl, ?_, ?_⟩
      · rcases sq with sq | sq
        · exact .inl ⟨vs, sq, rfl⟩
        · exact .inr ⟨vs, sq, rfl⟩
      · rw [← rs.length]
        exact Post.here R (.int _) h
    · exact h.elim
  · exact h.elim
theorem d_len (hm : X.mg "len" = none) (ha : DA X W [e] ms) (hg : Gl X "len" := by rfl) (he : starEach [e] X.env = (false, eval e X.env) :: starEach [] X.env := by rfl) (hpl : (backTo pos (starEach [] X.env)).any (·.1) = false := by rfl) :
    DE X W (.Call (.Name "len" p) [e] [] pos) (mCall fLen ms) := d_callB call_len fLen_ok hg hm PySem.boot_len ha (by decide) (by decide) he hpl
/-- int of an int, of a bool -/
def fInt : List D → AH → Res D := fun ds A => match ds with
  | [.int i] => .ok (.int i) A
  | [.bl k] => .ok (.int (if k then 1 else 0)) A
  | _ => .no
theorem fInt_ok {K : PySem.W.Frag} : CallD K fInt (fun xs H Q => (∃ i, xs = [.int i] ∧ Q (.int i) H) ∨ ∃ k, xs = [.bl k] ∧ Q (.int (if k then 1 else 0)) H) := by
  intro W σ m A H xs ds Q R hx h
  unfold fInt at h
  split at h
  · obtain ⟨v, rfl, r⟩ := hx.one
    cases r
    exact .inl ⟨_, rfl, Post.here R (.int _) h⟩
  · obtain ⟨v, rfl, r⟩ := hx.one
    cases r
    exact .inr ⟨_, rfl, Post.here R (.int _) h⟩
  · exact h.elim
theorem d_intf (hm : X.mg "int" = none) (ha : DA X W [e] ms) (hg : Gl X "int" := by rfl) (he : starEach [e] X.env = (false, eval e X.env) :: starEach [] X.env := by rfl) (hpl : (backTo pos (starEach [] X.env)).any (·.1) = false := by rfl) :
    DE X W (.Call (.Name "int" p) [e] [] pos) (mCall fInt ms) := d_callTy call_int1 fInt_ok hg hm (by decide +kernel) ha (by decide) (by decide) he hpl
def fAbs : List D → AH → Res D := fun ds A => match ds with
  | [.int i] => .ok (.int (if i < 0 then -i else i)) A
  | _ => .no
theorem fAbs_ok {K : PySem.W.Frag} : CallD K fAbs (fun xs H Q => ∃ i, xs = [.int i] ∧ Q (.int (if i < 0 then -i else i)) H) := by
  intro W σ m A H xs ds Q R hx h
  unfold fAbs at h
  split at h
  · obtain ⟨v, rfl, r⟩ := hx.one
    cases r
    exact ⟨_, rfl, Post.here R (.int _) h⟩
  · exact h.elim
theorem d_abs (hm : X.mg "abs" = none) (ha : DA X W [e] ms) (hg : Gl X "abs" := by rfl) (he : starEach [e] X.env = (false, eval e X.env) :: starEach [] X.env := by rfl) (hpl : (backTo pos (starEach [] X.env)).any (·.1) = false := by rfl) :
    DE X W (.Call (.Name "abs" p) [e] [] pos) (mCall fAbs ms) := d_callB call_abs fAbs_ok hg hm (by decide +kernel) ha (by decide) (by decide) he hpl
/-- tuple of a list, a tuple -/
def fTup : List D → AH → Res D := fun ds A => match ds with
  | [d] => match seqOf A d with
    | some xs => .ok (.tup xs) A
    | none => .no
  | _ => .no
def isTup : D → Bool
  | .tup _ => true
  | _ => false
theorem seqOf_is {K : PySem.W.Frag} {m : Mp} {A : AH} {H : Hp} {d : D} {v : V} {xs : List D} (R : Rel K m A H) (h : RD K m H d v) (e : seqOf A d = some xs) :
    ∃ a vs, v = .ref a ∧ RDs K m H xs vs ∧ ((d = .tup xs ∧ SqT K H a vs) ∨ (isTup d = false ∧ SqL K H a vs)) := by
  unfold seqOf at e
  split at e
  · cases e
    cases h with
    | tup s r => exact ⟨_, _, rfl, r, .inl ⟨rfl, s.sq⟩⟩
  · cases e
    cases h with
    | lst s r => exact ⟨_, _, rfl, r, .inr ⟨rfl, s.sq⟩⟩
  · split at e
    · rename_i hA
      cases e
      cases h with
      | ref hm =>
        obtain ⟨q, h1, vs, h2, r⟩ := R.obj _ _ hA
        rw [hm] at h1; cases h1
        exact ⟨_, vs, rfl, r, .inr ⟨rfl, .inl (.inl h2)⟩⟩
    · cases e
  · cases e
theorem fTup_ok {K : PySem.W.Frag} : CallD K fTup (fun xs H Q => ∃ p ys, xs = [.ref p] ∧ ((SqL K H p ys ∧ ∀ l us, H l = none → Q (.ref l) (upd H l (plH us ys))) ∨ (SqT K H p ys ∧ Q (.ref p) H))) := by
  intro W σ m A H xs ds Q R hx h
  unfold fTup at h
  split at h
  · rename_i d
    obtain ⟨v, rfl, r⟩ := hx.one
    split at h
    · rename_i ys hs
      obtain ⟨q, vs, rfl, rs, sq⟩ := seqOf_is R r hs
      refine ⟨q, vs, rfl, ?_⟩
      rcases sq with ⟨rfl, sq⟩ | ⟨_, sq⟩
      · exact .inr ⟨sq, Post.here R r h⟩
      · exact .inl ⟨sq, tup_new R rs h⟩
    · exact h.elim
  · exact h.elim
theorem d_tuple (hm : X.mg "tuple" = none) (ha : DA X W [e] ms) (hg : Gl X "tuple" := by rfl) (he : starEach [e] X.env = (false, eval e X.env) :: starEach [] X.env := by rfl) (hpl : (backTo pos (starEach [] X.env)).any (·.1) = false := by rfl) :
    DE X W (.Call (.Name "tuple" p) [e] [] pos) (mCall fTup ms) := d_callTy tuple_ofP fTup_ok hg hm (by decide +kernel) ha (by decide) (by decide) he hpl
/-- repr -/
def fRepr : List D → AH → Res D := fun ds A => match ds with
  | [d] => match toPyA A d with
    | some q => if q.showable = true ∧ q.shown.length ≤ 16777216 ∧ q.depth ≤ 32 then .ok (.str q.shown) A else .no
    | none => .no
  | _ => .no
def rRepr (K : PySem.W.Frag) : List V → Hp → VK → Prop := fun xs H Q => ∃ x q, xs = [x] ∧ Dp K H x q ∧ q.showable = true ∧ q.shown.length ≤ sizeLine ∧ q.depth ≤ 32 ∧ Q (.str q.shown) H
mutual
theorem Dp.noDict {K : PySem.W.Frag} {H : Hp} : ∀ (q : PyData) (x : V), Dp K H x q → q.hasDict = false
  | .none, _, _ => by simp [PyData.hasDict]
  | .bool _, _, _ => by simp [PyData.hasDict]
  | .int _, _, _ => by simp [PyData.hasDict]
  | .str _, _, _ => by simp [PyData.hasDict]
  | .list ds, _, h => by cases h with | lst s r => (simp only [PyData.hasDict]; exact DpAll.noDict ds _ r)
  | .tuple ds, _, h => by cases h with | tup s r => (simp only [PyData.hasDict]; exact DpAll.noDict ds _ r)
  | .dict _, _, h => by cases h
theorem DpAll.noDict {K : PySem.W.Frag} {H : Hp} : ∀ (qs : List PyData) (xs : List V), DpAll K H xs qs → PyData.hasDictAll qs = false
  | [], _, _ => by simp [PyData.hasDictAll]
  | q :: qs, _, h => by
    cases h with
    | cons h r => simp only [PyData.hasDictAll, Dp.noDict q _ h, DpAll.noDict qs _ r, Bool.or_self]
end
theorem call_reprD (hg : X.A.guards = some []) (hu : X.A.units + 64 < cLine) : CallR X (.builtin "repr") (rRepr X.K) := by
  intro pins s σ H xs us Q I r h
  obtain ⟨x, q, rfl, hd, hs, hz, hdep, k⟩ := h
  obtain ⟨u, rfl, ru⟩ := vals1 r
  obtain ⟨as, rd⟩ := Dp.reads I q x u hd ru
  have hn := Dp.noDict q x hd
  have fin : ∀ h' t tk, (∀ b o, s.heap.get? b = some o → h'.get? b = some o) → EP X pins σ Q (.str q.shown t) { s with heap := h', toks := tk } := fun h' t tk kp => ⟨.str q.shown, H, I.kept (t' := tk) kp, ⟨t, rfl⟩, k⟩
  cases rd with
  | none =>
    simp only [PyData.shown] at fin
    exact PySem.P.repr_of_none (fin s.heap _ _ fun _ _ z => z)
  | bool b => 
    simp only [PyData.shown] at fin
    exact PySem.P.repr_of_bool (fin s.heap _ _ fun _ _ z => z)
  | int i t =>
    simp only [PyData.shown] at fin
    exact PySem.P.repr_of_int (by simpa [PyData.showable] using hs) (fin s.heap _ _ fun _ _ z => z)
  | str y t => 
    simp only [PyData.shown] at fin
    exact PySem.P.repr_of_str (fin s.heap _ _ fun _ _ z => z) (by simpa only [PyData.shown] using hz)
  | list h1 h2 h3 h4 =>
    exact repr_of_reads' (Reads.list h1 h2 h3 h4) hs (fun z => by rw [hn] at z; cases z) hg (by omega) (fun _ _ z => z) fin hz
  | tuple h1 h2 h3 h4 =>
    exact repr_of_reads' (Reads.tuple h1 h2 h3 h4) hs (fun z => by rw [hn] at z; cases z) hg (by omega) (fun _ _ z => z) fin hz
  | dict h1 h2 h3 h4 h5 => exact repr_of_reads' (Reads.dict h1 h2 h3 h4 h5) hs (fun z => by rw [hn] at z; cases z) hg (by omega) (fun _ _ z => z) fin hz
theorem fRepr_ok {K : PySem.W.Frag} : CallD K fRepr (rRepr K) := by
  intro W σ m A H xs ds Q R hx h
  unfold fRepr at h
  split at h
  · obtain ⟨v, rfl, r⟩ := hx.one
    split at h
    · rename_i q hq
      split at h
      · rename_i hc
        exact ⟨v, q, rfl, RD.dpA R r hq, hc.1, by rw [sizeLine_eq]; exact hc.2.1, hc.2.2, Post.here R (.str _) h⟩
      · exact h.elim
    · exact h.elim
  · exact h.elim
theorem d_repr (gd : X.A.guards = some []) (hu : X.A.units + 64 < cLine) (hm : X.mg "repr" = none) (ha : DA X W [e] ms) (hg : Gl X "repr" := by rfl) (he : starEach [e] X.env = (false, eval e X.env) :: starEach [] X.env := by rfl) (hpl : (backTo pos (starEach [] X.env)).any (·.1) = false := by rfl) :
    DE X W (.Call (.Name "repr" p) [e] [] pos) (mCall fRepr ms) := d_callB (call_reprD gd hu) fRepr_ok hg hm (by decide +kernel) ha (by decide) (by decide) he hpl
end
end DM
end
section
set_option maxHeartbeats 2000000
namespace DM
open PySem PySem.Spec PyProof.Rows L2
section
variable {X : Cx} {W : WX} {a b c e tg : Expr} {es : List Expr} {ma mb mc me : ME} {mt mu : MT} {ms : MA} {pos p p2 : Pos}
/-! ### a[b] -/
def fIx : D → D → AH → Res D := fun d e A => match d, e with
  | .str z, .int i => if z.length ≤ 16777216 then (match atI z.cps.toList i with | some c => .ok (.str ⟨#[c]⟩) A | none => .no) else .no
  | d, .int i => match seqOf A d with
    | some xs => match atI xs i with
      | some v => .ok v A
      | none => .no
    | none => .no
  | _, _ => .no
theorem atI_rel {K : PySem.W.Frag} {m : Mp} {H : Hp} {xs : List D} {vs : List V} {i : Int} {d : D} (r : RDs K m H xs vs) (h : atI xs i = some d) : ∃ v, atI vs i = some v ∧ RD K m H d v := by
  unfold atI at h ⊢
  rw [← r.length]
  cases hn : ixN xs.length i with
  | none => rw [hn] at h; cases h
  | some j =>
    rw [hn] at h
    obtain ⟨v, h1, h2⟩ := r.get h
    exact ⟨v, h1, h2⟩
theorem fIx_ok {K : PySem.W.Frag} : OpD K fIx (rIx K) := by
  intro W σ m A H x y d e Q R hx hy h
  unfold fIx at h
  split at h
  · rename_i z i
    cases hx; cases hy
    split at h
    · rename_i hz
      split at h
      · rename_i c hc
        exact .inr (.inr ⟨z, i, c, rfl, rfl, by rw [sizeLine_eq]; exact hz, hc, Post.here R (.str _) h⟩)
      · exact h.elim
    · exact h.elim
  · rename_i i _
    cases hy
    split at h
    · rename_i xs hs
      obtain ⟨q, vs, rfl, rs, sq⟩ := seqOf_is R hx hs
      split at h
      · rename_i v hv
        obtain ⟨w, h1, h2⟩ := atI_rel rs hv
        have k := Post.here R h2 h
        rcases sq with ⟨_, sq⟩ | ⟨_, sq⟩
        · exact .inr (.inl ⟨q, vs, i, w, rfl, rfl, sq, h1, k⟩)
        · exact .inl ⟨q, vs, i, w, rfl, rfl, sq, h1, k⟩
      · exact h.elim
    · exact h.elim
  · exact h.elim
theorem d_ix (ha : DE X W a ma) (hb : DE X W b mb) (hs : PlainIx b := by exact fun _ _ => rfl) : DE X W (.Subscript a b pos) (mOp fIx ma mb) := PEi (pe_ix ix_seq ha hb hs) fun _ _ _ h => tOpD fIx_ok h
/-! ### slices -/
abbrev MO := Env → AH → Res (Option Int)
def tO (K : PySem.W.Frag) (W : WX) (mo : MO) : TO := fun σ H Q => ∃ m A ρ, Rel K m A H ∧ REnv K m H ρ σ ∧ Post K (fun _ _ a b => a = b) W σ m H (mo ρ A) Q
def mNone : MO := fun _ A => .ok none A
def mSome (me : ME) : MO := fun ρ A => (me ρ A).bind fun d A1 => match d with
  | .int i => .ok (some i) A1
  | _ => .no
structure DO (X : Cx) (W : WX) (e : Option Expr) (mo : MO) : Prop where
  go : PO X e (tO X.K W mo)
theorem POi {X : Cx} {e : Option Expr} {t t' : TO} (h : PO X e t) (q : ∀ σ H Q, t' σ H Q → t σ H Q) : PO X e t' := ⟨fun pins s σ H Q I w => h.run pins s σ H Q I (q σ H Q w)⟩
theorem o_none : DO X W none mNone := ⟨POi po_none fun σ H Q ⟨m, A, ρ, R, E, h⟩ => Post.here R rfl h⟩
theorem o_some (ha : DE X W e me) : DO X W (some e) (mSome me) := ⟨POi (po_some ha) fun σ H Q ⟨m, A, ρ, R, E, h⟩ => tE.bind R E h fun m1 A1 d v H1 e1 R1 E1 r1 h1 => by
  split at h1
  · cases r1; exact ⟨_, rfl, Post.here R1 rfl h1⟩
  · exact h1.elim⟩
theorem tO.bind {K : PySem.W.Frag} {σ : L2.St} {m : Mp} {A : AH} {ρ : Env} {H : Hp} {β γ : Type} {R2 : Mp → Hp → γ → β → Prop} {me : MO} {k : Option Int → AH → Res γ} {Q : β → Hp → Prop} {T : Option Int → Hp → Prop} (R : Rel K m A H) (E : REnv K m H ρ σ)
    (h : Post K R2 W σ m H ((me ρ A).bind k) Q) (q : ∀ m1 A1 b H1, Ext m H m1 H1 → Rel K m1 A1 H1 → REnv K m1 H1 ρ σ → Post K R2 W σ m1 H1 (k b A1) Q → T b H1) : tO K W me σ H T :=
  ⟨m, A, ρ, R, E, Post.imp (Post.bind (R := fun _ _ a b => a = b) h) fun v H1 ⟨m1, A1, d, e, R1, r, p⟩ => by subst r; exact q m1 A1 _ H1 e R1 (E.mono e) p⟩
def cutD (xs : List D) (lo hi : Option Int) : List D := (xs.drop (HT.sIx xs.length 0 lo)).take (HT.sIx xs.length xs.length hi - HT.sIx xs.length 0 lo)
theorem cut_rel {K : PySem.W.Frag} {m : Mp} {H : Hp} {xs : List D} {vs : List V} {lo hi : Option Int} (r : RDs K m H xs vs) : RDs K m H (cutD xs lo hi) (cutV vs lo hi) := by
  unfold cutD cutV
  rw [← r.length]
  exact (r.drop _).take _
theorem cut_whole {xs : List D} {lo hi : Option Int} (h : HT.sIx xs.length 0 lo = 0 ∧ HT.sIx xs.length xs.length hi = xs.length) : cutD xs lo hi = xs := by
  unfold cutD
  rw [h.1, h.2]
  simp
def fSl : D → Option Int → Option Int → AH → Res D := fun d lo hi A => match d with
  | .tup xs => .ok (.tup (cutD xs lo hi)) A
  | d => match seqOf A d with
    | some xs => .ok (.lst (cutD xs lo hi)) A
    | none => .no
def mSl (me : ME) (ml mh : MO) : ME := fun ρ A => (me ρ A).bind fun d A1 => (ml ρ A1).bind fun lo A2 => (mh ρ A2).bind fun hi A3 => fSl d lo hi A3
theorem d_sl {lo hi : Option Expr} {ml mh : MO} (he : DE X W e me) (hl : DO X W lo ml) (hh : DO X W hi mh) : DE X W (.Subscript e (.Slice lo hi none p2) pos) (mSl me ml mh) :=
  PEi (pe_slice (sl_tupP.or sl_list) he hl.go hh.go) fun σ H Q ⟨m, A, ρ, R, E, h⟩ => tE.bind R E h fun m1 A1 d v H1 e1 R1 E1 r1 h1 => tO.bind R1 E1 h1 fun m2 A2 l H2 e2 R2 E2 h2 => tO.bind R2 E2 h2 fun m3 A3 u H3 e3 R3 E3 h3 => by
    have r3 := RD.mono (e2.trans e3) _ _ r1
    unfold fSl at h3
    split at h3
    · rename_i xs
      have r3' := r3
      cases r3 with
      | tup s r =>
        rename_i q vs
        refine .inl ⟨q, vs, rfl, s.sq, fun hw => ?_, fun _ => tup_new R3 (cut_rel r) h3⟩
        rw [← r.length] at hw
        rw [cut_whole hw] at h3
        exact Post.here R3 r3' h3
    · rename_i d hd
      split at h3
      · rename_i xs hs
        obtain ⟨q, vs, rfl, rs, sq⟩ := seqOf_is R3 r3 hs
        rcases sq with ⟨rfl, _⟩ | ⟨_, sq⟩
        · exact (hd xs rfl).elim
        · exact .inr ⟨q, vs, rfl, sq, lst_new R3 (cut_rel rs) h3⟩
      · exact h3.elim
theorem RDs.rev {K : PySem.W.Frag} {m : Mp} {H : Hp} : ∀ {xs : List D} {vs : List V}, RDs K m H xs vs → RDs K m H xs.reverse vs.reverse
  | [], _, h => by cases h; exact .nil
  | x :: xs, _, h => by
    cases h with
    | cons h r =>
      rw [List.reverse_cons, List.reverse_cons]
      exact (RDs.rev r).append (.cons h .nil)
/-- xs[::-1] of a list, to stay or to change -/
def mRev (chg : Bool) (me : ME) : ME := fun ρ A => (me ρ A).bind fun d A1 => if isTup d = true then .no else match seqOf A1 d with
  | some xs => if chg then .ok (.ref A1.length) (A1 ++ [.lst xs.reverse]) else .ok (.lst xs.reverse) A1
  | none => .no
theorem d_rev {k : Nat} {q1 q2 q3 : Pos} (chg : Bool) (he : DE X W e me) : DE X W (.Subscript e (.Slice none none (some (.UnaryOp .USub (.Constant (.int 1) k q1) q2)) q3) pos) (mRev chg me) :=
  PEi (pe_revL he) fun σ H Q ⟨m, A, ρ, R, E, h⟩ => tE.bind R E h fun m1 A1 d v H1 e1 R1 E1 r1 h1 => by
    split at h1
    · exact h1.elim
    · rename_i hn
      split at h1
      · rename_i xs hs
        obtain ⟨q, vs, rfl, rs, sq⟩ := seqOf_is R1 r1 hs
        rcases sq with ⟨rfl, _⟩ | ⟨_, sq⟩
        · exact (hn rfl).elim
        · cases chg with
          | true => exact ⟨q, vs, rfl, sq, ref_new R1 rs.rev h1⟩
          | false => exact ⟨q, vs, rfl, sq, lst_new R1 rs.rev h1⟩
      · exact h1.elim
/-! ### methods of lists -/
def fApp : Nat → List D → AH → Res D := fun n ds A => match ds with
  | [x] => match A[n]? with
    | some (.lst xs) => if xs.length < 16777216 then .ok .non (A.set n (.lst (xs ++ [x]))) else .no
    | _ => .no
  | _ => .no
/-- a method of a changing list -/
def mMet (f : Nat → List D → AH → Res D) (mo : ME) (ms : MA) : ME := fun ρ A => (mo ρ A).bind fun d A1 => match d with
  | .ref n => (match A1[n]? with
    | some (.lst _) => (ms ρ A1).bind fun ds A2 => f n ds A2
    | _ => .no)
  | _ => .no
theorem Rel.lst {K : PySem.W.Frag} {m : Mp} {A : AH} {H : Hp} (R : Rel K m A H) {n : Nat} {q : Addr} {xs : List D} (hm : m.1[n]? = some q) (hA : A[n]? = some (.lst xs)) : ∃ vs, H q = some (.lst vs) ∧ RDs K m H xs vs := by
  obtain ⟨q2, h3, ws, h4, rw4⟩ := R.obj _ _ hA
  rw [hm] at h3; cases h3
  exact ⟨ws, h4, rw4⟩
theorem wr_lst {K : PySem.W.Frag} {m : Mp} {A : AH} {H : Hp} {σ : L2.St} {n : Nat} {q : Addr} {ds : List D} {vs : List V} {d : D} {v : V} {Q : VK} (R : Rel K m A H) (hn : m.1[n]? = some q) (r : RDs K m H ds vs) (rv : RD K m H d v)
    (h : Post K (RD K) W σ m H (.ok d (A.set n (.lst ds))) Q) : Q v (upd H q (.lst vs)) :=
  let ⟨R1, e1⟩ := R.write (H' := upd H q (.lst vs)) (o := .lst ds) hn (fun p u hp z => by rw [upd_ne hp]; exact z) fun e => ⟨vs, upd_same, RDs.mono e _ _ r⟩
  h m _ _ e1 R1 (RD.mono e1 _ _ rv)
theorem d_app {o : Expr} {mo : ME} {apos : Pos} (ho : DE X W o mo) (ha : DA X W [e] ms) (hb1 : attributeBase o "append" X.env (eval o X.env) = eval o X.env := by rfl)
    (hfew : ((backTo pos (starEach [e] X.env)).all (fun x => !x.1) && (backToKw pos (keywordEach [] X.env)).all (fun x => x.1.isSome)
      && decide ([e].length + ([] : List Keyword).length + (if ([] : List Keyword).isEmpty then 0 else 1) < 30)) = true := by rfl)
    (hline : (apos.endLine == pos.line) = true := by rfl) (hs : starEach [e] X.env = (false, eval e X.env) :: starEach [] X.env := by rfl) (hpl : (backTo pos (starEach [] X.env)).any (·.1) = false := by rfl) :
    DE X W (.Call (.Attribute o "append" apos) [e] [] pos) (mMet fApp mo ms) :=
  PEi (pe_bm PySem.F.plainAttrs_list PySem.F.slot_list_append PySem.F.type_list_append mt_append ho ha hb1 hfew hline hs hpl) fun σ H Q ⟨m, A, ρ, R, E, h⟩ => tE.bind R E h fun m1 A1 d v H1 e1 R1 E1 r1 h1 => by
    split at h1
    · rename_i n
      split at h1
      rotate_left
      · exact h1.elim
      rename_i xs0 hA0
      cases r1 with
      | ref hm =>
        rename_i q
        obtain ⟨ws, hw, _⟩ := R1.lst hm hA0
        refine ⟨.inl ⟨rfl, ws, .inl (.inl hw)⟩, tA.bind R1 E1 h1 fun m2 A2 ds vs H2 e2 R2 E2 r2 h2 => ?_⟩
        unfold fApp at h2
        split at h2
        · obtain ⟨y, rfl, ry⟩ := r2.one
          split at h2
          · rename_i xs hA
            split at h2
            · rename_i hz
              have hm2 := e2.get hm
              obtain ⟨us, h4, rw4⟩ := R2.lst hm2 hA
              exact ⟨q, us, y, rfl, rfl, h4, by rw [← rw4.length, sizeLine_eq]; exact hz, wr_lst R2 hm2 (rw4.append (.cons ry .nil)) .non h2⟩
            · exact h2.elim
          · exact h2.elim
        · exact h2.elim
    · exact h1.elim
/-- xs.pop() -/
def mPop (mo : ME) : ME := fun ρ A => (mo ρ A).bind fun d A1 => match d with
  | .ref n => match A1[n]? with
    | some (.lst xs) => match xs[xs.length - 1]? with
      | some x => .ok x (A1.set n (.lst xs.dropLast))
      | none => .no
    | _ => .no
  | _ => .no
theorem RDs.dropLast {K : PySem.W.Frag} {m : Mp} {H : Hp} {xs : List D} {vs : List V} (h : RDs K m H xs vs) : RDs K m H xs.dropLast vs.dropLast := by
  rw [List.dropLast_eq_take, List.dropLast_eq_take, ← h.length]
  exact h.take _
theorem d_pop {o : Expr} {mo : ME} {apos : Pos} (ho : DE X W o mo) (hb1 : attributeBase o "pop" X.env (eval o X.env) = eval o X.env := by rfl) (hline : (apos.endLine == pos.line) = true := by rfl) :
    DE X W (.Call (.Attribute o "pop" apos) [] [] pos) (mPop mo) :=
  PEi (pe_bm0 PySem.F.plainAttrs_list PySem.F.slot_list_pop PySem.F.type_list_pop mt_pop ho hb1 hline) fun σ H Q ⟨m, A, ρ, R, E, h⟩ => tE.bind R E h fun m1 A1 d v H1 e1 R1 E1 r1 h1 => by
    split at h1
    · rename_i n
      cases r1 with
      | ref hm =>
        rename_i q
        split at h1
        · rename_i xs hA
          split at h1
          · rename_i x hx
            obtain ⟨us, h4, rw4⟩ := R1.lst hm hA
            obtain ⟨y, h5, r5⟩ := rw4.get hx
            exact ⟨.inl ⟨rfl, us, .inl (.inl h4)⟩, q, us, y, rfl, rfl, h4, by rw [← rw4.length]; exact h5, wr_lst R1 hm rw4.dropLast r5 h1⟩
          · exact h1.elim
        · exact h1.elim
    · exact h1.elim
end
end DM
end
section
set_option maxHeartbeats 2000000
namespace DM
open PySem PySem.Spec PyProof.Rows L2
/-! ### statements -/
def lift {α : Type} (r : Res α) (ρ : Env) (k : α → AH → SRes) : SRes := match r with
  | .ok d A => k d A
  | .exc C fs A => .exc C fs ρ A
  | .no => .no
@[simp] theorem lift_ok {α : Type} (d : α) (A : AH) (ρ : Env) (k : α → AH → SRes) : lift (.ok d A) ρ k = k d A := rfl
@[simp] theorem lift_exc {α : Type} (C : Str) (fs : List (Str × D)) (A : AH) (ρ : Env) (k : α → AH → SRes) : lift (.exc C fs A) ρ k = .exc C fs ρ A := rfl
@[simp] theorem lift_no {α : Type} (ρ : Env) (k : α → AH → SRes) : lift .no ρ k = .no := rfl
section
variable {K : PySem.W.Frag} {W : WX} {σ : L2.St} {m : Mp} {A : AH} {ρ : Env} {H : Hp} {D0 : Ends}
theorem post_lift {α β : Type} {R0 : Mp → Hp → α → β → Prop} {r : Res α} {k : α → AH → SRes} {T : β → Hp → Prop} (E : REnv K m H ρ σ) (h : PostS K W m H (lift r ρ k) D0)
    (q : ∀ m1 A1 d v H1, Ext m H m1 H1 → Rel K m1 A1 H1 → R0 m1 H1 d v → PostS K W m1 H1 (k d A1) D0 → T v H1) : Post K R0 W σ m H r T := by
  cases r with
  | ok d A' => exact fun m' H' v e R' r' => q m' A' d v H' e R' r' (PostS.mono e h)
  | exc C fs A' => exact fun m' H' c dx e R' hc hx => h m' H' c dx σ e R' (E.mono e) hc hx
  | no => exact h
theorem tE.lift {me : ME} {k : D → AH → SRes} {T : V → Hp → Prop} (R : Rel K m A H) (E : REnv K m H ρ σ) (h : PostS K W m H (lift (me ρ A) ρ k) D0)
    (q : ∀ m1 A1 d v H1, Ext m H m1 H1 → Rel K m1 A1 H1 → REnv K m1 H1 ρ σ → RD K m1 H1 d v → PostS K W m1 H1 (k d A1) D0 → T v H1) : tE K W me σ H T :=
  ⟨m, A, ρ, R, E, post_lift E h fun m1 A1 d v H1 e R1 r p => q m1 A1 d v H1 e R1 (E.mono e) r p⟩
theorem tT.lift {me : MT} {k : Bool → AH → SRes} {T : Bool → Hp → Prop} (R : Rel K m A H) (E : REnv K m H ρ σ) (h : PostS K W m H (lift (me ρ A) ρ k) D0)
    (q : ∀ m1 A1 b H1, Ext m H m1 H1 → Rel K m1 A1 H1 → REnv K m1 H1 ρ σ → PostS K W m1 H1 (k b A1) D0 → T b H1) : tT K W me σ H T :=
  ⟨m, A, ρ, R, E, post_lift E h fun m1 A1 d v H1 e R1 r p => by subst r; exact q m1 A1 _ H1 e R1 (E.mono e) p⟩
theorem tA.lift {me : MA} {k : List D → AH → SRes} {T : List V → Hp → Prop} (R : Rel K m A H) (E : REnv K m H ρ σ) (h : PostS K W m H (lift (me ρ A) ρ k) D0)
    (q : ∀ m1 A1 ds vs H1, Ext m H m1 H1 → Rel K m1 A1 H1 → REnv K m1 H1 ρ σ → RDs K m1 H1 ds vs → PostS K W m1 H1 (k ds A1) D0 → T vs H1) : tA K W me σ H T :=
  ⟨m, A, ρ, R, E, post_lift E h fun m1 A1 d v H1 e R1 r p => q m1 A1 d v H1 e R1 (E.mono e) r p⟩
theorem PostS.nx (R : Rel K m A H) (E : REnv K m H ρ σ) (h : PostS K W m H (.nx ρ A) D0) : D0.nx σ H := h m H σ (Ext.refl m H) R E
theorem PostS.bk (R : Rel K m A H) (E : REnv K m H ρ σ) (h : PostS K W m H (.bk ρ A) D0) : D0.bk σ H := h m H σ (Ext.refl m H) R E
theorem PostS.ct (R : Rel K m A H) (E : REnv K m H ρ σ) (h : PostS K W m H (.ct ρ A) D0) : D0.ct σ H := h m H σ (Ext.refl m H) R E
theorem PostS.rt {d : D} {v : V} (R : Rel K m A H) (r : RD K m H d v) (h : PostS K W m H (.rt d A) D0) : D0.rt v H := h m H v (Ext.refl m H) R r
end
def mNext : MS := fun ρ A => .nx ρ A
def mSeq (a b : MS) : MS := fun ρ A => match a ρ A with
  | .nx ρ1 A1 => b ρ1 A1
  | r => r
def mDrop (me : ME) : MS := fun ρ A => lift (me ρ A) ρ fun _ A1 => .nx ρ A1
def mRet (me : ME) : MS := fun ρ A => lift (me ρ A) ρ fun d A1 => .rt d A1
def mIfS (mt : MT) (a b : MS) : MS := fun ρ A => lift (mt ρ A) ρ fun k A1 => if k = true then a ρ A1 else b ρ A1
def mSet (i : Nat) (me : ME) : MS := fun ρ A => lift (me ρ A) ρ fun d A1 => .nx (ρ.set i (some d)) A1
def mBk : MS := fun ρ A => .bk ρ A
section
variable {X : Cx} {W : WX} {a b c e tg : Expr} {es : List Expr} {st : Stmt} {sts sts' : List Stmt} {ma mb mc me : ME} {mt mu : MT} {ms : MA} {sa sb : MS} {pos p p2 : Pos}
theorem s_nil : DSs X W [] mNext := PSsi pss_nil fun D σ H ⟨m, A, ρ, R, E, h⟩ => PostS.nx R E h
/-- behind a statement, the rest -/
theorem seqD {K : PySem.W.Frag} {t : TS} {D : Ends} {σ : L2.St} {H : Hp} (hs : ∀ D' : Ends, tS K W sa D' σ H → t D' σ H) (h : tS K W (mSeq sa sb) D σ H) : tSeq t (tS K W sb) D σ H := by
  obtain ⟨m, A, ρ, R, E, h⟩ := h
  refine hs _ ⟨m, A, ρ, R, E, ?_⟩
  unfold mSeq at h
  cases hr : sa ρ A with
  | nx ρ1 A1 => rw [hr] at h; exact fun m' H' σ' e R' E' => ⟨m', A1, ρ1, R', E', PostS.mono e h⟩
  | rt d A1 => rw [hr] at h; exact h
  | bk ρ1 A1 => rw [hr] at h; exact h
  | ct ρ1 A1 => rw [hr] at h; exact h
  | exc C fs ρ1 A1 => rw [hr] at h; exact h
  | no => rw [hr] at h; exact h
theorem s_cons (h1 : DS X W st sa) (h2 : DSs X W sts sb) : DSs X W (st :: sts) (mSeq sa sb) := PSsi (pss_cons h1 h2) fun _ _ _ h => seqD (fun _ q => q) h
theorem s_one (h1 : DS X W st sa) : DSs X W [st] sa := pss_one h1
theorem s_break : DS X W (.Break pos) mBk := PSi ps_break fun D σ H ⟨m, A, ρ, R, E, h⟩ => PostS.bk R E h
theorem s_expr (he : DE X W e me) (hs : swapsWith e none pos.line X.env = pure false := by rfl) : DS X W (.Expr e pos) (mDrop me) :=
  PSi (ps_expr he hs) fun D σ H ⟨m, A, ρ, R, E, h⟩ => tE.lift R E h fun m1 A1 d v H1 e1 R1 E1 r1 h1 => PostS.nx R1 E1 h1
theorem s_ret (he : DE X W e me) : DS X W (.Return (some e) pos) (mRet me) :=
  PSi (ps_ret he) fun D σ H ⟨m, A, ρ, R, E, h⟩ => tE.lift R E h fun m1 A1 d v H1 e1 R1 E1 r1 h1 => PostS.rt R1 r1 h1
theorem s_if (hc : DT X W c mt) (ha : DSs X W sts sa) (hb : DSs X W sts' sb) : DS X W (.If c sts sts' pos) (mIfS mt sa sb) :=
  PSi (ps_if hc ha hb) fun D σ H ⟨m, A, ρ, R, E, h⟩ => tT.lift R E h fun m1 A1 k H1 e1 R1 E1 h1 => by
    cases k with
    | true => exact ⟨m1, A1, ρ, R1, E1, h1⟩
    | false => exact ⟨m1, A1, ρ, R1, E1, h1⟩
theorem setD {K : PySem.W.Frag} {t : TE} {D : Ends} {σ : L2.St} {H : Hp} {i : Nat} (ht : ∀ Q : VK, tE K W me σ H Q → t σ H Q) (h : tS K W (mSet i me) D σ H) : tAsg t (gName i) D σ H := by
  obtain ⟨m, A, ρ, R, E, h⟩ := h
  exact ht _ (tE.lift R E h fun m1 A1 d v H1 e1 R1 E1 r1 h1 => PostS.nx R1 (E1.set r1 i) h1)
theorem s_set {i : Nat} {x : Str} {pos' : Pos} (hN : X.N.Nodup) (he : DE X W e me) (hi : X.N[i]? = some x := by rfl) (hx : Loc X.env.scope x := by first | exact Or.inl rfl | exact Or.inr rfl) (hs : swapsWith e (some (.Name x pos')) pos.line X.env = pure false := by rfl)
    (hf : X.fn x = true ∨ X.env.scope.names.lookup x = some .local := by first | exact .inl rfl | exact .inr rfl | assumption) : DS X W (.Assign [.Name x pos'] e pos) (mSet i me) := PSi (ps_set hN hi hx he hs hf) fun _ _ _ h => setD (fun _ q => q) h
/-- x, y = a, b -/
def mPar2 (i j : Nat) (ms : MA) : MS := fun ρ A => lift (ms ρ A) ρ fun ds A1 => match ds with
  | [x, y] => .nx ((ρ.set i (some x)).set j (some y)) A1
  | _ => .no
def mPar3 (i j l : Nat) (ms : MA) : MS := fun ρ A => lift (ms ρ A) ρ fun ds A1 => match ds with
  | [x, y, z] => .nx (((ρ.set i (some x)).set j (some y)).set l (some z)) A1
  | _ => .no
theorem par2D {K : PySem.W.Frag} {i j : Nat} {D : Ends} {σ : L2.St} {H : Hp} (h : tS K W (mPar2 i j ms) D σ H) : tPar i j (tA K W ms) D σ H := by
  obtain ⟨m, A, ρ, R, E, h⟩ := h
  refine tA.lift R E h fun m1 A1 ds vs H1 e1 R1 E1 r1 h1 => ?_
  split at h1
  · cases r1 with
    | cons r1 q => cases q with
      | cons r2 q => cases q; exact ⟨_, _, rfl, PostS.nx R1 ((E1.set r1 i).set r2 j) h1⟩
  · exact h1.elim
/-! ### targets -/
inductive Tg where
  | nm (i : Nat) | tp (ts : List Tg)
mutual
def bindT : Tg → D → Env → Option Env
  | .nm i, d, ρ => some (ρ.set i (some d))
  | .tp ts, .tup ds, ρ => bindTs ts ds ρ
  | .tp ts, .qtup ds, ρ => bindTs ts ds ρ
  | .tp _, _, _ => none
def bindTs : List Tg → List D → Env → Option Env
  | [], [], ρ => some ρ
  | t :: ts, d :: ds, ρ => (bindT t d ρ).bind fun ρ1 => bindTs ts ds ρ1
  | _, _, _ => none
end
def outside (sl : List Nat) (σ σ' : L2.St) : Prop := σ'.length = σ.length ∧ ∀ i, i ∉ sl → σ'[i]? = σ[i]?
def GD (K : PySem.W.Frag) (sl : List Nat) (g : TG) (bt : D → Env → Option Env) : Prop :=
  ∀ (m : Mp) (H : Hp) (ρ : Env) (σ : L2.St) (d : D) (v : V) (Q : L2.St → Hp → Prop) (ρ' : Env), REnv K m H ρ σ → RD K m H d v → bt d ρ = some ρ' → (∀ σ', REnv K m H ρ' σ' → outside sl σ σ' → Q σ' H) → g v σ H Q
def GDs (K : PySem.W.Frag) (sl : List Nat) (g : TGs) (bt : List D → Env → Option Env) : Prop :=
  ∀ (m : Mp) (H : Hp) (ρ : Env) (σ : L2.St) (ds : List D) (vs : List V) (Q : L2.St → Hp → Prop) (ρ' : Env), REnv K m H ρ σ → RDs K m H ds vs → bt ds ρ = some ρ' → (∀ σ', REnv K m H ρ' σ' → outside sl σ σ' → Q σ' H) → g vs σ H Q
theorem outside.refl (sl : List Nat) (σ : L2.St) : outside sl σ σ := ⟨rfl, fun _ _ => rfl⟩
theorem outside.trans {sl : List Nat} {σ σ1 σ2 : L2.St} (a : outside sl σ σ1) (b : outside sl σ1 σ2) : outside sl σ σ2 := ⟨b.1.trans a.1, fun i hi => (b.2 i hi).trans (a.2 i hi)⟩
theorem g_nm {K : PySem.W.Frag} {sl : List Nat} {i : Nat} (hi : i ∈ sl) : GD K sl (gName i) (bindT (.nm i)) := by
  intro m H ρ σ d v Q ρ' E r hb h
  cases hb
  exact h _ (E.set r i) ⟨List.length_set .., fun j hj => List.getElem?_set_ne fun z => hj (by rw [← z]; exact hi)⟩
theorem gs_nil {K : PySem.W.Frag} {sl : List Nat} : GDs K sl gNil (bindTs []) := by
  intro m H ρ σ ds vs Q ρ' E r hb h
  cases ds with
  | nil => cases r; cases hb; exact ⟨rfl, h σ E (outside.refl sl σ)⟩
  | cons d ds => cases hb
theorem gs_cons {K : PySem.W.Frag} {sl : List Nat} {g : TG} {gs : TGs} {t : Tg} {ts : List Tg} (h1 : GD K sl g (bindT t)) (h2 : GDs K sl gs (bindTs ts)) : GDs K sl (gCons g gs) (bindTs (t :: ts)) := by
  intro m H ρ σ ds vs Q ρ' E r hb h
  cases ds with
  | nil => cases hb
  | cons d ds =>
    cases r with
    | cons r rs =>
      unfold bindTs at hb
      cases hb1 : bindT t d ρ with
      | none => rw [hb1] at hb; cases hb
      | some ρ1 =>
        rw [hb1] at hb
        exact ⟨_, _, rfl, h1 m H ρ σ d _ _ ρ1 E r hb1 fun σ1 E1 o1 => h2 m H ρ1 σ1 ds _ _ ρ' E1 rs hb fun σ2 E2 o2 => h σ2 E2 (o1.trans o2)⟩
theorem bindTs_len : ∀ (ts : List Tg) (ds : List D) (ρ ρ' : Env), bindTs ts ds ρ = some ρ' → ds.length = ts.length
  | [], [], _, _, _ => rfl
  | [], _ :: _, _, _, h => by cases h
  | t :: ts, [], _, _, h => by cases h
  | t :: ts, d :: ds, ρ, ρ', h => by
    unfold bindTs at h
    cases hb1 : bindT t d ρ with
    | none => rw [hb1] at h; cases h
    | some ρ1 =>
      rw [hb1] at h
      rw [List.length_cons, List.length_cons, bindTs_len ts ds ρ1 ρ' h]
theorem g_tp {K : PySem.W.Frag} {sl : List Nat} {gs : TGs} {ts : List Tg} {n : Nat} (hn : n = ts.length) (h1 : GDs K sl gs (bindTs ts)) : GD K sl (gTup K n gs) (bindT (.tp ts)) := by
  intro m H ρ σ d v Q ρ' E r hb h
  cases d with
  | tup ds =>
    cases r with
    | tup s r => exact ⟨_, _, rfl, s.sq, by rw [hn, ← r.length]; exact bindTs_len ts ds ρ ρ' hb, h1 m H ρ σ ds _ Q ρ' E r hb h⟩
  | qtup ds =>
    cases r with
    | qtup s n r => exact ⟨_, _, rfl, .inl s, by rw [hn, ← r.length]; exact bindTs_len ts ds ρ ρ' hb, h1 m H ρ σ ds _ Q ρ' E r hb h⟩
  | _ => cases hb
mutual
def gOf (K : PySem.W.Frag) : Tg → TG
  | .nm i => gName i
  | .tp ts => gTup K ts.length (gOfs K ts)
def gOfs (K : PySem.W.Frag) : List Tg → TGs
  | [] => gNil
  | t :: ts => gCons (gOf K t) (gOfs K ts)
end
mutual
def slots : Tg → List Nat
  | .nm i => [i]
  | .tp ts => slotss ts
def slotss : List Tg → List Nat
  | [] => []
  | t :: ts => slots t ++ slotss ts
end
mutual
theorem gOf_ok {K : PySem.W.Frag} {sl : List Nat} : ∀ t : Tg, (∀ i ∈ slots t, i ∈ sl) → GD K sl (gOf K t) (bindT t)
  | .nm i, h => by
    unfold gOf
    exact g_nm (h i (by simp [slots]))
  | .tp ts, h => by
    unfold gOf
    exact g_tp rfl (gOfs_ok ts fun i hi => h i (by simpa [slots] using hi))
theorem gOfs_ok {K : PySem.W.Frag} {sl : List Nat} : ∀ ts : List Tg, (∀ i ∈ slotss ts, i ∈ sl) → GDs K sl (gOfs K ts) (bindTs ts)
  | [], _ => by unfold gOfs; exact gs_nil
  | t :: ts, h => by
    unfold gOfs
    exact gs_cons (gOf_ok t fun i hi => h i (by simp [slotss, hi])) (gOfs_ok ts fun i hi => h i (by simp [slotss, hi]))
end
abbrev DG (X : Cx) (e : Expr) (t : Tg) : Prop := PG X e (gOf X.K t)
abbrev DGs (X : Cx) (es : List Expr) (ts : List Tg) : Prop := PGs X es (gOfs X.K ts)
theorem tg_nm {i : Nat} {x : Str} (hN : X.N.Nodup) (hi : X.N[i]? = some x := by rfl) (hx : Loc X.env.scope x := by first | exact Or.inl rfl | exact Or.inr rfl) (hf : X.fn x = true ∨ X.env.scope.names.lookup x = some .local := by first | exact .inl rfl | exact .inr rfl | assumption) :
    DG X (.Name x pos) (.nm i) := pg_name hN hi hx hf
theorem tgs_nil : DGs X [] [] := pgs_nil
theorem tgs_cons {t : Tg} {ts : List Tg} (h1 : DG X e t) (h2 : DGs X es ts) (hs : (assignEach (e :: es) X.env).map (·.2) = assign e X.env :: (assignEach es X.env).map (·.2) := by rfl) : DGs X (e :: es) (t :: ts) := pgs_cons h1 h2 hs
theorem tg_tp {ts : List Tg} {k : Nat} (hc : X.calm = true) (h : DGs X es ts) (hn : (assignEach es X.env).length = ts.length := by rfl) (hst : (assignEach es X.env).findIdx? (·.1) = none := by rfl) : DG X (.Tuple es k pos) (.tp ts) := pg_tup hc h hn hst
/-- target = e -/
def mAsg (t : Tg) (me : ME) : MS := fun ρ A => lift (me ρ A) ρ fun d A1 => match bindT t d ρ with
  | some ρ1 => .nx ρ1 A1
  | none => .no
theorem s_asg {t : Tg} (he : DE X W e me) (hg : DG X tg t) (hs : swapsWithSole [tg] e pos.line X.env = pure false := by rfl) (hw : swappedStores [tg] e X.env = pure none := by rfl) (h1 : (assignEach [tg] X.env).map (·.2) = [assign tg X.env] := by rfl) :
    DS X W (.Assign [tg] e pos) (mAsg t me) := PSi (ps_asg he hg hs hw h1) fun D σ H ⟨m, A, ρ, R, E, h⟩ => tE.lift R E h fun m1 A1 d v H1 e1 R1 E1 r1 h1 => by
  split at h1
  · rename_i ρ1 hb
    exact gOf_ok (sl := slots t) t (fun _ h => h) m1 H1 ρ σ d v _ ρ1 E1 r1 hb fun σ' E' _ => PostS.nx R1 E' h1
  · exact h1.elim
end
end DM
end
section
set_option maxHeartbeats 2000000
namespace DM
open PySem PySem.Spec PyProof.Rows L2
/-! ### what is walked -/
inductive ItV where
  | sq (d : D) | rng (lo hi : Int) | en (d : D) | zp (d e : D) | fd (n : Nat) (od : Obj) (ws : List (Key × V)) (kvs : List (Key × D))
/-- a key as data -/
def keyD : Key → D
  | .inl i => .int i
  | .inr x => .str x
/-- numbered -/
def enumD : Nat → List D → List D
  | _, [] => []
  | i, x :: xs => .qtup [.int (i : Nat), x] :: enumD (i + 1) xs
theorem enum_length : ∀ (xs : List D) (i : Nat), (enumD i xs).length = xs.length
  | [], _ => rfl
  | x :: xs, i => by rw [enumD, List.length_cons, enum_length xs, List.length_cons]
theorem enum_at : ∀ (xs : List D) (i j : Nat), (enumD i xs)[j]? = xs[j]?.map fun x => .qtup [.int ((i + j : Nat) : Int), x]
  | [], _, _ => rfl
  | x :: xs, i, 0 => rfl
  | x :: xs, i, j + 1 => by
    rw [enumD, List.getElem?_cons_succ, List.getElem?_cons_succ, enum_at xs, show i + 1 + j = i + (j + 1) by omega]
def zipD : List D → List D → List D
  | x :: xs, y :: ys => .qtup [x, y] :: zipD xs ys
  | _, _ => []
open Classical in
noncomputable def itemsOf (A : AH) : ItV → Option (List D)
  | .sq d => seqOf A d
  | .en d => (seqOf A d).map (enumD 0)
  | .zp d e => match seqOf A d, seqOf A e with
    | some xs, some ys => some (zipD xs ys)
    | _, _ => none
  | .rng lo hi => some ((List.range (hi - lo).toNat).map fun i => .int (lo + (i : Nat)))
  | .fd n od ws kvs => if A[n]? = some (.fk od ws kvs) then some (kvs.map fun kv => keyD kv.1) else none
structure Iter (K : PySem.W.Frag) (J : It) (m : Mp) (H : Hp) (iv : ItV) : Prop where
  go : ∀ (m' : Mp) (A' : AH) (H' : Hp) (all : List D) (i : Nat) (d : D), Ext m H m' H' → Rel K m' A' H' → itemsOf A' iv = some all → all[i]? = some d → J.go i H' ∧ ∀ x H'', J.yld i H' x H'' → Rel K m' A' H'' ∧ Ext m' H' m' H'' ∧ RD K m' H'' d x
  stop : ∀ (m' : Mp) (A' : AH) (H' : Hp) (all : List D) (i : Nat), Ext m H m' H' → Rel K m' A' H' → itemsOf A' iv = some all → all.length ≤ i → J.stop i H'
abbrev MI := Env → AH → Res ItV
def tI (K : PySem.W.Frag) (W : WX) (mi : MI) : TI := fun σ H Q => ∃ m A ρ, Rel K m A H ∧ REnv K m H ρ σ ∧ Post K (fun m' H' iv J => Iter K J m' H' iv) W σ m H (mi ρ A) Q
abbrev DI (X : Cx) (W : WX) (tg e : Expr) (mi : MI) : Prop := PI X tg e (tI X.K W mi)
theorem PIor {X : Cx} {tg e : Expr} {t t' u : TI} (h : PI X tg e t) (h' : PI X tg e t') (q : ∀ σ H R, u σ H R → t σ H R ∨ t' σ H R) : PI X tg e u := ⟨fun pins s σ H Q I w => (q σ H Q w).elim (h.run pins s σ H Q I) (h'.run pins s σ H Q I)⟩
theorem PIi {X : Cx} {tg e : Expr} {t u : TI} (h : PI X tg e t) (q : ∀ σ H R, u σ H R → t σ H R) : PI X tg e u := ⟨fun pins s σ H Q I w => h.run pins s σ H Q I (q σ H Q w)⟩
section
variable {X : Cx} {W : WX} {a b c e tg : Expr} {es : List Expr} {ma mb mc me : ME} {mt mu : MT} {ms : MA} {mi : MI} {sa sb : MS} {pos p p2 : Pos} {sts : List Stmt} {t : Tg}
theorem iter_list {K : PySem.W.Frag} {m : Mp} {A : AH} {H : Hp} {d : D} {q : Addr} (hd : isTup d = false) (r : RD K m H d (.ref q)) : Iter K (Itl K q) m H (.sq d) := by
  refine ⟨fun m' A' H' all i x e R hs hi => ?_, fun m' A' H' all i e R hs hl => ?_⟩
  · obtain ⟨q', vs, hq, rs, sq⟩ := seqOf_is R (RD.mono e _ _ r) hs
    cases hq
    rcases sq with ⟨rfl, _⟩ | ⟨_, sq⟩
    · cases hd
    · obtain ⟨v, h1, h2⟩ := rs.get hi
      refine ⟨⟨vs, v, sq, h1⟩, fun y H'' hy => ?_⟩
      obtain ⟨rfl, hy⟩ := hy
      have := hy vs sq
      rw [h1] at this; cases this
      exact ⟨R, Ext.refl _ _, h2⟩
  · obtain ⟨q', vs, hq, rs, sq⟩ := seqOf_is R (RD.mono e _ _ r) hs
    cases hq
    rcases sq with ⟨rfl, _⟩ | ⟨_, sq⟩
    · cases hd
    · exact ⟨vs, sq, by rw [← rs.length]; exact hl⟩
theorem iter_tup {K : PySem.W.Frag} {m : Mp} {A : AH} {H : Hp} {xs : List D} {q : Addr} (r : RD K m H (.tup xs) (.ref q)) : Iter K (Itt K q) m H (.sq (.tup xs)) := by
  refine ⟨fun m' A' H' all i x e R hs hi => ?_, fun m' A' H' all i e R hs hl => ?_⟩
  · cases hs
    cases RD.mono e _ _ r with
    | tup s rs =>
      obtain ⟨v, h1, h2⟩ := rs.get hi
      refine ⟨⟨_, v, s.sq, h1⟩, fun y H'' hy => ?_⟩
      obtain ⟨rfl, hy⟩ := hy
      have := hy _ s.sq
      rw [h1] at this; cases this
      exact ⟨R, Ext.refl _ _, h2⟩
  · cases hs
    cases RD.mono e _ _ r with
    | tup s rs => exact ⟨_, s.sq, by rw [← rs.length]; exact hl⟩
theorem iter_rng {K : PySem.W.Frag} {m : Mp} {H : Hp} {lo hi : Int} : Iter K (Itr lo (hi - lo).toNat) m H (.rng lo hi) := by
  refine ⟨fun m' A' H' all i x e R hs hx => ?_, fun m' A' H' all i e R hs hl => ?_⟩
  · cases hs
    have hlt : i < (hi - lo).toNat := by
      have := (List.getElem?_eq_some_iff.mp hx).1
      rw [List.length_map, List.length_range] at this
      exact this
    rw [List.getElem?_map, List.getElem?_range hlt] at hx
    cases hx
    refine ⟨hlt, fun y H'' hy => ?_⟩
    obtain ⟨rfl, rfl⟩ := hy
    exact ⟨R, Ext.refl _ _, .int _⟩
  · cases hs
    rw [List.length_map, List.length_range] at hl
    exact hl
def mSq (me : ME) : MI := fun ρ A => (me ρ A).bind fun d A1 => match seqOf A1 d with
  | some _ => .ok (.sq d) A1
  | none => .no
theorem i_sq (he : DE X W e me) : DI X W tg e (mSq me) := by
  refine PIor (pi_list he) (pi_tup he) fun σ H Q ⟨m, A, ρ, R, E, h⟩ => ?_
  by_cases ht : ∃ xs A1, me ρ A = .ok (.tup xs) A1
  · obtain ⟨xs, A1, ht⟩ := ht
    refine .inr ⟨m, A, ρ, R, E, ?_⟩
    have h' : Post X.K (fun m' H' iv J => Iter X.K J m' H' iv) W σ m H ((me ρ A).bind fun d A1 => match seqOf A1 d with | some _ => .ok (.sq d) A1 | none => .no) Q := h
    rw [ht] at h' ⊢
    intro m1 H1 v e1 R1 r1
    cases r1 with
    | tup s rs => exact ⟨_, rfl, ⟨_, s.sq⟩, h' m1 H1 _ e1 R1 (iter_tup (A := A1) (.tup s rs))⟩
  · refine .inl ⟨m, A, ρ, R, E, ?_⟩
    have h' : Post X.K (fun m' H' iv J => Iter X.K J m' H' iv) W σ m H ((me ρ A).bind fun d A1 => match seqOf A1 d with | some _ => .ok (.sq d) A1 | none => .no) Q := h
    cases hr : me ρ A with
    | ok d A1 =>
      rw [hr] at h'
      intro m1 H1 v e1 R1 r1
      rw [bind_ok] at h'
      split at h'
      · rename_i xs hs
        obtain ⟨q, vs, rfl, rs, sq⟩ := seqOf_is R1 r1 hs
        rcases sq with ⟨rfl, _⟩ | ⟨hd, sq⟩
        · exact (ht ⟨_, _, hr⟩).elim
        · exact ⟨q, rfl, ⟨vs, sq⟩, h' m1 H1 _ e1 R1 (iter_list (A := A1) hd r1)⟩
      · exact h'.elim
    | exc C fs A1 => rw [hr] at h'; exact h'
    | no => rw [hr] at h'; exact h'
/-- range(n), range(a, b) -/
def mR1 (ms : MA) : MI := fun ρ A => (ms ρ A).bind fun ds A1 => match ds with
  | [.int j] => if -(2 ^ 62) ≤ j ∧ j < 2 ^ 62 then .ok (.rng 0 j) A1 else .no
  | _ => .no
theorem i_r1 (hm : X.mg "range" = none) (ha : DA X W [a] ms) (hg : Gl X "range" := by rfl) (hs : starEach [a] X.env = [(false, eval a X.env)] := by rfl) : DI X W tg (.Call (.Name "range" p) [a] [] pos) (mR1 ms) :=
  PIi (pi_range1 hg hm ha hs) fun σ H Q ⟨m, A, ρ, R, E, h⟩ => tA.bind R E h fun m1 A1 ds vs H1 e1 R1 E1 r1 h1 => by
    split at h1
    · obtain ⟨v, rfl, r⟩ := r1.one
      cases r
      split at h1
      · rename_i j hj
        have z := iter_rng (K := X.K) (m := m1) (H := H1) (lo := 0) (hi := j)
        rw [Int.sub_zero] at z
        exact ⟨j, rfl, hj.1, hj.2, Post.here R1 z h1⟩
      · exact h1.elim
    · exact h1.elim
/-! ### for -/
open Classical in
noncomputable def forGo (iv : ItV) (all : List D) (t : Tg) (sb : MS) : List D → Env → AH → SRes
  | [], ρ, A => if itemsOf A iv = some all then .nx ρ A else .no
  | x :: xs, ρ, A => if itemsOf A iv = some all then (match bindT t x ρ with
    | some ρ1 => (match sb ρ1 A with
      | .nx ρ2 A2 => forGo iv all t sb xs ρ2 A2
      | .ct ρ2 A2 => forGo iv all t sb xs ρ2 A2
      | .bk ρ2 A2 => .nx ρ2 A2
      | .rt d A2 => .rt d A2
      | .exc C fs ρ2 A2 => .exc C fs ρ2 A2
      | .no => .no)
    | none => .no) else .no
noncomputable def mFor (mi : MI) (t : Tg) (sb : MS) : MS := fun ρ A => lift (mi ρ A) ρ fun iv A1 => match itemsOf A1 iv with
  | some all => forGo iv all t sb all ρ A1
  | none => .no
theorem s_for (hp : PassesOwn (model X.prog X.w) X.A X.env X.xe) (hc : X.calm = true) (hi : DI X W tg e mi) (hg : DG X tg t) (hb : DSs X W sts sb) (hs : ∀ x, foldedSetIterable e X.env x = pure x := by intro _; rfl) : DS X W (.For tg e sts [] pos) (mFor mi t sb) :=
  PSi (ps_for hp hc hi hg hb hs) fun D0 σ H ⟨m, A, ρ, R, E, h⟩ => by
    refine ⟨m, A, ρ, R, E, post_lift E h fun m1 A1 iv J H1 e1 R1 itr h1 => ?_⟩
    have E1 := E.mono e1
    split at h1
    · rename_i all hall
      refine ⟨fun i n σ' H' => n = all.length - i ∧ i ≤ all.length ∧ ∃ m' A' ρ', Ext m1 H1 m' H' ∧ Rel X.K m' A' H' ∧ REnv X.K m' H' ρ' σ' ∧ PostS X.K W m' H' (forGo iv all t sb (all.drop i) ρ' A') D0,
        ⟨all.length, by simp, Nat.zero_le _, m1, A1, ρ, Ext.refl _ _, R1, E1, by simpa using h1⟩, ?_⟩
      rintro i n σ' H' ⟨rfl, hi, m', A', ρ', e', R', E', h'⟩
      by_cases hlt : i < all.length
      · rw [List.drop_eq_getElem_cons hlt] at h'
        unfold forGo at h'
        split at h'
        · rename_i hit
          have go := itr.go m' A' H' all i _ e' R' hit (List.getElem?_eq_getElem hlt)
          refine .inr ⟨go.1, fun σ2 H2 => ∃ m2 A2 ρ2, Ext m1 H1 m2 H2 ∧ Rel X.K m2 A2 H2 ∧ REnv X.K m2 H2 ρ2 σ2 ∧ PostS X.K W m2 H2 (forGo iv all t sb (all.drop (i + 1)) ρ2 A2) D0,
            fun σ2 H2 h2 => ⟨all.length - (i + 1), by omega, rfl, hlt, h2⟩, fun x H2 hy => ?_⟩
          obtain ⟨R2, e2, rx⟩ := go.2 x H2 hy
          split at h'
          · rename_i ρ1 hb1
            refine gOf_ok (sl := slots t) t (fun _ h => h) m' H2 ρ' σ' _ x _ ρ1 (E'.mono e2) rx hb1 fun σ3 E3 _ => ⟨m', A', ρ1, R2, E3, ?_⟩
            cases hr : sb ρ1 A' with
            | nx ρ2 A2 => rw [hr] at h'; exact fun m3 H3 σ4 e3 R3 E4 => ⟨m3, A2, ρ2, (e'.trans e2).trans e3, R3, E4, PostS.mono (e2.trans e3) h'⟩
            | ct ρ2 A2 => rw [hr] at h'; exact fun m3 H3 σ4 e3 R3 E4 => ⟨m3, A2, ρ2, (e'.trans e2).trans e3, R3, E4, PostS.mono (e2.trans e3) h'⟩
            | bk ρ2 A2 => rw [hr] at h'; exact fun m3 H3 σ4 e3 R3 E4 => h' m3 H3 σ4 (e2.trans e3) R3 E4
            | rt d A2 => rw [hr] at h'; exact fun m3 H3 v e3 R3 r3 => h' m3 H3 v (e2.trans e3) R3 r3
            | exc C fs ρ2 A2 => rw [hr] at h'; exact fun m3 H3 dx gs σ4 e3 => h' m3 H3 dx gs σ4 (e2.trans e3)
            | no => rw [hr] at h'; exact h'
          · exact h'.elim
        · exact h'.elim
      · have hz : all.drop i = [] := List.drop_eq_nil_of_le (by omega)
        rw [hz] at h'
        unfold forGo at h'
        split at h'
        · rename_i hit
          exact .inl ⟨itr.stop m' A' H' all i e' R' hit (by omega), PostS.nx R' E' h'⟩
        · exact h'.elim
    · exact h1.elim
/-! ### while -/
def iterW (mt : MT) (sb : MS) : Nat → Env → AH → SRes
  | 0, _, _ => .no
  | n + 1, ρ, A => match mt ρ A with
    | .ok true A1 => (match sb ρ A1 with
      | .nx ρ2 A2 => iterW mt sb n ρ2 A2
      | .ct ρ2 A2 => iterW mt sb n ρ2 A2
      | .bk ρ2 A2 => .nx ρ2 A2
      | .rt d A2 => .rt d A2
      | .exc C fs ρ2 A2 => .exc C fs ρ2 A2
      | .no => .no)
    | .ok false A1 => .nx ρ A1
    | .exc C fs A1 => .exc C fs ρ A1
    | .no => .no
theorem iterW_more (mt : MT) (sb : MS) : ∀ (n : Nat) (ρ : Env) (A : AH), iterW mt sb n ρ A ≠ .no → iterW mt sb (n + 1) ρ A = iterW mt sb n ρ A
  | 0, _, _, h => (h rfl).elim
  | n + 1, ρ, A, h => by
    unfold iterW at h ⊢
    split
    · rename_i A1 ht
      rw [ht] at h
      simp only at h
      split
      · rename_i ρ2 A2 hb
        rw [hb] at h
        exact iterW_more mt sb n ρ2 A2 h
      · rename_i ρ2 A2 hb
        rw [hb] at h
        exact iterW_more mt sb n ρ2 A2 h
      · rfl
      · rfl
      · rfl
      · rfl
    · rfl
    · rfl
    · rfl
theorem iterW_le (mt : MT) (sb : MS) {n k : Nat} {ρ : Env} {A : AH} (h : iterW mt sb n ρ A ≠ .no) (hk : n ≤ k) : iterW mt sb k ρ A = iterW mt sb n ρ A := by
  induction k with
  | zero => cases Nat.le_zero.mp hk; rfl
  | succ k ih =>
    by_cases hz : n ≤ k
    · have q := ih hz
      rw [iterW_more mt sb k ρ A (by rw [q]; exact h), q]
    · have : n = k + 1 := by omega
      rw [this]
open Classical in
noncomputable def mWhile (mt : MT) (sb : MS) : MS := fun ρ A => if h : ∃ n, iterW mt sb n ρ A ≠ .no then iterW mt sb (Classical.choose h) ρ A else .no
theorem mWhile_eq {mt : MT} {sb : MS} {n : Nat} {ρ : Env} {A : AH} {r : SRes} (h : iterW mt sb n ρ A = r) (hr : r ≠ .no) : mWhile mt sb ρ A = r := by
  have hx : ∃ n, iterW mt sb n ρ A ≠ .no := ⟨n, by rw [h]; exact hr⟩
  unfold mWhile
  rw [dif_pos hx]
  have hs := Classical.choose_spec hx
  rcases Nat.le_total n (Classical.choose hx) with hle | hle
  · rw [iterW_le mt sb (by rw [h]; exact hr) hle, h]
  · rw [← iterW_le mt sb hs hle, h]
theorem s_while (hp : PassesOwn (model X.prog X.w) X.A X.env X.xe) (hc : DT X W c mt) (hb : DSs X W sts sb) : DS X W (.While c sts [] pos) (mWhile mt sb) :=
  PSi (ps_while hp hc hb) fun D0 σ H ⟨m, A, ρ, R, E, h⟩ => by
    unfold mWhile at h
    split at h
    · rename_i hx
      refine ⟨fun n σ' H' => ∃ m' A' ρ', Rel X.K m' A' H' ∧ REnv X.K m' H' ρ' σ' ∧ PostS X.K W m' H' (iterW mt sb n ρ' A') D0, ⟨_, m, A, ρ, R, E, h⟩, ?_⟩
      rintro n σ' H' ⟨m', A', ρ', R', E', h'⟩
      cases n with
      | zero => exact h'.elim
      | succ n =>
        unfold iterW at h'
        refine ⟨m', A', ρ', R', E', ?_⟩
        cases ht : mt ρ' A' with
        | ok k A1 =>
          rw [ht] at h'
          intro m1 H1 b e1 R1 hb
          subst hb
          have E1 := E'.mono e1
          cases k with
          | true =>
            rw [if_pos rfl]
            refine ⟨fun σ2 H2 => ∃ m2 A2 ρ2, Rel X.K m2 A2 H2 ∧ REnv X.K m2 H2 ρ2 σ2 ∧ PostS X.K W m2 H2 (iterW mt sb n ρ2 A2) D0, fun σ2 H2 h2 => ⟨n, Nat.lt_succ_self n, h2⟩, m1, A1, ρ', R1, E1, ?_⟩
            simp only at h'
            cases hr : sb ρ' A1 with
            | nx ρ2 A2 => rw [hr] at h'; exact fun m3 H3 σ4 e3 R3 E4 => ⟨m3, A2, ρ2, R3, E4, PostS.mono (e1.trans e3) h'⟩
            | ct ρ2 A2 => rw [hr] at h'; exact fun m3 H3 σ4 e3 R3 E4 => ⟨m3, A2, ρ2, R3, E4, PostS.mono (e1.trans e3) h'⟩
            | bk ρ2 A2 => rw [hr] at h'; exact fun m3 H3 σ4 e3 R3 E4 => h' m3 H3 σ4 (e1.trans e3) R3 E4
            | rt d A2 => rw [hr] at h'; exact fun m3 H3 v e3 R3 r3 => h' m3 H3 v (e1.trans e3) R3 r3
            | exc C fs ρ2 A2 => rw [hr] at h'; exact fun m3 H3 dx gs σ4 e3 => h' m3 H3 dx gs σ4 (e1.trans e3)
            | no => rw [hr] at h'; exact h'
          | false =>
            rw [if_neg (by decide)]
            exact PostS.nx R1 E1 (PostS.mono e1 h')
        | exc C fs A1 =>
          rw [ht] at h'
          exact fun m1 H1 dx gs e1 R1 hd hf => h' m1 H1 dx gs σ' e1 R1 (E'.mono e1) hd hf
        | no => rw [ht] at h'; exact h'
    · exact h.elim
end
end DM
end
section
set_option maxHeartbeats 2000000
namespace DM
open PySem PySem.Spec PyProof.Rows L2
/-! ### comprehensions -/
def wipeD (ρ : Env) : List Nat → Env
  | [] => ρ
  | v :: vs => (wipeD ρ vs).set v none
theorem REnv.wipe {K : PySem.W.Frag} {m : Mp} {H : Hp} {ρ : Env} {σ : L2.St} (h : REnv K m H ρ σ) : ∀ vs : List Nat, REnv K m H (wipeD ρ vs) (L2.wipe σ vs)
  | [] => h
  | v :: vs => (REnv.wipe h vs).unset v none
theorem wipe_at {σ : L2.St} {i : Nat} : ∀ {vs : List Nat}, (L2.wipe σ vs)[i]? = if i ∈ vs then (if i < σ.length then some none else none) else σ[i]?
  | [] => by simp [L2.wipe]
  | v :: vs => by
    unfold L2.wipe
    have ih := wipe_at (σ := σ) (i := i) (vs := vs)
    have hl := L2.wipe_length σ vs
    by_cases hv : v = i
    · subst hv
      by_cases hl2 : v < σ.length
      · rw [List.getElem?_set_self (by rw [hl]; exact hl2)]
        simp [hl2]
      · rw [List.getElem?_eq_none (by rw [List.length_set, hl]; omega)]
        simp [hl2]
    · rw [List.getElem?_set_ne hv, ih]
      have : (i ∈ v :: vs) ↔ i ∈ vs := by simp [Ne.symm hv]
      simp only [this]
theorem wipe_same {σ σ2 : L2.St} {vs sl : List Nat} (h : outside sl (L2.wipe σ vs) σ2) (hs : ∀ i ∈ sl, i ∈ vs) : L2.wipe σ2 vs = L2.wipe σ vs := by
  have hl : σ2.length = σ.length := h.1.trans (L2.wipe_length σ vs)
  refine List.ext_getElem? fun i => ?_
  rw [wipe_at, wipe_at]
  by_cases hi : i ∈ vs
  · rw [if_pos hi, if_pos hi, hl]
  · rw [if_neg hi, if_neg hi, h.2 i fun z => hi (hs i z), wipe_at, if_neg hi]
theorem RD.less {K : PySem.W.Frag} {m m' : Mp} {H : Hp} (h1 : m'.1 = m.1) (h2 : ∀ p ∈ m'.2, p ∈ m.2) (d : D) (v : V) (h : RD K m H d v) : RD K m' H d v :=
  RD.move (fun i a e => by rw [h1]; exact e) (fun a o e n => ⟨e, fun y => n.1 (by rw [← h1]; exact y), fun y => n.2 (h2 _ y)⟩) d v h
theorem RDs.less {K : PySem.W.Frag} {m m' : Mp} {H : Hp} (h1 : m'.1 = m.1) (h2 : ∀ p ∈ m'.2, p ∈ m.2) (d : List D) (v : List V) (h : RDs K m H d v) : RDs K m' H d v :=
  RDs.move (fun i a e => by rw [h1]; exact e) (fun a o e n => ⟨e, fun y => n.1 (by rw [← h1]; exact y), fun y => n.2 (h2 _ y)⟩) d v h
theorem grow_r {m : Mp} {pv : List Addr} {q : Addr} (i : Nat) (a : Addr) (h : m.1[i]? = some a) : (m.1 ++ [q], pv).1[i]? = some a := by
  show (m.1 ++ [q])[i]? = _
  rw [List.getElem?_append_left (List.getElem?_eq_some_iff.mp h).1]; exact h
theorem grow_o {m : Mp} {pv : List Addr} {q : Addr} {H : Hp} (hq : q ∈ m.2) (h2 : ∀ p ∈ pv, p ∈ m.2) (a : Addr) (o : HO) (e : H a = some o) (n : Out m a) : H a = some o ∧ Out (m.1 ++ [q], pv) a := by
  refine ⟨e, fun y => ?_, fun y => n.2 (h2 _ y)⟩
  rcases List.mem_append.mp y with y | y
  · exact n.1 y
  · exact n.2 (by rw [List.mem_singleton.mp y]; exact hq)
theorem RD.grow {K : PySem.W.Frag} {m : Mp} {pv : List Addr} {q : Addr} {H : Hp} (hq : q ∈ m.2) (h2 : ∀ p ∈ pv, p ∈ m.2) (d : D) (v : V) (h : RD K m H d v) : RD K (m.1 ++ [q], pv) H d v := RD.move grow_r (grow_o hq h2) d v h
theorem RDs.grow {K : PySem.W.Frag} {m : Mp} {pv : List Addr} {q : Addr} {H : Hp} (hq : q ∈ m.2) (h2 : ∀ p ∈ pv, p ∈ m.2) (d : List D) (v : List V) (h : RDs K m H d v) : RDs K (m.1 ++ [q], pv) H d v := RDs.move grow_r (grow_o hq h2) d v h
theorem Rel.less {K : PySem.W.Frag} {m m' : Mp} {A : AH} {H : Hp} (h1 : m'.1 = m.1) (h2 : ∀ p ∈ m'.2, p ∈ m.2) (R : Rel K m A H) : Rel K m' A H := by
  refine ⟨by rw [h1]; exact R.len, by rw [h1]; exact R.nd, fun p hp => R.pv p (h2 p hp), fun n o hn => ?_⟩
  obtain ⟨q, h3, h4⟩ := R.obj n o hn
  exact ⟨q, by rw [h1]; exact h3, h4.move (fun i a e => by rw [h1]; exact e) (fun a o e n => ⟨e, fun y => n.1 (by rw [← h1]; exact y), fun y => n.2 (h2 _ y)⟩) rfl⟩
theorem past_o {m : Mp} {H : Hp} {q : Addr} {o : HO} (hq : q ∈ m.2) (a : Addr) (u : HO) (e : H a = some u) (n : Out m a) : upd H q o a = some u ∧ Out m a :=
  ⟨by rw [upd_ne fun z => n.2 (by rw [z]; exact hq)]; exact e, n⟩
theorem RD.past {K : PySem.W.Frag} {m : Mp} {H : Hp} {q : Addr} {o : HO} (hq : q ∈ m.2) (d : D) (v : V) (h : RD K m H d v) : RD K m (upd H q o) d v := RD.move (fun _ _ e => e) (past_o hq) d v h
theorem RDs.past {K : PySem.W.Frag} {m : Mp} {H : Hp} {q : Addr} {o : HO} (hq : q ∈ m.2) (d : List D) (v : List V) (h : RDs K m H d v) : RDs K m (upd H q o) d v := RDs.move (fun _ _ e => e) (past_o hq) d v h
theorem Rel.past {K : PySem.W.Frag} {m : Mp} {A : AH} {H : Hp} {q : Addr} {o : HO} (hq : q ∈ m.2) (hn : q ∉ m.1) (R : Rel K m A H) : Rel K m A (upd H q o) := by
  refine ⟨R.len, R.nd, fun p hp z => ?_, fun n u hu => ?_⟩
  · by_cases hpq : p = q
    · rw [hpq, upd_same] at z; cases z
    · rw [upd_ne hpq] at z; exact R.pv p hp z
  · obtain ⟨p, h3, h4⟩ := R.obj n u hu
    have hpq : p ≠ q := fun y => hn (by rw [← y]; exact List.mem_of_getElem? h3)
    exact ⟨p, h3, h4.move (fun _ _ e => e) (past_o hq) (upd_ne hpq)⟩
open Classical in
noncomputable def compGo (iv : ItV) (all : List D) (t : Tg) (tt : MT) (me : ME) (ρ : Env) : List D → List D → AH → Res (List D)
  | [], acc, A => if itemsOf A iv = some all then .ok acc A else .no
  | x :: xs, acc, A => if itemsOf A iv = some all then (match bindT t x ρ with
    | some ρ1 => (match tt ρ1 A with
      | .ok true A1 => (match me ρ1 A1 with
        | .ok y A2 => compGo iv all t tt me ρ xs (acc ++ [y]) A2
        | _ => .no)
      | .ok false A1 => compGo iv all t tt me ρ xs acc A1
      | _ => .no)
    | none => .no) else .no
/-- chg: the new list will change -/
noncomputable def mLc (chg : Bool) (mi : MI) (t : Tg) (tt : MT) (me : ME) (vs : List Nat) : ME := fun ρ A => (mi ρ A).bind fun iv A1 => match itemsOf A1 iv with
  | some all => if all.length ≤ 16777216 then (compGo iv all t tt me (wipeD ρ vs) all [] A1).bind fun acc A2 => if chg = true then .ok (.ref A2.length) (A2 ++ [.lst acc]) else .ok (.lst acc) A2 else .no
  | none => .no
def mYes : MT := fun _ A => .ok true A
abbrev WNo : WX := fun _ _ _ _ => False
section
variable {X : Cx} {W : WX} {a b c e tg iter elt : Expr} {es : List Expr} {ma mb mc me : ME} {mt mu tt : MT} {ms mk : MA} {mi : MI} {sa sb : MS} {pos p p2 : Pos} {sts ifs : List Expr} {t : Tg}
def tTs (K : PySem.W.Frag) (mt : MT) : TT := tT K WNo mt
theorem l_nil : PTs X [] (tTs X.K mYes) := ⟨fun pins s σ H Q I ⟨m, A, ρ, R, E, h⟩ => pts_nil.run pins s σ H Q I (Post.here R rfl h)⟩
theorem l_one (h : DT X WNo c mt) : PTs X [c] (tTs X.K mt) := pts_one h
theorem lcD {K : PySem.W.Frag} {vs : List Nat} {chg : Bool} (hsl : ∀ i ∈ slots t, i ∈ vs) {σ : L2.St} {H : Hp} {Q : VK} (h : tE K W (mLc chg mi t tt me vs) σ H Q) : tLc (tI K W mi) (gOf K t) (tTs K tt) (tE K WNo me) vs σ H Q := by
  obtain ⟨m, A, ρ, R, E, h⟩ := h
  refine ⟨m, A, ρ, R, E, Post.imp (Post.bind (R := fun m' H' iv J => Iter K J m' H' iv) h) fun J H1 ⟨m1, A1, iv, e1, R1, itr, h1⟩ Dl hD => ?_⟩
  have E1 := E.mono e1
  split at h1
  rotate_left
  · exact h1.elim
  rename_i all hall
  split at h1
  rotate_left
  · exact h1.elim
  rename_i hz
  have hout := R1.out hD
  -- the state between two turns
  refine ⟨fun i n H' => n = all.length - i ∧ i ≤ all.length ∧ ∃ (m' : Mp) (A' : AH) (acc : List D) (us : List V), Dl ∈ m'.2 ∧ Dl ∉ m'.1 ∧ Ext m1 H1 m' H' ∧ Rel K m' A' H' ∧ H' Dl = some (.lst us) ∧ RDs K m' H' acc us ∧ acc.length ≤ i ∧
      Post K (RD K) W σ m1 H1 ((compGo iv all t tt me (wipeD ρ vs) (all.drop i) acc A').bind fun acc A2 => if chg = true then .ok (.ref A2.length) (A2 ++ [.lst acc]) else .ok (.lst acc) A2) Q, ?_, ?_⟩
  · refine ⟨all.length, by simp, Nat.zero_le _, (m1.1, Dl :: m1.2), A1, [], [], List.mem_cons_self, hout.1, ?_, ?_, upd_same, .nil, Nat.le_refl _, by simpa using h1⟩
    · refine ⟨⟨[], (List.append_nil _).symm⟩, fun p hp => List.mem_cons_of_mem _ hp, fun p hp => ?_, fun p hp => .inl hp, fun p o ho hn => by rw [upd_ne (ne_of_none ho hD)]; exact ho⟩
      rcases List.mem_cons.mp hp with z | z
      · exact .inr (.inr (by rw [z]; exact hD))
      · exact .inl z
    · have e2 : Ext m1 H1 (m1.1, Dl :: m1.2) (upd H1 Dl (.lst [])) := by
        refine ⟨⟨[], (List.append_nil _).symm⟩, fun p hp => List.mem_cons_of_mem _ hp, fun p hp => ?_, fun p hp => .inl hp, fun p o ho hn => by rw [upd_ne (ne_of_none ho hD)]; exact ho⟩
        rcases List.mem_cons.mp hp with z | z
        · exact .inr (.inr (by rw [z]; exact hD))
        · exact .inl z
      refine ⟨R1.len, R1.nd, fun p hp z => ?_, fun n o hn => ?_⟩
      · rcases List.mem_cons.mp hp with y | y
        · rw [y, upd_same] at z; cases z
        · by_cases hpq : p = Dl
          · rw [hpq, upd_same] at z; cases z
          · rw [upd_ne hpq] at z; exact R1.pv p y z
      · obtain ⟨q, h3, h4⟩ := R1.obj n o hn
        refine ⟨q, h3, h4.keep e2 ?_⟩
        rw [upd_ne fun y => hout.1 (by rw [← y]; exact List.mem_of_getElem? h3)]
  · rintro i n H' ⟨rfl, hi, m', A', acc, us, hp2, hp1, e', R', hDl, ra, hal, h'⟩
    by_cases hlt : i < all.length
    · rw [List.drop_eq_getElem_cons hlt] at h'
      unfold compGo at h'
      split at h'
      rotate_left
      · exact h'.elim
      rename_i hit
      have go := itr.go m' A' H' all i _ e' R' hit (List.getElem?_eq_getElem hlt)
      refine .inr ⟨go.1, fun H2 => ∃ (m' : Mp) (A' : AH) (acc : List D) (us : List V), Dl ∈ m'.2 ∧ Dl ∉ m'.1 ∧ Ext m1 H1 m' H2 ∧ Rel K m' A' H2 ∧ H2 Dl = some (.lst us) ∧ RDs K m' H2 acc us ∧ acc.length ≤ i + 1 ∧
        Post K (RD K) W σ m1 H1 ((compGo iv all t tt me (wipeD ρ vs) (all.drop (i + 1)) acc A').bind fun acc A2 => if chg = true then .ok (.ref A2.length) (A2 ++ [.lst acc]) else .ok (.lst acc) A2) Q,
        fun H2 h2 => ⟨all.length - (i + 1), by omega, rfl, hlt, h2⟩, fun x H2 hy => ?_⟩
      obtain ⟨R2, e2, rx⟩ := go.2 x H2 hy
      have hD2 : H2 Dl = some (.lst us) := e2.keep Dl _ hDl hp1
      split at h'
      rotate_left
      · exact h'.elim
      rename_i ρ1 hb1
      refine gOf_ok (sl := slots t) t (fun _ h => h) m' H2 _ _ _ x _ ρ1 ((E1.wipe vs).mono (e'.trans e2)) rx hb1 fun σ3 E3 o3 => ⟨wipe_same o3 hsl, m', A', ρ1, R2, E3, ?_⟩
      split at h'
      · rename_i A2 htt
        rw [htt]
        intro m3 H3 k e3 R3 hk
        subst hk
        have h31 : Dl ∉ m3.1 := fun z => (e3.new _ z).elim hp1 fun y => by rw [hD2] at y; cases y
        rw [if_pos rfl]
        refine ⟨m3, A2, ρ1, R3, E3.mono e3, ?_⟩
        split at h'
        rotate_left
        · exact h'.elim
        rename_i y A3 hme
        rw [hme]
        intro m4 H4 v e4 R4 r4
        have hD4 : H4 Dl = some (.lst us) := e4.keep Dl _ (e3.keep Dl _ hD2 hp1) h31
        have h41 : Dl ∉ m4.1 := fun z => (e4.new _ z).elim h31 fun y => by rw [e3.keep Dl _ hD2 hp1] at y; cases y
        have h42 : Dl ∈ m4.2 := e4.sub _ (e3.sub _ hp2)
        have et := (e2.trans e3).trans e4
        refine ⟨us, hD4, by rw [← ra.length, sizeLine_eq]; omega, m4, A3, acc ++ [y], us ++ [v], h42, h41, ?_, R4.past h42 h41, upd_same, RDs.past h42 _ _ ((RDs.mono et _ _ ra).append (.cons r4 .nil)), by rw [List.length_append]; simp; omega, h'⟩
        have ez := e'.trans et
        exact ⟨ez.pre, ez.sub, ez.pvs, ez.new, fun p o ho hn => by
          rw [upd_ne (ne_of_none ho hD)]
          exact ez.keep p o ho hn⟩
      · rename_i A2 htt
        rw [htt]
        intro m3 H3 k e3 R3 hk
        subst hk
        have h31 : Dl ∉ m3.1 := fun z => (e3.new _ z).elim hp1 fun y => by rw [hD2] at y; cases y
        rw [if_neg (by decide)]
        exact ⟨m3, A2, acc, us, e3.sub _ hp2, h31, (e'.trans e2).trans e3, R3, e3.keep Dl _ hD2 hp1, RDs.mono (e2.trans e3) _ _ ra, by omega, h'⟩
      · exact h'.elim
    · have hnil : all.drop i = [] := List.drop_eq_nil_of_le (by omega)
      rw [hnil] at h'
      unfold compGo at h'
      split at h'
      rotate_left
      · exact h'.elim
      rename_i hit
      refine .inl ⟨itr.stop m' A' H' all i e' R' hit (by omega), ?_⟩
      rw [bind_ok] at h'
      have sub2 : ∀ p ∈ m1.2, p ∈ m'.2 := e'.sub
      cases chg with
      | false =>
        have eF : Ext m1 H1 (m'.1, m1.2) H' := ⟨e'.pre, fun _ h => h, fun _ h => .inl h, e'.new, e'.keep⟩
        exact h' (m'.1, m1.2) H' _ eF (Rel.less (m := m') (m' := (m'.1, m1.2)) rfl sub2 R') (.lst (.inl ⟨.inl hDl, hp1, hout.2⟩) (RDs.less (m := m') (m' := (m'.1, m1.2)) rfl sub2 _ _ ra))
      | true =>
        obtain ⟨l, hl⟩ := e'.pre
        have eF : Ext m1 H1 (m'.1 ++ [Dl], m1.2) H' := by
          refine ⟨⟨l ++ [Dl], by show m'.1 ++ [Dl] = _; rw [hl, List.append_assoc]⟩, fun _ h => h, fun _ h => .inl h, fun p hp => ?_, e'.keep⟩
          rcases List.mem_append.mp hp with z | z
          · exact e'.new p z
          · exact .inr (by rw [List.mem_singleton.mp z]; exact hD)
        refine h' (m'.1 ++ [Dl], m1.2) H' (.ref Dl) eF ?_ (.ref (by show (m'.1 ++ [Dl])[A'.length]? = some Dl; rw [← R'.len]; simp))
        refine ⟨by rw [List.length_append, List.length_append, R'.len]; rfl, List.nodup_append.mpr ⟨R'.nd, by simp, fun x hx y hy z => hp1 (by rw [← List.mem_singleton.mp hy, ← z]; exact hx)⟩, fun p hp => R'.pv p (sub2 p hp), fun n o hn => ?_⟩
        by_cases hlen : n < A'.length
        · rw [List.getElem?_append_left hlen] at hn
          obtain ⟨q, h3, h4⟩ := R'.obj n o hn
          refine ⟨q, by show (m'.1 ++ [Dl])[n]? = some q; rw [List.getElem?_append_left (by rw [R'.len]; exact hlen)]; exact h3, ?_⟩
          exact h4.move grow_r (grow_o hp2 sub2) rfl
        · rw [List.getElem?_append_right (by omega)] at hn
          have h0 : n - A'.length = 0 := by
            have := (List.getElem?_eq_some_iff.mp hn).1
            simp at this; omega
          rw [h0] at hn
          cases hn
          refine ⟨Dl, ?_, us, hDl, RDs.grow hp2 sub2 _ _ ra⟩
          show (m'.1 ++ [Dl])[n]? = some Dl
          rw [List.getElem?_append_right (by rw [R'.len]; omega), R'.len, h0]; rfl
end
end DM
end
section
set_option maxHeartbeats 2000000
namespace DM
open PySem PySem.Spec PyProof.Rows L2
section
variable {X : Cx} {W : WX} {a b c e tg iter elt : Expr} {es ifs : List Expr} {ma mb mc me : ME} {mt mu tt : MT} {ms mk : MA} {mi : MI} {sa sb : MS} {pos p p2 : Pos} {t : Tg}
theorem d_lc {scope : Scope} (chg : Bool) (own : List (Str × Nat)) (hc : X.calm = true) (hN : X.N.Nodup) (hi : DI X W tg iter mi) (ok : BlkOk X.N X.env.scope scope own)
    (hg : ∀ (s : Shared) (H : Hp) (C : Addr) (cl : List (Str × Addr)) (fp : List Addr), DG (X.blk s H scope (compEnvC scope cl C X.env) fp) tg t)
    (ht : ∀ (s : Shared) (H : Hp) (C : Addr) (cl : List (Str × Addr)) (fp : List Addr), PTs (X.blk s H scope (compEnvC scope cl C X.env) fp) ifs (tTs X.K tt))
    (he : ∀ (s : Shared) (H : Hp) (C : Addr) (cl : List (Str × Addr)) (fp : List Addr), DE (X.blk s H scope (compEnvC scope cl C X.env) fp) WNo elt me)
    {sl : List Nat} (hsl : ∀ i ∈ slots t, i ∈ sl) (ho : own.map (·.2) = sl := by rfl) (hs : ∀ x, foldedSetIterable iter X.env x = pure x := by intro _; rfl) : DE X W (.ListComp elt [⟨tg, iter, ifs, 0⟩] scope pos) (mLc chg mi t tt me sl) := by
  subst ho
  exact PEi (pe_lc hc hN hi ok hg ht he hs) fun _ _ _ h => lcD hsl h
theorem s_setLc {i : Nat} {y : Str} {py spos : Pos} {scope : Scope} (chg : Bool) (own : List (Str × Nat)) (hc : X.calm = true) (hN : X.N.Nodup) (hy : X.N[i]? = some y) (hyl : X.env.scope.names.lookup y = some .local)
    (hsw : swapsWith (.ListComp elt [⟨tg, iter, ifs, 0⟩] scope pos) (some (.Name y py)) spos.line X.env = pure true) (hi : DI X W tg iter mi) (ok : BlkOk X.N X.env.scope scope own)
    (hg : ∀ (s : Shared) (H : Hp) (C : Addr) (cl : List (Str × Addr)) (fp : List Addr), DG (X.blk s H scope (compEnvC scope cl C X.env) fp) tg t)
    (ht : ∀ (s : Shared) (H : Hp) (C : Addr) (cl : List (Str × Addr)) (fp : List Addr), PTs (X.blk s H scope (compEnvC scope cl C X.env) fp) ifs (tTs X.K tt))
    (he : ∀ (s : Shared) (H : Hp) (C : Addr) (cl : List (Str × Addr)) (fp : List Addr), DE (X.blk s H scope (compEnvC scope cl C X.env) fp) WNo elt me)
    {sl : List Nat} (hsl : ∀ i ∈ slots t, i ∈ sl) (ho : own.map (·.2) = sl := by rfl) (hs : ∀ x, foldedSetIterable iter X.env x = pure x := by intro _; rfl) : DS X W (.Assign [.Name y py] (.ListComp elt [⟨tg, iter, ifs, 0⟩] scope pos) spos) (mSet i (mLc chg mi t tt me sl)) := by
  subst ho
  exact PSi (ps_setLc hc hN hy hyl hsw hi ok hg ht he hs) fun _ _ _ h => setD (fun _ q => lcD hsl q) h
theorem s_par2 {i j : Nat} {x y : Str} {px py pt : Pos} {kt k2 : Nat} {pt2 : Pos} (hc : X.calm = true) (hN : X.N.Nodup) (hi : X.N[i]? = some x) (hj : X.N[j]? = some y) (hij : i ≠ j) (hx : X.env.scope.names.lookup x = some .local) (hy : X.env.scope.names.lookup y = some .local)
    (ha : DA X W [a, b] ms) (hw : swappedStores [.Tuple [.Name x px, .Name y py] kt pt] (.Tuple [a, b] k2 pt2) X.env = pure (some [x, y]))
    (hs : swapsWithSole [.Tuple [.Name x px, .Name y py] kt pt] (.Tuple [a, b] k2 pt2) pos.line X.env = pure false := by rfl) :
    DS X W (.Assign [.Tuple [.Name x px, .Name y py] kt pt] (.Tuple [a, b] k2 pt2) pos) (mPar2 i j ms) := PSi (ps_par hc hN hi hj hij hx hy ha hw hs) fun _ _ _ h => par2D h
/-! ### x += e -/
end
/-! ### defs -/
def spD (K : PySem.W.Frag) (n : Nat) (mf : List D → AH → Res D) : Sp := fun vs H Q E => vs.length = n ∧ ∃ m A ds, Rel K m A H ∧ RDs K m H ds vs ∧ Post K (RD K) (fun c d _ H' => E c d H') [] m H (mf ds A) Q
structure FnD (P : Program) (w : World) (K : PySem.W.Frag) (mg : Str → Option Value) (base : Heap) (k : Nat) (f : Addr) (fd : FuncData) (ps : List Str) (mf : List D → AH → Res D) : Prop where
  run : ∀ (A : Around) (outer : List PySem.Env) (s : Shared) (H : Hp) (args : Args) (us : List Value) (vs : List V) (Q : VK) (E : XK), Room k A → A.guards = some [] → Env0 P w K mg base A outer s H → BindsTo s fd args (ps.zip us) → Vals vs us →
    spD K ps.length mf vs H Q E → codeAny (model P w) A (.call (.ref f) args) (CR (L2.CX P w) outer P w H s Q E) s
def mFun (n : Nat) (ms : MS) : List D → AH → Res D := fun ds A => match ms (ds.map some ++ List.replicate (n - ds.length) none) A with
  | .nx _ A1 => .ok .non A1
  | .rt d A1 => .ok d A1
  | .exc C fs _ A1 => .exc C fs A1
  | .bk _ _ => .no
  | .ct _ _ => .no
  | .no => .no
theorem start_rel {K : PySem.W.Frag} {m : Mp} {H : Hp} {ds : List D} {vs : List V} {N : List Str} (r : RDs K m H ds vs) : REnv K m H (ds.map some ++ List.replicate (N.length - ds.length) none) (L2.start N vs) := by
  unfold L2.start
  refine ⟨by rw [List.length_append, List.length_append, List.length_map, List.length_map, List.length_replicate, List.length_replicate, r.length], fun i d h => ?_⟩
  by_cases hi : i < ds.length
  · rw [List.getElem?_append_left (by rw [List.length_map]; exact hi), List.getElem?_map] at h
    cases hd : ds[i]? with
    | none => rw [hd] at h; cases h
    | some d' =>
      rw [hd] at h
      cases h
      obtain ⟨v, h1, h2⟩ := r.get hd
      exact ⟨v, by rw [List.getElem?_append_left (by rw [List.length_map, ← r.length]; exact hi), List.getElem?_map, h1]; rfl, h2⟩
  · rw [List.getElem?_append_right (by rw [List.length_map]; omega), List.getElem?_replicate] at h
    split at h <;> cases h
section
variable {P : Program} {w : World} {K : PySem.W.Frag} {mg : Str → Option Value} {base : Heap}
/-- a def by its body -/
theorem FnD.of {x qual : Str} {st : Stmt} {f : Addr} {fd : FuncData} {N ps : List Str} {k : Nat} {ms : MS} (F : Fun K x qual st f fd) (S : FnScope N ps (defScope st))
    (hb : ∀ (cdv : Value), fd.code = cdv → ∀ (A : Around) (outer : List PySem.Env) (s : Shared) (H : Hp) (E : XK), Room k (A.deeper (envOfC qual (defScope st) s.heap.objs.size f cdv)) → (A.deeper (envOfC qual (defScope st) s.heap.objs.size f cdv)).guards = some [] →
      Takes (cxOf (L2.CX P w) P w K mg base N qual (defScope st) f cdv A outer s H E) (fun c d _ H' => E c d H') →
      PassesOwn (model P w) (A.deeper (envOfC qual (defScope st) s.heap.objs.size f cdv)) (envOfC qual (defScope st) s.heap.objs.size f cdv) (cxOf (L2.CX P w) P w K mg base N qual (defScope st) f cdv A outer s H E).xe → DSs (cxOf (L2.CX P w) P w K mg base N qual (defScope st) f cdv A outer s H E) (fun c d _ H' => E c d H') (defBody st) ms) {n : Nat} (hn : N.length = n := by rfl) : FnD P w K mg base (k + 1) f fd ps (mFun n ms) := by
  subst hn
  obtain ⟨oc, od, kV, doc, pm, an, cdv, ct, osl, rfl, lk, hcd⟩ := F.ex
  refine ⟨fun A outer s H args us vs Q E room gd en bi rel hsp => ?_⟩
  obtain ⟨hlen, m, AA, ds, R, rds, post⟩ := hsp
  have kin : K.In s.heap := en.mod.kin.keeps fun b o h => (en.bs b o h).1
  have nolim : s.heap.NoLimit := en.mod.nolimit.keeps fun b o h => (en.bs b o h).1
  have kinds : ∀ y ∈ ps.zip us, (defScope st).names.lookup y.1 = some .local ∨ ((defScope st).names.lookup y.1 = some .cell ∧ ((cellsFrom (s.heap.objs.size + 1) (defScope st).names []).lookup y.1).isSome = true) := by
    rintro ⟨n, v⟩ hy
    rcases S.par n (List.of_mem_zip hy).1 with z | z
    · exact .inl z
    · exact .inr ⟨z, PySem.W.cellsFrom_some _ _ _ (.inl z)⟩
  refine codeAny_call_function room.depth (kin _ _ lk) rfl S.co S.gen rfl (PySem.W.codeRec_of kin hcd) (bi _ _ _ _ (wpAny_newFunctionEnv_cells S.kind kinds fun env henv s1 hx => ?_))
  subst henv
  refine ⟨nolim.keeps hx.toInCall.keep, codeAny_func ?_⟩
  have body := hb cdv rfl A outer s H E (room.deeper _) gd (takes_of rfl rfl rfl rfl) (passes_of rfl)
  have I := inv_start (CX := L2.CX P w) (E := E) S room.hd en hlen rel hx
  have want : tS K (fun c d _ H' => E c d H') ms { nx := fun _ H' => Q .non H', rt := Q } (L2.start N vs) H := by
    refine ⟨m, AA, _, R, start_rel (N := N) rds, ?_⟩
    unfold mFun at post
    cases hr : ms (ds.map some ++ List.replicate (N.length - ds.length) none) AA with
    | nx ρ1 A1 => rw [hr] at post; exact fun m' H' σ' e1 R1 _ => post m' H' .non e1 R1 .non
    | rt d A1 => rw [hr] at post; exact fun m' H' v e1 R1 r1 => post m' H' v e1 R1 r1
    | exc C fs ρ1 A1 => rw [hr] at post; exact fun m' H' c dx σ' e1 R1 _ hc hx => post m' H' c dx e1 R1 hc hx
    | bk ρ1 A1 => rw [hr] at post; exact post.elim
    | ct ρ1 A1 => rw [hr] at post; exact post.elim
    | no => rw [hr] at post; exact post.elim
  have back : ∀ {σ' : L2.St} {H' : Hp} {v : V} {u : Value} {s' : Shared}, Inv (cxOf (L2.CX P w) P w K mg base N qual (defScope st) f cdv A outer s H E) [] σ' H' s' → RelV v u → Q v H' → CE outer P w H s Q u s' :=
    fun J ru q => ⟨_, _, J.os, J.bare, J.base, J.hok, ru, q⟩
  refine wpAny_mono (body.run [] s1 (L2.start N vs) H _ I want) (fun fl s' z => ?_) fun _ _ z => z
  cases fl with
  | next =>
    obtain ⟨_, _, J, q⟩ := z
    exact back (v := V.non) (u := Value.none) J rfl q
  | ret u =>
    obtain ⟨_, _, _, J, ru, q⟩ := z
    exact back J ru q
  | brk =>
    obtain ⟨_, _, _, q⟩ := z
    exact q.elim
  | cont =>
    obtain ⟨_, _, _, q⟩ := z
    exact q.elim
theorem FnD.up {j k : Nat} {f : Addr} {fd : FuncData} {ps : List Str} {mf : List D → AH → Res D} (F : FnD P w K mg base j f fd ps mf) (h : j ≤ k) : FnD P w K mg base k f fd ps mf :=
  ⟨fun A outer s H args us vs Q E hr => F.run A outer s H args us vs Q E (hr.mono h)⟩
end
/-! ### calls -/
def mCallF (n : Nat) (mf : List D → AH → Res D) (ms : MA) : ME := fun ρ A => (ms ρ A).bind fun ds A1 => if ds.length = n then mf ds A1 else .no
section
variable {X : Cx} {W : WX} {k : Nat} {f : Addr} {fd : FuncData} {ps ks : List Str} {mf : List D → AH → Res D} {x : Str} {p pos kpos : Pos} {e : Expr} {es : List Expr} {ms mk : MA} {me : ME} {kws : List Keyword} {nm : Option Str}
theorem run_D {pins : List (Addr × Obj)} {σ : L2.St} {H : Hp} {s : Shared} {Q : VK} {us : List Value} {vs : List V} {args : Args} (F : FnD X.prog X.w X.K X.mg X.base k f fd ps mf) (hr : Room k X.A) (gd : X.A.guards = some []) (tk : Takes X W)
    (I : Inv X pins σ H s) (bi : BindsTo s fd args (ps.zip us)) (r : Vals vs us) (h : spD X.K ps.length mf vs H Q (WE W σ)) : codeAny (model X.prog X.w) X.A (.call (.ref f) args) (fun r s' => match r with
      | .ok (.ret u) => EP X pins σ Q u s'
      | .ok _ => False
      | .error z => X.xe z s') s := by
  refine codeAny_mono (F.run X.A X.stack s H args us vs Q (WE W σ) hr gd I.env0 bi r h) fun r s' hq => ?_
  cases r with
  | error z => exact passAt tk σ pins H s z s' I hq
  | ok fl =>
    cases fl with
    | ret u => exact I.after hq
    | next => exact hq
    | brk => exact hq
    | cont => exact hq
theorem call_D {pins : List (Addr × Obj)} {σ : L2.St} {s : Shared} {Q : VK} {us : List Value} {kw : List (Str × Value)} (h : codeAny (model X.prog X.w) X.A (.call (.ref f) ⟨us, kw⟩) (fun r s' => match r with
      | .ok (.ret u) => EP X pins σ Q u s'
      | .ok _ => False
      | .error z => X.xe z s') s) : wpAny (model X.prog X.w) X.A (call (.ref f) us kw) (EP X pins σ Q) X.xe s := by
  refine wpAny_call (codeAny_mono h fun r s' z => ?_)
  cases r with
  | error y => exact z
  | ok fl => cases fl <;> first | exact z | exact z.elim
/-- f(a, ..) -/
theorem d_call (F : FnD X.prog X.w X.K X.mg X.base k f fd ps mf) (hr : Room k X.A) (gd : X.A.guards = some []) (tk : Takes X W) (hm : X.mg x = some (.ref f)) (hk : PySem.W.keepIn X.K (.ref f) = true) (hb : Binds X.K fd ps []) (ha : DA X W (e :: es) ms) {n : Nat} (hn : ps.length = n := by rfl)
    (hg : Gl X x := by rfl) (hdb : (x == ("__debug__" : Str)) = false := by decide) (he : starEach (e :: es) X.env = (false, eval e X.env) :: starEach es X.env := by rfl) (hpl : (backTo pos (starEach es X.env)).any (·.1) = false := by rfl) :
    DE X W (.Call (.Name x p) (e :: es) [] pos) (mCallF n mf ms) := by
  subst hn
  refine ⟨fun pins s σ H Q I ⟨m, A, ρ, R, E, h⟩ => wpAny_Call_Name_kw (ld_glob I hg hm (PySem.W.callWith_K (h₀ := X.base) I.ok.mod.kin hk (thn (ha.run pos pins s σ H _ I (tA.bind (T := fun vs H1 => spD X.K ps.length mf vs H1 Q (WE W σ)) R E h fun m1 A1 ds vs H1 e1 R1 E1 r1 h1 => ?_)) fun us s1 ⟨vs, H1, I1, r, q⟩ => ⟨I1.kIn, call_D ?_⟩) he hpl) hdb)⟩
  · split at h1
    · rename_i hl
      exact ⟨by rw [← r1.length]; exact hl, m1, A1, ds, R1, r1, by
        cases hz : mf ds A1 with
        | ok d A2 => rw [hz] at h1; exact h1
        | exc C fs A2 => rw [hz] at h1; exact h1
        | no => rw [hz] at h1; exact h1⟩
    · exact h1.elim
  · have b := hb s1 us I1.kIn (by rw [List.append_nil, ← r.length]; exact q.1)
    rw [List.append_nil] at b
    exact run_D F hr gd tk I1 b r q
/-- keywords -/
abbrev DK (X : Cx) (W : WX) (kws : List Keyword) (mk : MA) : Prop := PK X kws (tA X.K W mk)
theorem k_nil : DK X W [] mNil := ⟨fun pos pins s σ H Q I ⟨m, A, ρ, R, E, h⟩ => pk_nil.run pos pins s σ H Q I (Post.here R .nil h)⟩
theorem k_cons (ha : DE X W e me) (hr : DK X W kws mk) : DK X W (⟨nm, e, kpos⟩ :: kws) (mCons me mk) :=
  ⟨fun pos pins s σ H Q I ⟨m, A, ρ, R, E, h⟩ => (pk_cons ha hr).run pos pins s σ H Q I (tE.bind R E h fun m1 A1 d v H1 e1 R1 E1 r1 h1 => tA.bind R1 E1 h1 fun m2 A2 ds vs H2 e2 R2 E2 r2 h2 => Post.here R2 (.cons (RD.mono e2 _ _ r1) r2) h2)⟩
def pick {α : Type} (pm : List Nat) (xs : List α) : List α := pm.filterMap fun i => xs[i]?
theorem RDs.pick {K : PySem.W.Frag} {m : Mp} {H : Hp} {ds : List D} {vs : List V} (r : RDs K m H ds vs) : ∀ pm : List Nat, RDs K m H (DM.pick pm ds) (DM.pick pm vs)
  | [] => .nil
  | i :: pm => by
    have ih := RDs.pick r pm
    unfold DM.pick at ih ⊢
    rw [List.filterMap_cons, List.filterMap_cons]
    cases hd : ds[i]? with
    | none =>
      have : vs[i]? = none := List.getElem?_eq_none (by rw [← r.length]; exact List.getElem?_eq_none_iff.mp hd)
      rw [this]; exact ih
    | some d =>
      obtain ⟨v, h1, h2⟩ := r.get hd
      rw [h1]; exact .cons h2 ih
theorem Vals.pick {vs : List V} {us : List Value} (r : Vals vs us) : ∀ pm : List Nat, Vals (DM.pick pm vs) (DM.pick pm us)
  | [] => .nil
  | i :: pm => by
    have ih := Vals.pick r pm
    unfold DM.pick at ih ⊢
    rw [List.filterMap_cons, List.filterMap_cons]
    cases hd : vs[i]? with
    | none =>
      have : us[i]? = none := L2.Vals.none_of r hd
      rw [this]; exact ih
    | some v =>
      obtain ⟨u, h1, h2⟩ := L2.Vals.get r hd
      rw [h1]; exact .cons h2 ih
def KB (K : PySem.W.Frag) (fd : FuncData) (ps : List Str) (n : Nat) (ks : List Str) (pm : List Nat) : Prop := ∀ (s : Shared) (us ws : List Value), K.In s.heap → us.length = n → ws.length = ks.length → BindsTo s fd ⟨us, ks.zip ws⟩ (ps.zip (DM.pick pm (us ++ ws)))
def mCallK (n l a : Nat) (pm : List Nat) (mf : List D → AH → Res D) (ms mk : MA) : ME := fun ρ A => (ms ρ A).bind fun ds A1 => (mk ρ A1).bind fun es A2 => if ds.length = n ∧ es.length = l ∧ (DM.pick pm (ds ++ es)).length = a then mf (DM.pick pm (ds ++ es)) A2 else .no
theorem d_callK0 {pm : List Nat} (F : FnD X.prog X.w X.K X.mg X.base k f fd ps mf) (hr : Room k X.A) (gd : X.A.guards = some []) (tk : Takes X W) (hm : X.mg x = some (.ref f)) (hk : PySem.W.keepIn X.K (.ref f) = true) (hb : KB X.K fd ps 0 ks pm) (hkw : DK X W kws mk) {l n : Nat} (hl : ks.length = l := by rfl) (hn : ps.length = n := by rfl)
    (hg : Gl X x := by rfl) (hall : (backToKw pos (keywordEach kws X.env)).all (·.1.isSome) = true := by rfl) (hks : (backToKw pos (keywordEach kws X.env)).filterMap (·.1) = ks := by rfl) (hdb : (x == ("__debug__" : Str)) = false := by decide)
    (hpl : ((backTo pos (starEach [] X.env)).any (·.1) || (backToKw pos (keywordEach kws X.env)).any (·.1.isNone)) = false := by rfl) : DE X W (.Call (.Name x p) [] kws pos) (mCallK 0 l n pm mf mNil mk) := by
  subst hl hn
  refine ⟨fun pins s σ H Q I ⟨m, A, ρ, R, E, h⟩ => wpAny_Call_Name_kw (ld_glob I hg hm (PySem.W.callWith_KW0 (h₀ := X.base) I.ok.mod.kin hk hall (thn (hkw.run pos pins s σ H (fun zs H1 => zs.length = ks.length ∧ spD X.K ps.length mf (DM.pick pm zs) H1 Q (WE W σ)) I (tA.bind R E (show Post X.K (RD X.K) W σ m H ((mk ρ A).bind fun es A2 => if ([] : List D).length = 0 ∧ es.length = ks.length ∧ (DM.pick pm ([] ++ es)).length = ps.length then mf (DM.pick pm ([] ++ es)) A2 else .no) Q from h) fun m1 A1 ds vs H1 e1 R1 E1 r1 h1 => ?_)) fun ws s2 ⟨zs, H2, I2, rz, hl, q⟩ => ⟨I2.kIn, ?_⟩) hpl) hdb)⟩
  · split at h1
    · rename_i hl
      refine ⟨by rw [← r1.length]; exact hl.2.1, by rw [← (r1.pick pm).length]; exact hl.2.2, m1, A1, _, R1, r1.pick pm, ?_⟩
      rw [List.nil_append] at h1
      cases hz : mf (DM.pick pm ds) A1 with
      | ok d A2 => rw [hz] at h1; exact h1
      | exc C fs A2 => rw [hz] at h1; exact h1
      | no => rw [hz] at h1; exact h1
    · exact h1.elim
  · rw [hks]
    exact call_D (run_D F hr gd tk I2 (hb s2 [] ws I2.kIn rfl (by rw [← L2.Vals.length rz]; exact hl)) (Vals.pick rz pm) q)
end
end DM
end
section
set_option maxHeartbeats 2000000
namespace DM
open PySem PySem.Spec PyProof.Rows L2
/-! ### the law's call -/
theorem rd_ints {K : PySem.W.Frag} {m : Mp} {H : Hp} : ∀ ns : List Int, RDs K m H (ns.map D.int) (ns.map V.int)
  | [] => .nil
  | n :: ns => .cons (.int n) (rd_ints ns)
/-- code objects with their tables and what their lambdas are called -/
abbrev Tabs0 := List (Addr × Addr × Str)
abbrev tabs0 (cs : Tabs0) : AH := cs.map fun p => AO.tab p.2.1 p.2.2
theorem law_run {P : Program} {w : World} {K : PySem.W.Frag} {mg mb : Str → Option Value} {k : Nat} {fa a : Addr} {fd : FuncData} {x : Str} {s : Shared} {us : List Value} {ns : List Int} {cs : Tabs0}
    (kin : K.In s.heap) (gl : s.heap.Ns mainGlobals mg) (bl : s.heap.Ns builtinsNs mb) (bb : ∀ y : Str, y ≠ "__name__" → mb y = bootBuiltins y) (nl : s.heap.NoLimit) (ge : s.gens = #[])
    (hT : ∀ p ∈ cs, s.heap.get? p.2.1 = some { cls := .none, data := .fields #[] }) (nT : ∀ p ∈ cs, K.lookup p.2.1 = none) (hC : ∀ p ∈ cs, PySem.W.CodeHd s.heap p.1 p.2.1) (nd : (cs.map (·.2.1)).Nodup)
    (bm : ∃ (b : Addr) (ob : Obj), mg "__builtins__" = some (.ref b) ∧ b ≠ builtinsNs ∧ s.heap.get? b = some ob ∧ ob.cls = .type "module" ∧ ob.dict = some builtinsNs ∧ ob.data = .plain)
    (ho : s.heap.get? a = some { cls := .type "list", data := .seq us.toArray }) (ia : IntsAre us ns) (hn : ns.length ≤ sizeLine) (room : Room k callerA)
    (F : ∀ base : Heap, K.In base → base.Ns mainGlobals mg → (∀ p ∈ cs, LamX.TabB base mg p.1 p.2.1) → ∃ (mf : List D → AH → Res D) (AE : AH), mf [.lst (ns.map D.int)] (tabs0 cs) = .ok (.bl true) AE ∧ FnD P w K mg base k fa fd [x] mf)
    (bi : ∀ (t : Shared) (u : Value), BindsTo t fd ⟨[u], []⟩ [(x, u)]) :
    codeAny (model P w) callerA (.call (.ref fa) ⟨[.ref a], []⟩) (fun r s' => r = .ok (.ret (.bool true)) ∧ OldK s.heap s'.heap ∧ s'.os = s.os ∧ AllBare s'.gens) s := by
  have vi := L2.vals_ints ia
  obtain ⟨tb, etb⟩ : ∃ tb : List Addr, tb = cs.map (·.2.1) := ⟨_, rfl⟩
  have inT : ∀ p ∈ cs, p.2.1 ∈ tb := fun p hp => by rw [etb]; exact List.mem_map.mpr ⟨p, hp, rfl⟩
  have atT : ∀ b ∈ tb, s.heap.get? b = some { cls := .none, data := .fields #[] } ∧ K.lookup b = none := fun b hb => by
    rw [etb] at hb
    obtain ⟨p, hp, e⟩ := List.mem_map.mp hb
    rw [← e]
    exact ⟨hT p hp, nT p hp⟩
  have aT : a ∉ tb := fun z => by
    have q := (atT a z).1
    rw [ho] at q
    cases q
  -- the script and the tables are all that may be told of
  suffices go : ∀ H : Hp, (∀ b, H b = none ∨ (b = a ∧ K.lookup a = none ∧ ∃ o, H b = some (.frz o (.lst (ns.map V.int)))) ∨ b ∈ tb) → (∀ b ∈ tb, H b = some (.tbl #[])) → SqL K H a (ns.map V.int) → HOk P w H s.heap →
      codeAny (model P w) callerA (.call (.ref fa) ⟨[.ref a], []⟩) (fun r s' => r = .ok (.ret (.bool true)) ∧ OldK s.heap s'.heap ∧ s'.os = s.os ∧ AllBare s'.gens) s by
    cases hk : K.lookup a with
    | some o =>
      have e := kin a o hk
      rw [ho] at e
      cases e
      refine go (fun b => if b ∈ tb then some (.tbl #[]) else none) (fun b => ?_) (fun b hb => if_pos hb) (.inr ⟨_, us.toArray, _, hk, rfl, rfl, rfl, ?_, ?_⟩) fun b u z => ?_
      · by_cases hb : b ∈ tb
        · exact .inr (.inr hb)
        · exact .inl (if_neg hb)
      · rw [List.size_toArray, ia.length]; exact hn
      · rw [List.toList_toArray]; exact vi
      · by_cases hb : b ∈ tb
        · have z' := (if_pos hb).symm.trans z
          cases z'
          exact (atT b hb).1
        · have z' := (if_neg hb).symm.trans z
          cases z'
    | none =>
      refine go (fun b => if b = a then some (.frz { cls := .type "list", data := .seq us.toArray } (.lst (ns.map V.int))) else if b ∈ tb then some (.tbl #[]) else none) (fun b => ?_) (fun b hb => (if_neg fun z => aT (by rw [← z]; exact hb)).trans (if_pos hb)) (.inl (.inr ⟨_, if_pos rfl⟩)) fun b u z => ?_
      · by_cases hb : b = a
        · exact .inr (.inl ⟨hb, hk, _, if_pos hb⟩)
        · by_cases hb2 : b ∈ tb
          · exact .inr (.inr hb2)
          · exact .inl ((if_neg hb).trans (if_neg hb2))
      · by_cases hb : b = a
        · have z' := (if_pos hb).symm.trans z
          cases z'
          rw [hb]
          exact ⟨ho, by rw [List.length_map]; exact hn, us, _, vi, ho⟩
        · have z1 := (if_neg hb).symm.trans z
          by_cases hb2 : b ∈ tb
          · have z' := (if_pos hb2).symm.trans z1
            cases z'
            exact (atT b hb2).1
          · have z' := (if_neg hb2).symm.trans z1
            cases z'
  intro H only tbl hS hok
  have free : ∀ {b : Addr} {o : Obj}, s.heap.get? b = some o → (∀ l n, o.data ≠ .seq l n) → o.data ≠ .fields #[] → H b = none := fun {b o} h hd hf => by
    rcases only b with z | ⟨rfl, _, _, _⟩ | z
    · exact z
    · rw [ho] at h
      cases h
      exact (hd _ _ rfl).elim
    · rw [(atT b z).1] at h
      cases h
      exact (hf rfl).elim
  have nsb : ∀ {b : Addr} {m : Str → Option Value}, s.heap.Ns b m → (hidT s.heap H).Ns b m := fun {b m} z => by
    obtain ⟨o, es, ep, h1, h2, h3⟩ := z
    exact ⟨o, es, ep, hidT_get h1 (free h1 (fun l n y => by rw [h2] at y; cases y) fun y => by rw [h2] at y; cases y), h2, h3⟩
  have kb : K.In (hidT s.heap H) := fun b o h => hidT_get (kin b o h) (by
    rcases only b with z | ⟨rfl, hk, _⟩ | z
    · exact z
    · rw [hk] at h; cases h
    · rw [(atT b z).2] at h; cases h)
  have TB : ∀ p ∈ cs, LamX.TabB (hidT s.heap H) mg p.1 p.2.1 := fun p hp => by
    have hPt := hT p hp
    refine ⟨?_, ?_, fun z => ?_⟩
    · obtain ⟨o, vs, file, tf, flags, tg, inF, text, tt, e1, r1, r2, r3, rest⟩ := hC p hp
      refine ⟨o, vs, file, tf, flags, tg, inF, text, tt, hidT_get e1 (free e1 (fun l n z => ?_) fun z => ?_), r1, r2, r3, rest⟩
      · rw [r2] at z; cases z
      · rw [r2] at z; cases z; simp at r3
    · obtain ⟨b, ob, b1, b2, b3, b4, b5, b6⟩ := bm
      refine ⟨b, ob, b1, b2, fun q => ?_, fun q => ?_, hidT_get b3 (free b3 (fun l n z => ?_) fun z => ?_), b4, b5, b6⟩
      · obtain ⟨o, es, ep, e, hd, _⟩ := gl
        rw [q, e] at b3
        cases b3
        rw [hd] at b6
        cases b6
      · rw [q, hPt] at b3
        cases b3
        cases b6
      · rw [b6] at z; cases z
      · rw [b6] at z; cases z
    · obtain ⟨o, es, ep, e, hd, _⟩ := gl
      rw [z, hPt] at e
      cases e
      cases hd
  have en : Env0 P w K mg (hidT s.heap H) callerA [] s H := by
    obtain ⟨mc, h1, h2⟩ := nl
    exact { frames := rfl, mod := ⟨kb, nsb gl, ⟨mb, nsb bl, bb⟩, mc, nsb h1, h2⟩, bs := fun b o h => of_hidT h, bsz := Nat.le_of_eq (hidT_size _ _), funs := trivial, frf := fun b hb => (nomatch hb), hok := hok, bare := .of_eq ge }
  obtain ⟨mf, AE, law, FF⟩ := F _ kb (nsb gl) TB
  have R0 : Rel K (tb, []) (tabs0 cs) H := by
    refine ⟨by rw [etb, List.length_map, List.length_map], by rw [etb]; exact nd, fun p hp => (nomatch hp), fun n o h => ?_⟩
    rw [List.getElem?_map] at h
    cases hc : cs[n]? with
    | none => rw [hc] at h; cases h
    | some p =>
      rw [hc] at h
      cases h
      refine ⟨p.2.1, by show tb[n]? = _; rw [etb, List.getElem?_map, hc]; rfl, rfl, #[], tbl _ (inT p (List.mem_of_getElem? hc)), trivial, fun pos cv hcv => ?_⟩
      have z : codeAmong pos [] = some cv := hcv
      simp [codeAmong] at z
  have pre : spD K [x].length mf [.ref a] H (fun v _ => v = .bl true) fun _ _ _ => False := by
    refine ⟨rfl, (tb, []), tabs0 cs, [.lst (ns.map D.int)], R0, .cons (.lst ?_ (rd_ints ns)) .nil, ?_⟩
    · rcases hS with z | z
      · exact .inl ⟨z, aT, (List.not_mem_nil ·)⟩
      · exact .inr z
    · rw [law]
      intro m' H' v _ _ r
      cases r
      rfl
  refine codeAny_mono (FF.run callerA [] s H ⟨[.ref a], []⟩ [.ref a] [.ref a] _ _ room rfl en (bi s (.ref a)) (.cons rfl .nil) pre) fun r s' h => ?_
  cases r with
  | error z =>
    obtain ⟨_, _, _, _, _, _, _, _, _, _, _, _, y⟩ := h
    exact y.elim
  | ok fl =>
    cases fl with
    | ret u =>
      obtain ⟨v, H', os, bare, un, hok', rv, q⟩ := h
      have q' : v = .bl true := q
      subst q'
      cases rv
      have stay : ∀ b o, b ∉ tb → s.heap.get? b = some o → s'.heap.get? b = some o := fun b o nb h => by
        rcases only b with z | ⟨_, _, ob, z⟩ | z
        · exact un.keep b o h z (fun y => nomatch y) fun y => nomatch y
        · have z2 := un.frzs b ob _ z
          obtain ⟨e1, _⟩ := hok b _ z
          obtain ⟨e2, _⟩ := hok' b _ z2
          rw [h] at e1
          cases e1
          exact e2
        · exact absurd z nb
      have grew : ∀ b ∈ tb, ∃ more : Array Value, s'.heap.get? b = some { cls := .none, data := .fields more } := fun b hb => by
        obtain ⟨more, z⟩ := un.tbls b #[] (tbl b hb)
        exact ⟨_, hok' b _ z⟩
      refine ⟨rfl, ⟨fun b o e => ?_, fun b o e => ?_⟩, os, bare⟩
      · by_cases hb : b ∈ tb
        · obtain ⟨more, hm⟩ := grew b hb
          have hb' := hb
          rw [etb] at hb'
          obtain ⟨p, hp, ep⟩ := List.mem_map.mp hb'
          rw [(atT b hb).1] at e
          cases e
          rw [← ep] at hm ⊢
          exact .inr (.inl ⟨((hC p hp).tab (hT p hp)).isCodeTable, rfl, #[], more, rfl, by rw [Array.empty_append]; exact hm⟩)
        · exact .inl (stay b o hb e)
      · by_cases hb : b ∈ tb
        · obtain ⟨more, hm⟩ := grew b hb
          exact ⟨_, hm⟩
        · exact ⟨o, stay b o hb e⟩
    | next => exact h.elim
    | brk => exact h.elim
    | cont => exact h.elim
/-- the end of a law's row -/
theorem law_walk {l : PySem.W.OpenLaw} {n k : Nat} {q : Program} {loose : List Str} {XP : (Str → Option Value) → Heap → Prop} {YP : World → Heap → Prop} {d : DefRec} {K : Params → PySem.W.Frag} {x : Str}
    (hn : l.most = some n) (hz : n ≤ sizeLine) (hdf : d.params.defaults = []) (room : Room k callerA) (hY : ∀ (w : World) (h : Heap), YP w h → (K w.params).In h)
    (F : ∀ (w : World) (mg : Str → Option Value) (fa : Addr) (h : Heap), (K w.params).In h → h.Ns mainGlobals mg → mg d.name = some (.ref fa) →
      ∃ (fd : FuncData) (cs : Tabs0), (∀ p ∈ cs, ∃ (y : Str) (e : DefRec), (recsOf q).find? (fun e => e.name == y) = some e ∧ PySem.W.tabIn (K w.params) y = some (p.1, p.2.1)) ∧ (∀ p ∈ cs, (K w.params).lookup p.2.1 = none) ∧ (cs.map (·.2.1)).Nodup ∧
        (∀ (s : Shared) (u : Value), BindsTo s fd ⟨[u], []⟩ [(x, u)]) ∧ ∀ base : Heap, (K w.params).In base → base.Ns mainGlobals mg → (∀ p ∈ cs, LamX.TabB base mg p.1 p.2.1) → ∀ ns : List Int, ns.length ≤ n → (∀ z ∈ ns, Builtin.Int.intBits z ≤ 1048576) →
        ∃ (mf : List D → AH → Res D) (AE : AH), mf [.lst (ns.map D.int)] (tabs0 cs) = .ok (.bl true) AE ∧ FnD l.prog w (K w.params) mg base k fa fd [x] mf) :
    PySem.W.WalkO q loose XP YP l.row.toRowW d [] (fun f vs => PySem.call f vs) := by
  refine Att.attach_callB hn hdf fun w s0 s1 mg mb fa o pm cd doc a us ns G Y ha hb hc hm hobj hi hlen hbits hg => ?_
  have kin := hY w _ Y
  obtain ⟨fd, cs, hT, nT, nd, bi, hF⟩ := F w mg fa _ kin G.T.g hm
  have tabs : ∀ p ∈ cs, PySem.W.CodeHd s1.heap p.1 p.2.1 ∧ s1.heap.get? p.2.1 = some { cls := .none, data := .fields #[] } := fun p hp => by
    obtain ⟨y, e, h1, h2⟩ := hT p hp
    exact PySem.W.tab_of G.T kin h1 h2
  exact law_run kin G.T.g G.T.b G.T.builtins G.T.nolimit hg (fun p hp => (tabs p hp).2) nT (fun p hp => (tabs p hp).1) nd G.T.bmain hobj hi (Nat.le_trans hlen hz) room (fun base h1 h2 h3 => hF base h1 h2 h3 ns hlen hbits) bi
end DM
end
section
set_option maxHeartbeats 2000000
namespace DM
open PySem PySem.Spec PyProof.Rows L2
section
variable {X : Cx} {W : WX} {a b c e o i tg iter elt : Expr} {es ifs : List Expr} {ma mb mc me mo mi : ME} {pos p p2 tpos : Pos}
/-- o[i] = e, o a changing list -/
def mSto (me mo mi : ME) : MS := fun ρ A => lift (me ρ A) ρ fun v A1 => lift (mo ρ A1) ρ fun o A2 => lift (mi ρ A2) ρ fun i A3 => match o, i with
  | .ref n, .int k => (match A3[n]? with
    | some (.lst xs) => (match ixN xs.length k with
      | some j => .nx ρ (A3.set n (.lst (xs.set j v)))
      | none => .no)
    | _ => .no)
  | _, _ => .no
theorem s_setI (he : DE X W e me) (hg : PG X (.Subscript o i tpos) (gSub (tE X.K W mo) (tE X.K W mi) rSetL))
    (hs : swapsWithSole [.Subscript o i tpos] e pos.line X.env = pure false := by rfl) (hw : swappedStores [.Subscript o i tpos] e X.env = pure none := by rfl) (h1 : (assignEach [.Subscript o i tpos] X.env).map (·.2) = [assign (.Subscript o i tpos) X.env] := by rfl) :
    DS X W (.Assign [.Subscript o i tpos] e pos) (mSto me mo mi) := by
  refine PSi (ps_asg he hg hs hw h1) fun D0 σ H ⟨m, A, ρ, R, E, h⟩ => tE.lift R E h fun m1 A1 d v H1 e1 R1 E1 r1 h1 => tE.lift R1 E1 h1 fun m2 A2 d2 v2 H2 e2 R2 E2 r2 h2 => tE.lift R2 E2 h2 fun m3 A3 d3 v3 H3 e3 R3 E3 r3 h3 => ?_
  split at h3
  · rename_i n k
    cases r3
    cases r2 with
    | ref hm =>
      rename_i q
      have hm3 := e3.get hm
      split at h3
      · rename_i xs hA
        obtain ⟨us, h4, rs⟩ := R3.lst hm3 hA
        split at h3
        · rename_i j hj
          refine ⟨q, us, k, j, rfl, rfl, h4, by rw [← rs.length]; exact hj, ?_⟩
          obtain ⟨R4, e4⟩ := R3.write (H' := upd H3 q (.lst (us.set j v))) (o := .lst (xs.set j d)) hm3 (fun p u hp z => by rw [upd_ne hp]; exact z) fun e => ⟨_, upd_same, RDs.mono e _ _ (rs.set (RD.mono (e2.trans e3) _ _ r1) j)⟩
          exact PostS.nx R4 (E3.mono e4) (PostS.mono e4 h3)
        · exact h3.elim
      · exact h3.elim
  · exact h3.elim
end
/-! ### a promise made simpler: what is left over of new objects is dropped -/
abbrev cloO (n : Nat) (o : AO) : Prop := clos n o.vals
def ClosedA (A : AH) : Prop := ∀ o ∈ A, cloO A.length o
theorem cut_r {m : Mp} {n : Nat} (i : Nat) (a : Addr) (c : i < n) (h : m.1[i]? = some a) : (m.1.take n, m.2).1[i]? = some a := by
  show (m.1.take n)[i]? = _
  rw [List.getElem?_take_of_lt c]; exact h
theorem cut_o {m : Mp} {n : Nat} {H : Hp} (a : Addr) (o : HO) (e : H a = some o) (h : Out m a) : H a = some o ∧ Out (m.1.take n, m.2) a := ⟨e, fun y => h.1 (List.mem_of_mem_take y), h.2⟩
theorem RD.cut {K : PySem.W.Frag} {m : Mp} {H : Hp} {n : Nat} (d : D) (v : V) (c : DM.clo n d) (h : RD K m H d v) : RD K (m.1.take n, m.2) H d v := RD.moveN cut_r cut_o d v c h
theorem RDs.cut {K : PySem.W.Frag} {m : Mp} {H : Hp} {n : Nat} (d : List D) (v : List V) (c : DM.clos n d) (h : RDs K m H d v) : RDs K (m.1.take n, m.2) H d v := RDs.moveN cut_r cut_o d v c h
theorem Rel.cut {K : PySem.W.Frag} {m : Mp} {A A1 : AH} {H : Hp} (R : Rel K m A H) (h1 : A.take A1.length = A1) (h2 : ClosedA A1) : Rel K (m.1.take A1.length, m.2) A1 H := by
  have hle : A1.length ≤ A.length := by rw [← h1, List.length_take]; exact Nat.min_le_right _ _
  refine ⟨by show (m.1.take A1.length).length = _; rw [List.length_take, R.len]; omega, R.nd.sublist (List.take_sublist _ _), R.pv, fun n o hn => ?_⟩
  have hlt : n < A1.length := (List.getElem?_eq_some_iff.mp hn).1
  have hA : A[n]? = some o := by
    rw [← h1, List.getElem?_take_of_lt hlt] at hn; exact hn
  obtain ⟨q, h3, h4⟩ := R.obj n o hA
  refine ⟨q, by show (m.1.take A1.length)[n]? = _; rw [List.getElem?_take_of_lt hlt]; exact h3, ?_⟩
  have hc := h2 o (List.mem_of_getElem? hn)
  exact h4.moveN cut_r cut_o rfl hc
theorem Ext.cut {m m' : Mp} {H H' : Hp} {n : Nat} (e : Ext m H m' H') (h : m.1.length ≤ n) : Ext m H (m'.1.take n, m'.2) H' := by
  obtain ⟨l, hl⟩ := e.pre
  refine ⟨⟨l.take (n - m.1.length), ?_⟩, e.sub, e.pvs, fun p hp => e.new p (List.mem_of_mem_take hp), e.keep⟩
  show m'.1.take n = _
  rw [hl, List.take_append, List.take_of_length_le h]
end DM
end
section
set_option maxHeartbeats 1000000
namespace DM
open PySem PySem.Spec PyProof.Rows L2
/-! ### running mirrors: one row a form, all applied -/
section
variable {ρ : DM.Env} {A : AH} {i j l n m a : Nat} {d : D} {f : D → D → AH → Res D} {g : List D → AH → Res D} {g2 : Nat → List D → AH → Res D} {ma mb mc me mo : ME} {mt mu : MT} {ms mk : MA} {ml mh : MO} {mi : MI} {sa sb : MS} {t : Tg} {ts : List Tg} {pm vs : List Nat} {b : Bool}
theorem ev_var : mVar i ρ A = (match ρ[i]? with | some (some d) => .ok d A | _ => .no) := id rfl
theorem ev_K : mK d ρ A = .ok d A := id rfl
theorem ev_op : mOp f ma mb ρ A = (ma ρ A).bind fun x A1 => (mb ρ A1).bind fun y A2 => f x y A2 := id rfl
theorem ev_neg : mNeg ma ρ A = (ma ρ A).bind fun d A1 => (match d with | .int i => .ok (.int (-i)) A1 | _ => .no) := id rfl
theorem ev_tst : mTst me ρ A = (me ρ A).bind fun d A1 => (match d with | .bl k => .ok k A1 | _ => .no) := id rfl
theorem ev_and : mAnd mt mu ρ A = (mt ρ A).bind fun k A1 => if k = true then mu ρ A1 else .ok false A1 := id rfl
theorem ev_or : mOr mt mu ρ A = (mt ρ A).bind fun k A1 => if k = true then .ok true A1 else mu ρ A1 := id rfl
theorem ev_not : mNot mt ρ A = (mt ρ A).bind fun k A1 => .ok (!k) A1 := id rfl
theorem ev_andV : mAndV ma mb ρ A = (ma ρ A).bind fun d A1 => (match d with | .bl true => mb ρ A1 | .bl false => .ok (.bl false) A1 | _ => .no) := id rfl
theorem ev_orV : mOrV ma mb ρ A = (ma ρ A).bind fun d A1 => (match d with | .bl true => .ok (.bl true) A1 | .bl false => mb ρ A1 | _ => .no) := id rfl
theorem ev_notV : mNotV ma ρ A = (ma ρ A).bind fun d A1 => (match d with | .bl k => .ok (.bl (!k)) A1 | _ => .no) := id rfl
theorem ev_if : mIf mt ma mb ρ A = (mt ρ A).bind fun k A1 => if k = true then ma ρ A1 else mb ρ A1 := id rfl
theorem ev_chn {f2 : D → D → AH → Res D} : mChn f f2 ma mb mc ρ A = (ma ρ A).bind fun x A1 => (mb ρ A1).bind fun y A2 => (f x y A2).bind fun z A3 => (match z with | .bl true => (mc ρ A3).bind fun w A4 => f2 y w A4 | .bl false => .ok (.bl false) A3 | _ => .no) := id rfl
theorem ev_nil : mNil ρ A = .ok [] A := id rfl
theorem ev_cons : mCons me ms ρ A = (me ρ A).bind fun d A1 => (ms ρ A1).bind fun ds A2 => .ok (d :: ds) A2 := id rfl
theorem ev_tup : mTup ms ρ A = (ms ρ A).bind fun ds A1 => if ds.length ≤ 1000 then .ok (.tup ds) A1 else .no := id rfl
theorem ev_lst : mLst ms ρ A = (ms ρ A).bind fun ds A1 => if ds.length ≤ 1000 then .ok (.lst ds) A1 else .no := id rfl
theorem ev_new : mNew ms ρ A = (ms ρ A).bind fun ds A1 => if ds.length ≤ 1000 then .ok (.ref A1.length) (A1 ++ [.lst ds]) else .no := id rfl
theorem ev_call : mCall g ms ρ A = (ms ρ A).bind fun ds A1 => g ds A1 := id rfl
theorem ev_callF : mCallF n g ms ρ A = (ms ρ A).bind fun ds A1 => if ds.length = n then g ds A1 else .no := id rfl
theorem ev_callK : mCallK n l a pm g ms mk ρ A = (ms ρ A).bind fun ds A1 => (mk ρ A1).bind fun es A2 => if ds.length = n ∧ es.length = l ∧ (DM.pick pm (ds ++ es)).length = a then g (DM.pick pm (ds ++ es)) A2 else .no := id rfl
theorem ev_met : mMet g2 mo ms ρ A = (mo ρ A).bind fun d A1 => (match d with | .ref n => (match A1[n]? with | some (.lst _) => (ms ρ A1).bind fun ds A2 => g2 n ds A2 | _ => .no) | _ => .no) := id rfl
theorem ev_sl : mSl me ml mh ρ A = (me ρ A).bind fun d A1 => (ml ρ A1).bind fun lo A2 => (mh ρ A2).bind fun hi A3 => fSl d lo hi A3 := id rfl
theorem ev_some : mSome me ρ A = (me ρ A).bind fun d A1 => (match d with | .int i => .ok (some i) A1 | _ => .no) := id rfl
theorem ev_none : mNone ρ A = .ok none A := id rfl
theorem ev_rev : mRev b me ρ A = (me ρ A).bind fun d A1 => if isTup d = true then .no else (match seqOf A1 d with | some xs => if b then .ok (.ref A1.length) (A1 ++ [.lst xs.reverse]) else .ok (.lst xs.reverse) A1 | none => .no) := id rfl
theorem ev_lc : mLc b mi t mt me vs ρ A = (mi ρ A).bind fun iv A1 => (match itemsOf A1 iv with | some all => if all.length ≤ 16777216 then (compGo iv all t mt me (wipeD ρ vs) all [] A1).bind fun acc A2 => if b = true then .ok (.ref A2.length) (A2 ++ [.lst acc]) else .ok (.lst acc) A2 else .no | none => .no) := id rfl
theorem ev_yes : mYes ρ A = .ok true A := id rfl
theorem ev_sq : mSq me ρ A = (me ρ A).bind fun d A1 => (match seqOf A1 d with | some _ => .ok (.sq d) A1 | none => .no) := id rfl
theorem ev_r1 : mR1 ms ρ A = (ms ρ A).bind fun ds A1 => (match ds with | [.int j] => if -(2 ^ 62) ≤ j ∧ j < 2 ^ 62 then .ok (.rng 0 j) A1 else .no | _ => .no) := id rfl
theorem ev_next : mNext ρ A = .nx ρ A := id rfl
theorem ev_drop : mDrop me ρ A = lift (me ρ A) ρ fun _ A1 => .nx ρ A1 := id rfl
theorem ev_ret : mRet me ρ A = lift (me ρ A) ρ fun d A1 => .rt d A1 := id rfl
theorem ev_ifs : mIfS mt sa sb ρ A = lift (mt ρ A) ρ fun k A1 => if k = true then sa ρ A1 else sb ρ A1 := id rfl
theorem ev_set : mSet i me ρ A = lift (me ρ A) ρ fun d A1 => .nx (ρ.set i (some d)) A1 := id rfl
theorem ev_par2 : mPar2 i j ms ρ A = lift (ms ρ A) ρ fun ds A1 => (match ds with | [x, y] => .nx ((ρ.set i (some x)).set j (some y)) A1 | _ => .no) := id rfl
theorem ev_par3 : mPar3 i j l ms ρ A = lift (ms ρ A) ρ fun ds A1 => (match ds with | [x, y, z] => .nx (((ρ.set i (some x)).set j (some y)).set l (some z)) A1 | _ => .no) := id rfl
theorem ev_asg : mAsg t me ρ A = lift (me ρ A) ρ fun d A1 => (match bindT t d ρ with | some ρ1 => .nx ρ1 A1 | none => .no) := id rfl
theorem ev_for : mFor mi t sb ρ A = lift (mi ρ A) ρ fun iv A1 => (match itemsOf A1 iv with | some all => forGo iv all t sb all ρ A1 | none => .no) := id rfl
theorem ev_nm : bindT (.nm i) d ρ = some (ρ.set i (some d)) := id rfl
theorem seq_nx {ρ1 : DM.Env} {A1 : AH} (h : sa ρ A = .nx ρ1 A1) : mSeq sa sb ρ A = sb ρ1 A1 := by unfold mSeq; rw [h]
theorem seq_rt {d : D} {A1 : AH} (h : sa ρ A = .rt d A1) : mSeq sa sb ρ A = .rt d A1 := by unfold mSeq; rw [h]
theorem fun_rt {ds : List D} {d : D} {A1 : AH} (h : sa (ds.map some ++ List.replicate (n - ds.length) none) A = .rt d A1) : mFun n sa ds A = .ok d A1 := by unfold mFun; rw [h]
end
/-- a range; not for the simplifier: over a number that is a length the kernel would count -/
theorem r1_at {ms : MA} {ρ : DM.Env} {A A1 : AH} {j : Int} (h : ms ρ A = .ok [.int j] A1) (hz : -(2 ^ 62) ≤ j ∧ j < 2 ^ 62) : mR1 ms ρ A = .ok (.rng 0 j) A1 := by
  unfold mR1
  rw [h, bind_ok]
  exact if_pos hz
/-- for, one turn -/
theorem for_nil {iv : ItV} {all : List D} {t : Tg} {sb : MS} {ρ : DM.Env} {A : AH} (h : itemsOf A iv = some all) : forGo iv all t sb [] ρ A = .nx ρ A := by
  unfold forGo; rw [if_pos h]
theorem for_nx {iv : ItV} {all xs : List D} {x : D} {t : Tg} {sb : MS} {ρ ρ1 ρ2 : DM.Env} {A A2 : AH} (h : itemsOf A iv = some all) (hb : bindT t x ρ = some ρ1) (hs : sb ρ1 A = .nx ρ2 A2) : forGo iv all t sb (x :: xs) ρ A = forGo iv all t sb xs ρ2 A2 := by
  conv => lhs; unfold forGo
  rw [if_pos h, hb]
  simp only [hs]
def EVa := And.intro (And.intro (And.intro (And.intro (And.intro (@ev_var) (@ev_K)) (And.intro (@ev_op) (@ev_neg))) (And.intro (And.intro (@ev_tst) (@ev_and)) (And.intro (@ev_or) (And.intro (@ev_not) (@ev_andV))))) (And.intro (And.intro (And.intro (@ev_orV) (@ev_notV)) (And.intro (@ev_if) (@ev_chn))) (And.intro (And.intro (@ev_nil) (@ev_cons)) (And.intro (@ev_tup) (And.intro (@ev_lst) (@ev_new)))))) (And.intro (And.intro (And.intro (And.intro (@ev_call) (@ev_callF)) (And.intro (@ev_callK) (@ev_met))) (And.intro (And.intro (@ev_sl) (@ev_some)) (And.intro (@ev_none) (And.intro (@ev_rev) (@ev_yes))))) (And.intro (And.intro (And.intro (@ev_sq) (@ev_next)) (And.intro (@ev_drop) (And.intro (@ev_ret) (@ev_ifs)))) (And.intro (And.intro (@ev_set) (@ev_par2)) (And.intro (@ev_par3) (And.intro (@ev_asg) (@ev_nm))))))
end DM
end
section
set_option maxHeartbeats 2000000
/-! own errors: [C, .. own classes .., Exception, BaseException, object] and the like -/
namespace PySem
namespace ErE
open Builtin Builtin.ObjectAttr
/-- own classes, then the built-in base's line -/
inductive Line (bm : List Value) : List Value → Prop
  | tail : Line bm bm
  | own {c : Addr} {r : List Value} : Line bm r → Line bm (.ref c :: r)
/-- the built-in base: what is asked of it -/
structure Base (B newId initId : String) (bm : List Value) : Prop where
  call : ∀ {prog : Program} {w : World} {A : Around} {R : Result → Shared → Prop} {h : Heap} {g : Array GenState} {d : Drawn} {t : Nat} {os : OsState} {nm q : Str} {C N : Addr} {bs l : List Value} {hdct : Bool} {sn : List Str} {sub : List Value} {ab : Bool} {col : Option Bool} {dd : Option Addr} {k0 k1 k2 k3 k5 : Option Value} {rest : List Value} {fI : Addr},
    (∀ X : String, l.contains (.type X) = bm.contains (.type X)) → h.get? C = some (excClassObj nm q C N bs l hdct sn sub ab col dd k0 k1 k2 k3 k5 newId) →
    W.Looks (model prog w) h (typeLookup (.ref C) "__init__") (some (.ref fI)) → (∀ self, W.Looks (model prog w) h (bindSpecial (.ref fI) self) (.ref fI, [self])) → rest.length ≤ sizeLine →
    codeAny (model prog w) (A.under (.builtin "type.__call__" ⟨.ref C :: rest, []⟩)) (.call (.ref fI) ⟨.ref (h.objs.size + 1) :: rest, []⟩) (W.InitBack (h.objs.size + 1) R) ⟨(h.push (W.kdv_tup rest)).push (HandSPX.excO C h.objs.size), g, d, t, os⟩ →
    codeAny (model prog w) A (.call (.ref C) ⟨rest, []⟩) R ⟨h, g, d, t, os⟩
  bound : ∀ {M : Model} {A : Around} {E : Value → Shared → Prop} {h : Heap} {g : Array GenState} {d : Drawn} {t : Nat} {os : OsState} {nm q : Str} {C N e : Addr} {oe : Obj} {bs l : List Value} {hdct : Bool} {sn : List Str} {sub : List Value} {ab : Bool} {col : Option Bool} {dd : Option Addr} {k0 k1 k2 k3 k5 : Option Value} {rest : List Value} {Q : Unit → Shared → Prop},
    h.get? C = some (excClassObj nm q C N bs l hdct sn sub ab col dd k0 k1 k2 k3 k5 newId) → h.get? e = some oe → oe.cls = .ref C → Q () ⟨h, g, d, t, os⟩ → wpAny M A (checkBoundCall initId ⟨.ref e :: rest, []⟩) Q E ⟨h, g, d, t, os⟩
  plain : plainId initId = true
  entry : entryFor table initId = some Builtin.«BaseException.__init__»
  KF : W.KxsFacts B initId
  pass : ∀ self, refuseLoop self "__setattr__" bm = pure ()
  obj : bm.contains (.type "object") = true
  ne : bm.isEmpty = false
theorem base_Exception : Base "Exception" "Exception.__new__" "Exception.__init__" [.type "Exception", .type "BaseException", .type "object"] :=
  ⟨fun hT hC hi hb hr hq => HandSPX.call_own F.excBase_Exception hT hC hi hb hr hq, fun hC he hc hq => W.check_bound_init F.excBase_Exception.toExcCallFacts hC he hc hq, F.excBase_Exception.init.plain, F.excBase_Exception.initEntry,
    W.kxs_Exception, F.store_Exception.passes, by decide +kernel, rfl⟩
theorem Line.pass {bm l : List Value} (p : ∀ self, refuseLoop self "__setattr__" bm = pure ()) (h : Line bm l) (self : Value) : refuseLoop self "__setattr__" l = pure () := by
  induction h with
  | tail => exact p self
  | own _ ih => rw [refuseLoop_ref]; exact ih
theorem Line.has {bm l : List Value} (h : Line bm l) (X : String) : l.contains (.type X) = bm.contains (.type X) := by
  induction h with
  | tail => rfl
  | own _ ih => rw [List.contains_cons, ih]; rfl
theorem Line.ne {bm l : List Value} (n : bm.isEmpty = false) (h : Line bm l) : l.isEmpty = false := by
  cases h with
  | tail => exact n
  | own _ => rfl
section
variable {prog : Program} {w : World} {A : Around} {E : Value → Shared → Prop} {R : Result → Shared → Prop} {hp : Heap} {g : Array GenState} {d : Drawn} {t : Nat} {os : OsState} {B newId initId : String} {bm : List Value}
/-- the first field of an error without a dict -/
theorem first_field {K : W.Frag} {f : Str} {tk : Tok} {v : Value} {e C : Addr} {fv : Array Value} {cd : ClassData} (BF : Base B newId initId bm)
    (KI : K.In hp) (he : hp.get? e = some { cls := .ref C, data := .fields fv }) (hcd : W.clsIn K C = some cd) (hl : Line bm cd.mro) (hdct : cd.hasDict = true) (hno : W.findIn K (.ref C) f = some none)
    (fin : ∀ h2 tk2 dx, (∀ b o, b ≠ e → hp.get? b = some o → h2.get? b = some o) → hp.objs.size ≤ dx → dx ≠ e → h2.get? e = some { cls := .ref C, dict := some dx, data := .fields fv } →
      h2.Ns1 dx (fun y => if y = f then some v else none) → R (.ok (.ret .none)) ⟨h2, g, d, tk2, os⟩) :
    codeAny (model prog w) A (.call (.builtin "object.__setattr__") ⟨[.ref e, .str f tk, v], []⟩) R ⟨hp, g, d, t, os⟩ := by
  have J : W.InstAt hp e { cls := .ref C, data := .fields fv } C none := ⟨he, rfl, rfl, trivial⟩
  have ob := F.store_object
  have isO : cd.mro.contains (.type "object") = true := by rw [hl.has]; exact BF.obj
  have far : e ≠ hp.objs.size := Nat.ne_of_lt (Heap.lt_size he)
  have inO : W.Looks (model prog w) hp (isInstance (.ref e) (.type "object")) true := J.type.andThen (W.looks_mroIn KI (by
    unfold W.mroIn
    rw [hcd, Option.bind_some, if_neg (by rw [hl.ne BF.ne]; decide), isO]))
  refine codeAny_call_builtin ob.slot.plain ob.entry ?_
  refine @W.check_slot (model prog w) _ _ ⟨hp, g, d, t, os⟩ "object.__setattr__" "object" "__setattr__" (.ref e) [.str f tk, v] [] _ ob.kind ob.split inO (ob.args (.ref e) (.str f tk) v) ?_
  have lineIs : W.Looks (model prog w) hp (mroOf (.ref C)) cd.mro := (W.looks_clsIn KI hcd).andThen .now
  have none3 : W.Looks (model prog w) hp (storeTaker? none) none := .now
  have data : W.Looks (model prog w) hp (classData C) cd := W.looks_clsIn KI hcd
  rw [W.osa_eq, refuse_eq]
  refine wpAny_bind (wpAny_bind (J.type.at ?_))
  refine wpAny_bind (lineIs.at ?_)
  rw [hl.pass BF.pass]
  refine wpAny_pure (wpAny_bind (J.type.at ?_))
  refine wpAny_bind ((W.looks_findIn KI hno).at (wpAny_bind (none3.at ?_)))
  show wpAny _ _ (storeInOwnDict (.ref e) (.ref C) (.str f tk) f v false) _ _ _
  obtain ⟨nm, bs, mro, ns, qn, hd, sn, sb, ab, col, del⟩ := cd
  dsimp only at hdct
  subst hdct
  unfold storeInOwnDict ownDictForStores
  repeat (first | with_reducible refine HandSPX.store_in_new ?_ ?_ | with_reducible refine wpAny_loadPart_at he ?_ | with_reducible refine data.at ?_ | wp_step)
  · refine ⟨_, #[], _, (Heap.get?_update_ne _ _ _ _ far.symm).trans (Heap.get?_push_at rfl rfl), rfl, ?_, fun _ => rfl⟩
    intro y hy
    exact absurd hy (by simp)
  · intro h2 tk2 hn2 same
    have he1 : (hp.push { cls := .type "dict", data := .dict #[] }).get? e = some { cls := .ref C, data := .fields fv } := Heap.get?_push_of_some _ he
    refine fin h2 tk2 hp.objs.size ?_ (Nat.le_refl _) far.symm ((same.2 e far).trans (Heap.get?_update_self _ he1 rfl)) hn2
    intro b o hb ho
    exact (same.2 b (Nat.ne_of_lt (Heap.lt_size ho))).trans ((Heap.get?_update_ne _ _ _ _ hb).trans (Heap.get?_push_of_some _ ho))
/-- the built-in __init__, bound to the error, is called: the args are laid anew -/
theorem mw_call {C e u t0 : Addr} {nm q : Str} {N : Addr} {bs bm1 : List Value} {hdct : Bool} {sn : List Str} {sub : List Value} {ab : Bool} {col : Option Bool} {dd : Option Addr} {k0 k1 k2 k3 k5 : Option Value} {rest : List Value} {Q : Value → Shared → Prop} (BF : Base B newId initId bm)
    (hC : hp.get? C = some (excClassObj nm q C N bs bm1 hdct sn sub ab col dd k0 k1 k2 k3 k5 newId)) (he : hp.get? e = some (HandSPX.excO C t0)) (hu : hp.get? u = some (W.kxs_mw initId e)) (hz : rest.length ≤ sizeLine)
    (fin : ∀ h' t1, (∀ b o, b ≠ e → hp.get? b = some o → h'.get? b = some o) → h'.get? e = some (HandSPX.excO C t1) → Q .none ⟨h', g, d, t, os⟩) :
    wpAny (model prog w) A (call (.ref u) rest) Q E ⟨hp, g, d, t, os⟩ := by
  refine wpAny_call (codeAny_of_tree ?_)
  show wpAny _ A.in1 (callAny (.ref u) ⟨rest, []⟩) _ _ _
  simp only [callAny]
  refine wpAny_bind (wpAny_load hu ?_)
  simp only [W.kxs_mw, show (Value.type "method-wrapper" == Value.type "method" || Value.type "method-wrapper" == Value.type "builtin_function_or_method" || Value.type "method-wrapper" == Value.type "method-wrapper") = true by decide, if_true]
  refine W.KFB.if_so (by decide) ?_
  refine wpAny_bind (BF.bound hC he rfl ?_)
  refine wpAny_bind (wpAny_pure (wpAny_pure ?_))
  refine ⟨plainId_quiet BF.plain _, codeAny_builtin BF.entry ?_⟩
  exact W.exc_init_tree (cls := .ref C) (t0 := t0) (dv := none) (c2 := .none) (c3 := .none) (b4 := .bool false) he hz fun h' k e1 _ => fin h' _ k e1
end
/-- what the written part says of an error's class; its __init__ is super().__init__(x); self.f = x -/
structure ErrC (prog : Program) (K : W.Frag) (B newId initId : String) (bm : List Value) (C fI : Addr) (f : Str) : Prop where
  base : Base B newId initId bm
  cls : ∃ nm q N bs bm1 sn sub ab col dd k0 k1 k2 k3 k5, K.lookup C = some (excClassObj nm q C N bs bm1 true sn sub ab col dd k0 k1 k2 k3 k5 newId) ∧ Line bm bm1
  sa : W.findIn K (.ref C) "__setattr__" = some (some (.builtin "object.__setattr__"))
  ini : W.findIn K (.ref C) "__init__" = some (some (.ref fI))
  tI : W.typeIn K (.ref fI) = some (.type "function")
  fld : W.findIn K (.ref C) f = some none
  sup : W.ks_superIn K C C "__init__" = some (some (.builtin initId))
  subB : W.subIn K (.ref C) (.type B) = some true
  opq : W.nsIn K cStatics "thirdparty.any" = some none
  top : (prog.main.scope.names.lookup ("super" : Str)).isSome = false
  fn : ∃ (oc : Value) (od : Option Addr) (osl : Array (Option Value)) (qual : Str) (params : Arguments) (scope : Scope) (dV kV doc pm ct : Value) (an : Option Addr) (cda cc : Addr) (x : Str) (p0 p1 p2 p3 p4 p5 p6 p7 p8 p9 : Pos),
    K.lookup fI = some ⟨oc, od, .func (W.ksFn "__init__" qual params [.Expr (.Call (.Attribute (.Call (.Name "super" p0) [] [] p1) "__init__" p2) [.Name x p3] [] p4) p5, .Assign [.Attribute (.Name "self" p6) f p7] (.Name x p8) p9] scope dV kV doc pm an (.ref cda) ct cc), osl⟩ ∧
      W.codeIn K (.ref cda) qual = true ∧ (∃ (ccl : Value) (cdd : Option Addr) (vs : Array Value) (ccs : Array (Option Value)) (file : Str) (tf : Tok), K.lookup cda = some ⟨ccl, cdd, .fields vs, ccs⟩ ∧ vs[2]? = some (.str file tf) ∧ ((prog.main.file : Str) == file) = true) ∧
      (∃ (cl : Value) (cld : Option Addr) (csl : Array (Option Value)), K.lookup cc = some ⟨cl, cld, .cell (some (.ref C)), csl⟩) ∧
      scope.names.lookup ("super" : Str) = some .globalImplicit ∧ scope.names.lookup ("__class__" : Str) = some .free ∧ scope.names.lookup ("self" : Str) = some .local ∧ scope.names.lookup x = some .local ∧ x ≠ "self" ∧ (x == ("__debug__" : Str)) = false ∧ (∀ y ∈ scope.names, y.2 ≠ .cell) ∧ scope.kind = .function ∧ scope.isCoroutine = false ∧ scope.isGenerator = false ∧ (p2.endLine == p4.line) = true ∧
      ((params.posonlyargs ++ params.args).head?.map (·.arg) = some "self") ∧
      ∀ (s : Shared) (a b : Value), BindsTo s (W.ksFn "__init__" qual params [.Expr (.Call (.Attribute (.Call (.Name "super" p0) [] [] p1) "__init__" p2) [.Name x p3] [] p4) p5, .Assign [.Attribute (.Name "self" p6) f p7] (.Name x p8) p9] scope dV kV doc pm an (.ref cda) ct cc) ⟨[a, b], []⟩ [("self", a), (x, b)]
open PySem.W PySem.Calls PyProof.Rows in
/-- C(u) -/
theorem make_err {prog : Program} {w : World} {A : Around} {R : Result → Shared → Prop} {h : Heap} {g : Array GenState} {d : Drawn} {t : Nat} {os : OsState} {K : W.Frag} {B newId initId : String} {bm : List Value} {C fI : Addr} {f : Str} {u : Value} {mg : Str → Option Value}
    (T : ErrC prog K B newId initId bm C fI f) (M : L2.Mod K mg h) (hsup : mg "super" = none) (room : (A.under (.builtin "type.__call__" ⟨.ref C :: [u], []⟩)).depth < recursionLimit)
    (fin : ∀ e h2 t2 dx t1, (∀ b o, h.get? b = some o → h2.get? b = some o) → h.objs.size ≤ e → h.objs.size ≤ dx → dx ≠ e →
      h2.get? e = some { cls := .ref C, dict := some dx, data := .fields #[.ref t1, .none, .none, .none, .bool false, .none] } → h2.Ns1 dx (fun y => if y = f then some u else none) → R (.ok (.ret (.ref e))) ⟨h2, g, d, t2, os⟩) :
    codeAny (model prog w) A (.call (.ref C) ⟨[u], []⟩) R ⟨h, g, d, t, os⟩ := by
  obtain ⟨nm, q, N, bs, bm1, sn, sub, ab, col, dd, k0, k1, k2, k3, k5, hC, hl⟩ := T.cls
  have hcd : W.clsIn K C = some { name := nm, bases := bs, mro := .ref C :: bm1, ns := N, qualname := q, hasDict := true, slotNames := sn, subclasses := sub, abstract := ab, collection := col, hasDel := false } := by unfold W.clsIn; rw [hC] <;> rfl
  refine T.base.call (fun Y => hl.has Y) (M.kin _ _ hC) (looks_findIn M.kin T.ini) (fun self => bind_fn M.kin self T.tI) (by show 1 ≤ sizeLine; rw [sizeLine_eq]; omega) ?_
  obtain ⟨oc, od, osl, qual, params, scope, dV, kV, doc, pm, ct, an, cda, cc, x, p0, p1, p2, p3, p4, p5, p6, p7, p8, p9, lk, hcode, ⟨ccl, cdd, vs, ccs, file, tf, hcc, hvs, hfile⟩, ⟨cl, cld, csl, hcell⟩, ks, kc, kself, kx, nxs, hdb, ncell, hk, hco, hgen, hline, hfirst, bi⟩ := T.fn
  generalize hE : A.under (.builtin "type.__call__" ⟨.ref C :: [u], []⟩) = A2 at room ⊢
  have kp : ∀ b o, h.get? b = some o → ((h.push (kdv_tup [u])).push (HandSPX.excO C h.objs.size)).get? b = some o := fun b o e => Heap.get?_push_of_some _ (Heap.get?_push_of_some _ e)
  have hget : ((h.push (kdv_tup [u])).push (HandSPX.excO C h.objs.size)).get? (h.objs.size + 1) = some (HandSPX.excO C h.objs.size) := by heap_get
  have hsz1 : h.objs.size ≤ h.objs.size + 1 := Nat.le_succ _
  have hM1 : L2.Mod K mg ((h.push (kdv_tup [u])).push (HandSPX.excO C h.objs.size)) := by
    obtain ⟨a1, a2, ⟨mb, a3, a4⟩, a5⟩ := M
    exact ⟨a1.keeps kp, a2.keeps kp, ⟨mb, a3.keeps kp, a4⟩, a5.keeps kp⟩
  generalize h.objs.size + 1 = e at hget hsz1 ⊢
  generalize hh1 : (h.push (kdv_tup [u])).push (HandSPX.excO C h.objs.size) = h1 at *
  generalize h.objs.size = t0 at hget
  have hloc : ∀ y ∈ ([("self", .ref e), (x, u)] : List (Str × Value)), scope.names.lookup y.1 = some .local := by
    intro y hy
    rcases List.mem_cons.mp hy with rfl | hy
    · exact kself
    · rw [List.mem_singleton.mp hy]; exact kx
  refine ks_codeAny_call_defAt (h := ?_) (binds := ([("self", .ref e), (x, u)] : List (Str × Value))) room (hM1.kin _ _ lk) rfl hM1.nolimit (codeRec_of hM1.kin hcode) rfl (bi _ _ _) ncell hloc hco hgen hk
  intro h2 hns k2
  have hM2 : L2.Mod K mg h2 := by
    obtain ⟨a1, a2, ⟨mb, a3, a4⟩, a5⟩ := hM1
    exact ⟨a1.keeps k2, a2.keeps k2, ⟨mb, a3.keeps k2, a4⟩, a5.keeps k2⟩
  have he2 := k2 _ _ hget
  have vself : (fun y => ([("self", Value.ref e), (x, u)] : List (Str × Value)).reverse.lookup y) "self" = some (.ref e) := by
    show List.lookup ("self" : Str) ([(x, u), ("self", Value.ref e)] : List (Str × Value)) = _
    rw [List.lookup_cons, show (("self" : Str) == x) = false by simpa using Ne.symm nxs]
    rfl
  have vx : (fun y => ([("self", Value.ref e), (x, u)] : List (Str × Value)).reverse.lookup y) x = some u := by
    show List.lookup x ([(x, u), ("self", Value.ref e)] : List (Str × Value)) = _
    rw [List.lookup_cons, show (x == x) = true by simp]
  obtain ⟨oD, hD1, hD2⟩ : ∃ oD, h2.get? C = some oD ∧ ∃ cd, oD.data = .cls cd := ⟨_, hM2.kin _ _ hC, _, rfl⟩
  obtain ⟨cdD, hD2⟩ := hD2
  obtain ⟨mb, hmb, hmbb⟩ := hM2.blt
  have Ie : InstAt h2 e (HandSPX.excO C t0) C none := ⟨he2, rfl, rfl, trivial⟩
  have subC : mroIn K C (.ref C) = some true := by
    unfold mroIn
    rw [hcd, Option.bind_some]
    simp
  refine ks_wpAt_execs_cons (ks_wpAt_Expr_any (ks_wpAt_MethodCall (pl := (do return (← importBound (.Call (.Name "super" p0) [] [] p1) (callEnv (ksFn "__init__" qual params [.Expr (.Call (.Attribute (.Call (.Name "super" p0) [] [] p1) "__init__" p2) [.Name x p3] [] p4) p5, .Assign [.Attribute (.Name "self" p6) f p7] (.Name x p8) p9] scope dV kV doc pm an (.ref cda) ct cc) h1.objs.size fI)).getD true)) ?_ ?heq) ?hint)
  case hint =>
    show interactive _ = false
    unfold interactive
    simp [callEnv, newEnv, hk]
  case heq =>
    rw [arm_eval_Call]
    simp only [methodCall, methodCallPos, hline, Bool.or_true, if_true, bind_pure_comp, pure_bind, bind_assoc]
    rfl
  cases hfa : (params.posonlyargs ++ params.args).head? with
  | none => rw [hfa] at hfirst; cases hfirst
  | some ar =>
  rw [hfa] at hfirst
  have har : ar.arg = "self" := Option.some.inj hfirst
  refine ks_wpAt_super_base (fd := ksFn "__init__" qual params _ scope dV kV doc pm an (.ref cda) ct cc) ks kc (by decide +kernel) rfl (hM2.kin _ _ lk) rfl hfa rfl (hM2.kin _ _ hcc) rfl hvs hfile T.top ?_
  refine ks_loadName_global hk ks (loadGlobal_builtin hM2.glob hsup hmb ((hmbb _ (by decide +kernel)).trans PyProof.Rows.Boot.«super») ⟨rfl, ?_⟩)
  refine wpAny_loadName_free hk kc rfl ⟨_, hM2.kin _ _ hcell, rfl⟩ ?_
  rw [har]
  refine wpAny_loadName_local hk kself hns vself ?_
  refine ks_wpAny_isType_cls hD1 hD2 ⟨rfl, ?_⟩
  refine ks_wpAny_call_super hD1 hD2 he2 rfl (fun c z => by cases z) (looks_mroIn hM2.kin subC) (fun h3 e3 k3 => ?_)
  have k13 : ∀ b o, h1.get? b = some o → h3.get? b = some o := fun b o z => k3 b o (k2 b o z)
  have KX3 : K.In h3 := hM2.kin.keeps k3
  have he3 := k3 _ _ he2
  have Ie3 : InstAt h3 e (HandSPX.excO C t0) C none := ⟨he3, rfl, rfl, trivial⟩
  have hsup2 := T.sup
  unfold ks_superIn at hsup2
  rw [hcd, Option.bind_some] at hsup2
  refine kxs_getMethod T.base.KF e3 (looks_opaque KX3 T.opq) (l₀ := .ref C :: bm1) ?_ rfl KX3 hsup2 (Ie3.type.andThen (looks_subIn KX3 T.subB)) (ks_ne KX3 Ie3 hcd) (by decide +kernel) ?_
  · exact fun A Q E s k q => wpAny_bind ((looks_clsIn KX3 hcd) A _ E s k (wpAny_pure q))
  have hu4 : (h3.push (kxs_mw initId e)).get? h3.objs.size = some (kxs_mw initId e) := Heap.get?_push_at rfl rfl
  have k4 : ∀ b o, h3.get? b = some o → (h3.push (kxs_mw initId e)).get? b = some o := fun b o z => Heap.get?_push_of_some _ z
  generalize h3.push (kxs_mw initId e) = h4 at hu4 k4 ⊢
  generalize h3.objs.size = uu at hu4 ⊢
  have hns4 := (hns.keeps k3).keeps k4
  refine kxs_callWith (i := initId) (x := e) (by rfl) (evalArgs_plain ?_)
  show wpAny _ _ (spliced ((false, eval (.Name x p3) _) :: backTo p4 (starEach [] _))) _ _ _
  refine Calls.spliced_cons (wpAny_Name (wpAny_loadName_local hk kx hns4 vx (Calls.spliced_nil ⟨hu4, ?_⟩)) hdb)
  refine mw_call T.base (KX3.keeps k4 _ _ hC) (k4 _ _ he3) hu4 (by show 1 ≤ sizeLine; rw [sizeLine_eq]; omega) fun h5 t1 k5 e5 => ?_
  have nL : h1.objs.size ≠ e := Nat.ne_of_gt (Heap.lt_size hget)
  have hns5 : h5.Ns h1.objs.size (fun y => ([("self", Value.ref e), (x, u)] : List (Str × Value)).reverse.lookup y) := by
    obtain ⟨o, es, ep, a, b, c⟩ := hns4
    exact ⟨o, es, ep, k5 _ _ nL a, b, c⟩
  have old : ∀ b o, h.get? b = some o → b ≠ e := fun b o z => Nat.ne_of_lt (Nat.lt_of_lt_of_le (Heap.lt_size z) hsz1)
  have k15 : ∀ b o, b ≠ e → h1.get? b = some o → h5.get? b = some o := fun b o n z => k5 b o n (k4 b o (k13 b o z))
  have KX5 : K.In h5 := fun b o z => k15 b o (old b o (M.kin b o z)) (hM1.kin b o z)
  refine wpAt_of_wpAny (wpAny_execs_cons (plainObj_wpAny_Assign_Attribute (wpAny_Name (wpAny_loadName_local hk kx hns5 vx (wpAny_Name (wpAny_loadName_local hk kself hns5 vself ?_) (by decide +kernel))) hdb) ?hsw))
  case hsw => rfl
  refine set_plain KX5 (ox := HandSPX.excO C t1) (od := none) ⟨e5, rfl, rfl, trivial⟩ T.sa (first_field T.base KX5 e5 hcd (Line.own hl) rfl T.fld fun h6 tk6 dx k6 hdx ndx e6 n6 => ?_)
  refine wpAny_execs_nil ?_
  refine ⟨rfl, fin e h6 tk6 dx t1 (fun b o z => k6 b o (old b o z) (k15 b o (old b o z) (kp b o z))) hsz1 (Nat.le_trans (Nat.le_trans hsz1 (Nat.le_of_lt (Heap.lt_size e5))) hdx) ndx e6 n6⟩
end ErE
end PySem
namespace DM
open PySem PySem.Spec PyProof.Rows L2
section
variable {X : Cx} {W : WX} {B newId initId : String} {bm : List Value} {C fI : Addr} {f x : Str} {e : Expr} {te : TE} {me : ME} {p pos pos2 : Pos}
/-- C(e): an error with one field -/
theorem pmk_err (T : ErE.ErrC X.prog X.K B newId initId bm C fI f) (hr : Room 1 X.A) (hg : Gl X x) (hm : X.mg x = some (.ref C)) (kC : PySem.W.keepIn X.K (.ref C) = true) (r : Raises X (.ref C)) (hsup : X.mg "super" = none) (he : PE X e te)
    (hdb : (x == ("__debug__" : Str)) = false := by decide) (hse : starEach [e] X.env = (false, eval e X.env) :: starEach [] X.env := by rfl) : PMk X (.Call (.Name x p) [e] [] pos) (fun σ H Q => te σ H fun y H1 => ∀ d, H1 d = none → Q (.ref C) (some d) (upd H1 d (.xd [(f, y)]))) := by
  intro pins s σ H Q I h
  refine wpAny_Call_Name_kw (ld_glob I hg hm ?_ hdb)
  have ha : PA X [e] (tCons te tNil) := pa_cons he pa_nil hse
  refine PySem.W.callWith_K (h₀ := X.base) I.ok.mod.kin kC (thn (ha.run pos pins s σ H (fun vs H1 => ∃ y, vs = [y] ∧ ∀ d, H1 d = none → Q (.ref C) (some d) (upd H1 d (.xd [(f, y)]))) I ?_) fun us s1 hh => ?_) hse
  · have e0 : (fun (y : V) (H1 : Hp) => ∀ d, H1 d = none → Q (.ref C) (some d) (upd H1 d (.xd [(f, y)]))) = fun y H1 => (fun vs H1 => ∃ y, vs = [y] ∧ ∀ d, H1 d = none → Q (.ref C) (some d) (upd H1 d (.xd [(f, y)]))) [y] H1 := by
      funext y H1
      refine propext ⟨fun z => ⟨y, rfl, z⟩, fun ⟨y', z, q⟩ => ?_⟩
      cases z
      exact q
    rw [e0] at h
    exact h
  obtain ⟨vs, H1, I1, r1, y, rfl, q⟩ := hh
  refine ⟨I1.kIn, ?_⟩
  cases r1 with
  | cons ru rn =>
    rename_i u us'
    cases rn
    show wpAny _ _ (call (.ref C) [u]) _ _ _
    obtain ⟨hp, g, dr, tk, os⟩ := s1
    have M1 : Mod X.K X.mg hp := by
      obtain ⟨a1, a2, ⟨mb, a3, a4⟩, a5⟩ := I1.mod
      exact ⟨I1.kIn, a2.keeps I1.bk, ⟨mb, a3.keeps I1.bk, a4⟩, a5.keeps I1.bk⟩
    refine wpAny_call (ErE.make_err T M1 hsup (by rw [make_depth]; have := hr.dp; omega) fun a h2 t2 dx t1 k ha hdx ndx e2 n2 => ?_)
    obtain ⟨G, g1, g2⟩ := restrict h2 fun b => decide (b ≠ a)
    have gk : ∀ b, b ≠ a → G.get? b = h2.get? b := fun b hb => g1 b (decide_eq_true hb)
    have ge : G.get? a = none := g2 a (by simp)
    have na : H1 a = none := I1.hok.fresh ha
    have J := I1.laid (t' := t2) (a := dx) (o := .xd [(f, y)]) (h' := G) (fun b o z => (gk b (Nat.ne_of_lt (Nat.lt_of_lt_of_le (Heap.lt_size z) ha))).trans (k b o z)) hdx
      ⟨_, n2.at fun o z => (gk dx ndx).trans z, fun z => relO_put (fs := []) (mA := fun _ => none) ru (fun _ => True.intro) z⟩
    refine ⟨a, _, _, ⟨G, g, dr, t2, os⟩, upd H1 dx (.xd [(f, y)]), .ref C, some dx, rfl, J, fun b o z => ?_, ge, e2, ⟨rfl, rfl⟩, rfl, rfl, ?_, rfl, J.bare, r, q dx (I1.hok.fresh hdx)⟩
    · by_cases hb : b = a
      · rw [hb, ge] at z; cases z
      · exact (gk b hb).symm.trans z
    · rw [upd_ne (Ne.symm ndx)]; exact na
/-- raise C(e) -/
def mRaise (C f : Str) (me : ME) : MS := fun ρ A => lift (me ρ A) ρ fun d A1 => .exc C [(f, d)] ρ A1
theorem s_raise {cn : Str} (hc : X.calm = true) (tk : Takes X W) (T : ErE.ErrC X.prog X.K B newId initId bm C fI f) (hr : Room 1 X.A) (hm : X.mg cn = some (.ref C)) (hcn : clsV X.K cn = some (.ref C)) (kC : PySem.W.keepIn X.K (.ref C) = true)
    (r1 : PySem.W.subIn X.K (.ref C) (.type "BaseException") = some true) (r2 : PySem.W.typeIn X.K (.ref C) = some (.type "type")) (hsup : X.mg "super" = none) (he : DE X W e me) (hg : Gl X cn := by rfl) (hdb : (cn == ("__debug__" : Str)) = false := by decide) (hse : starEach [e] X.env = (false, eval e X.env) :: starEach [] X.env := by rfl) :
    DS X W (.Raise (some (.Call (.Name cn p) [e] [] pos)) none pos2) (mRaise cn f me) :=
  PSi (ps_raise hc tk (pmk_err T hr hg hm kC (raises_own r1 r2) hsup he hdb hse)) fun D σ H ⟨m, A, ρ, R, E, h⟩ => tE.lift R E h fun m1 A1 d v H1 e1 R1 E1 r1 h1 dx hdx => by
    obtain ⟨R2, e2⟩ := R1.new hdx (.xd [(f, v)])
    exact h1 m1 _ _ (some dx) σ e2 R2 (E1.mono e2) hcn ⟨by simp, _, upd_same, R1.out hdx, rfl, .cons (RD.mono e2 _ _ r1) .nil⟩
end
end DM
end
section
set_option maxHeartbeats 2000000
namespace DM
open PySem PySem.Spec PyProof.Rows L2
/-! ### try: several clauses, with names or without -/
abbrev SuiteT := Addr → Value → Option Addr → TS
def goneE (i : Nat) (D : Ends) : Ends where
  nx := fun τ G => D.nx (τ.set i none) G
  rt := D.rt
  bk := fun τ G => D.bk (τ.set i none) G
  ct := fun τ G => D.ct (τ.set i none) G
/-- a clause's suite for the exception at a -/
def runH (oi : Option Nat) (ts : SuiteT) (a : Addr) (cls : Value) (d : Option Addr) (D : Ends) (σ : L2.St) (H : Hp) : Prop := match oi with
  | none => ts a cls d D σ H
  | some i => ts a cls d (goneE i D) (σ.set i (some (.ref a))) H
def wHs (K : PySem.W.Frag) (Wout : WX) (D : Ends) : List (Value × Option Nat × SuiteT) → WX
  | [] => Wout
  | (c, oi, ts) :: r => fun cls d σ H => ∃ b, PySem.W.exmOne K cls c = some b ∧ (b = true → ∀ a, H a = none → runH oi ts a cls d D σ H) ∧ (b = false → wHs K Wout D r cls d σ H)
def SuiteOk (X : Cx) (sts : List Stmt) (ts : SuiteT) : Prop := ∀ (a : Addr) (oe : Obj) (cls : Value) (d : Option Addr) (pn : List (Addr × Obj)), Zc cls d oe → (∃ vs, oe.data = .fields vs) → PSs (X.suite a ((a, oe) :: pn)) sts (ts a cls d)
inductive HsOk (X : Cx) : List ExceptHandler → List (Value × Option Nat × SuiteT) → Prop
  | nil : HsOk X [] []
  | bare {x : Str} {c : Value} {ts : SuiteT} {b₀ : Stmt} {sts : List Stmt} {np hp : Pos} {hds : List ExceptHandler} {l : List (Value × Option Nat × SuiteT)} (hc : Names X x c) (ok : SuiteOk X (b₀ :: sts) ts) (r : HsOk X hds l) :
      HsOk X (.ExceptHandler (some (.Name x np)) none (b₀ :: sts) hp :: hds) ((c, none, ts) :: l)
  | named {x n : Str} {i : Nat} {c : Value} {ts : SuiteT} {b₀ : Stmt} {sts : List Stmt} {np hp : Pos} {hds : List ExceptHandler} {l : List (Value × Option Nat × SuiteT)} (hi : X.N[i]? = some n) (hl : X.env.kindOf n = some .local) (hc : Names X x c) (ok : SuiteOk X (b₀ :: sts) ts) (r : HsOk X hds l) :
      HsOk X (.ExceptHandler (some (.Name x np)) (some n) (b₀ :: sts) hp :: hds) ((c, some i, ts) :: l)
section
variable {X : Cx} {body : List Stmt} {h₀ : ExceptHandler} {hds : List ExceptHandler} {l : List (Value × Option Nat × SuiteT)} {pos : Pos} {tb : WX → TS} {Wout : WX} {pins : List (Addr × Obj)} {σ : L2.St} {H : Hp} {D : Ends}
/-- the clauses, one after the other, over a landed exception -/
theorem hs_go (stk : X.stack = X.env :: X.outer) (hf : X.env.frame = some X.env.locals) (hN : X.N.Nodup) (tk : Takes X Wout) (ok : X.Ok) {a : Addr} {B : Heap} {sI t t3 : Shared} {cls : Value} {d : Option Addr} {h3 : Heap}
    (J : Inv X pins σ H sI) (nb : ∀ b o, sI.heap.get? b = some o → b ∉ frs X.stack → B.get? b = some o) (up : sI.heap.UpToSlots h3) (na : H a = none) (os : t.os = sI.os) (ag : AllBare t.gens)
    (fl : HandSPX.FlyingZ B (X.env :: X.outer) a (Zc cls d) h3) {hds : List ExceptHandler} {l : List (Value × Option Nat × SuiteT)} (hk : HsOk X hds l) :
    wHs X.K Wout D l cls d σ H → wpAny (model X.prog X.w) X.A (handleBy (.ref a) X.env hds) (SP X pins D) X.xe { t with heap := h3 } := by
  have off : ∀ {h : Heap}, HandSPX.FlyingZ B (X.env :: X.outer) a (Zc cls d) h → a ≠ X.env.locals ∧ a ∉ X.fs := fun {h} x => by
    obtain ⟨oe, vs, e1, _, e2⟩ := x.there
    have no : a ∉ frs (X.env :: X.outer) := fun hm => by
      obtain ⟨_, o, e3, nf⟩ := x.2.2.1.mem hm
      rw [e1] at e3; cases e3
      exact nf _ e2
    refine ⟨fun z => no (List.mem_filterMap.mpr ⟨X.env, List.mem_cons_self, by rw [hf, z]⟩), fun hm => ?_⟩
    obtain ⟨e, he, q⟩ := List.mem_filterMap.mp hm
    exact no (List.mem_filterMap.mpr ⟨e, List.mem_cons_of_mem _ he, q⟩)
  obtain ⟨nL, nF⟩ := off fl
  have J3 : Inv X pins σ H { t with heap := h3 } := J.landed nb fl.1 up os ag
  obtain ⟨oe3, vs3, he3, hz3, hd3⟩ := fl.there
  have S3 := J3.suite he3 hd3 na nL nF
  have tested : ∀ {x : Str} {c : Value} {np : Pos}, Names X x c → ∀ {Q : Value → Shared → Prop} {E : Value → Shared → Prop}, Q c { t with heap := h3 } → wpAny (model X.prog X.w) (X.A.mark (some (.ref a))) (eval (.Name x np) X.env) Q E { t with heap := h3 } := fun {x c np} hc {Q E} q => by
    obtain ⟨hg, hd, hm | ⟨hm, hv, hn⟩⟩ := hc
    · exact ld_glob (X := X.suite a ((a, oe3) :: (X.pn ++ pins))) S3 hg hm q hd
    · exact ld_blt (X := X.suite a ((a, oe3) :: (X.pn ++ pins))) S3 hg hm hv q hn hd
  have typ : PySem.W.Looks (model X.prog X.w) h3 (typeOf (.ref a)) cls := fun A Q E s k q => wpAny_typeOf_ref (k _ _ he3) (by rw [hz3.1]; exact q)
  induction hk with
  | nil =>
    intro w
    refine wpAny_handleBy_nil ?_
    have up4 : wpAny (model X.prog X.w) X.A (setFlight (.ref a) X.env.frame) (fun _ s4 => wpAny (model X.prog X.w) X.A (throw (.ref a) : Sem Flow) (SP X pins D) X.xe s4) X.xe { t with heap := h3 } := by
      rw [hf]
      refine HandSPX.setFlight_upZ fl fun h4 hh4 up4 => wpAny_throw (tk _ _ ⟨a, B, sI, pins, σ, H, cls, d, rfl, J, nb, up.trans up4, ?_, na, os, ag, w⟩)
      exact .inr (.inr (by rw [stk]; exact hh4))
    obtain ⟨_, _, _, oe, vs, T, oT, us, e1, e2, e3, e4, _⟩ := id fl
    unfold PySem.passOn
    refine wpAny_bind (wpAny_field e1 e3 e4 ?_)
    rw [if_neg (show ¬ ((Value.ref T == Value.none) = true) from by simp)]
    first
      | exact wpAny_bind (wpAny_pure (wpAny_bind up4))
      | exact wpAny_bind up4
  | bare hc sok r ih =>
    intro w
    obtain ⟨b, hb, yes, no⟩ := w
    refine wpAny_handleBy_cons (codeAny_handlers_test (tested hc ((PySem.W.exm_one (M := model X.prog X.w) J3.kIn typ hb).here ?_))) (by intro q; cases q)
    cases b with
    | false => exact ih (no rfl)
    | true =>
      refine codeAny_handlers_suite (HandSPX.lands_againZ fl fun h4 fl4 up4 => ?_)
      obtain ⟨oe4, vs4, he4, hz4, hd4⟩ := fl4.there
      have S4 := (J.landed nb fl4.1 (up.trans up4) os ag : Inv X pins σ H { t with heap := h4 }).suite he4 hd4 na nL nF
      refine wpAny_mono ((sok a oe4 cls d (X.pn ++ pins) hz4 ⟨_, hd4⟩).run [] _ _ H _ S4 (yes rfl a na)) (fun f s6 z => ?_) fun _ _ z => z.elim
      cases f with
      | next => obtain ⟨τ, G, S6, q⟩ := z; exact ⟨_, _, S6.unsuite ok, q⟩
      | brk => obtain ⟨τ, G, S6, q⟩ := z; exact ⟨_, _, S6.unsuite ok, q⟩
      | cont => obtain ⟨τ, G, S6, q⟩ := z; exact ⟨_, _, S6.unsuite ok, q⟩
      | ret u => obtain ⟨v, τ, G, S6, rv, q⟩ := z; exact ⟨_, _, _, S6.unsuite ok, rv, q⟩
  | named hi hl hc sok r ih =>
    intro w
    obtain ⟨b, hb, yes, no⟩ := w
    refine wpAny_handleBy_cons (codeAny_handlers_test (tested hc ((PySem.W.exm_one (M := model X.prog X.w) J3.kIn typ hb).here ?_))) (by intro q; cases q)
    cases b with
    | false => exact ih (no rfl)
    | true =>
      refine codeAny_handlers_suite_as (HandSPX.lands_againZ fl fun h4 fl4 up4 => ?_)
      obtain ⟨oe4, vs4, he4, hz4, hd4⟩ := fl4.there
      have S4 := (J.landed nb fl4.1 (up.trans up4) os ag : Inv X pins σ H { t with heap := h4 }).suite he4 hd4 na nL nF
      refine store_ok (X := X.suite a ((a, oe4) :: (X.pn ++ pins))) (v := .ref a) S4 hN hi (.inl hl) rfl (fun s5 S5 => ?_) (.inr hl)
      refine wpAny_mono ((sok a oe4 cls d (X.pn ++ pins) hz4 ⟨_, hd4⟩).run [] s5 _ H _ S5 (yes rfl a na)) (fun f s6 z => ?_) fun _ _ z => z.elim
      cases f with
      | next => obtain ⟨τ, G, S6, q⟩ := z; exact gone_ok (S6.unsuite ok) hN hi hl fun s7 J7 => ⟨_, _, J7, q⟩
      | brk => obtain ⟨τ, G, S6, q⟩ := z; exact gone_ok (S6.unsuite ok) hN hi hl fun s7 J7 => ⟨_, _, J7, q⟩
      | cont => obtain ⟨τ, G, S6, q⟩ := z; exact gone_ok (S6.unsuite ok) hN hi hl fun s7 J7 => ⟨_, _, J7, q⟩
      | ret u => obtain ⟨v, τ, G, S6, rv, q⟩ := z; exact gone_ok (S6.unsuite ok) hN hi hl fun s7 J7 => ⟨_, _, _, J7, rv, q⟩
theorem ps_try_hs (stk : X.stack = X.env :: X.outer) (hf : X.env.frame = some X.env.locals) (hN : X.N.Nodup) (tk : Takes X Wout)
    (hb : ∀ (W : WX) (pn : List (Addr × Obj)) (xe : Value → Shared → Prop), Takes (X.tr pn xe) W → PassesOwn (model X.prog X.w) X.A X.env xe → PSs (X.tr pn xe) body (tb W)) (hh : HsOk X (h₀ :: hds) l) :
    PS X (.Try body (h₀ :: hds) [] [] pos) (fun D σ H => tb (wHs X.K Wout D l) D σ H) := by
  refine ⟨fun pins s σ H D I h => ?_⟩
  have ok := I.ok
  refine wpAny_Try_except ?_
  refine wpAny_mono ((hb (wHs X.K Wout D l) (X.pn ++ pins) (fun e s₁ => wpAny (model X.prog X.w) X.A (noteFrame e X.env) (fun _ s₂ => wpAny (model X.prog X.w) X.A (setFlight e none) (fun _ s₃ =>
    wpAny (model X.prog X.w) X.A (handleBy e X.env (h₀ :: hds)) (SP X pins D) X.xe s₃) X.xe s₂) X.xe s₁) (fun u t air => ?_) PassesOwn.looking).run [] s σ H D (I.toTry _) h) (fun f s1 z => ?_) fun e s1 he => he
  · obtain ⟨a, B, sI, pins', τ, G, cls, d, rfl, J0, nb, up, sky, na, os, ag, w⟩ := air
    have sky' : Sky B (X.env :: X.outer) a (Zc cls d) X.env.locals t.heap := by rw [← stk]; exact sky
    refine Sky.land Zc.steady (by rw [ok.frames, stk]) hf sky' fun h3 fl3 up3 => ?_
    exact hs_go (t := t) (t3 := t) stk hf hN tk ok (J0.ofTry ok) nb (up.trans up3) na os ag fl3 hh w
  · cases f with
    | next => obtain ⟨τ, G, J, q⟩ := z; exact wpAny_execs_nil ⟨τ, G, J.ofTry ok, q⟩
    | brk => obtain ⟨τ, G, J, q⟩ := z; exact ⟨τ, G, J.ofTry ok, q⟩
    | cont => obtain ⟨τ, G, J, q⟩ := z; exact ⟨τ, G, J.ofTry ok, q⟩
    | ret u => obtain ⟨v, τ, G, J, rv, q⟩ := z; exact ⟨v, τ, G, J.ofTry ok, rv, q⟩
end
end DM
end
section
set_option maxHeartbeats 2000000
namespace DM
open PySem PySem.Spec PyProof.Rows L2
/-! ### try in the mirror -/
open Classical in
/-- what does not hang on where the exception lies -/
noncomputable def indep (f : Addr → Addr → SRes) : SRes := if h : ∃ r, ∀ a d, f a d = r then Classical.choose h else .no
theorem indep_eq {f : Addr → Addr → SRes} {r : SRes} (h : ∀ a d, f a d = r) : indep f = r := by
  have h' : ∃ r, ∀ a d, f a d = r := ⟨r, h⟩
  unfold indep
  rw [dif_pos h']
  exact (Classical.choose_spec h' 0 0).symm.trans (h 0 0)
theorem indep_at {f : Addr → Addr → SRes} (n : indep f ≠ .no) (a d : Addr) : f a d = indep f := by
  unfold indep at n ⊢
  split
  · rename_i h
    exact Classical.choose_spec h a d
  · rename_i h
    rw [dif_neg h] at n
    exact (n rfl).elim
structure HdM where
  cls : Str
  yes : List Str
  nos : List Str
  slot : Option Nat
  suite : Str → Addr → Option Addr → MS
def goneM : Option Nat → SRes → SRes
  | some i, .nx ρ A => .nx (ρ.set i none) A
  | some i, .bk ρ A => .bk (ρ.set i none) A
  | some i, .ct ρ A => .ct (ρ.set i none) A
  | none, .nx ρ A => .nx ρ A
  | none, .bk ρ A => .bk ρ A
  | none, .ct ρ A => .ct ρ A
  | _, .rt d A => .rt d A
  | _, .exc _ _ _ _ => .no
  | _, .no => .no
def enterM (oi : Option Nat) (a : Addr) (d : Option Addr) (fs : List (Str × D)) (ρ : Env) : Env := match oi with
  | none => ρ
  | some i => ρ.set i (some (.exv a d (fs.map (·.1)) (fs.map (·.2))))
noncomputable def excGo : List HdM → Str → List (Str × D) → Env → AH → SRes
  | [], C, fs, ρ, A => .exc C fs ρ A
  | h :: r, C, fs, ρ, A => if C ∈ h.yes then indep fun a d => goneM h.slot (h.suite C a (if fs = [] then none else some d) (enterM h.slot a (if fs = [] then none else some d) fs ρ) A) else if C ∈ h.nos then excGo r C fs ρ A else .no
noncomputable def mTry (mb : MS) (hs : List HdM) : MS := fun ρ A => match mb ρ A with
  | .exc C fs ρ1 A1 => excGo hs C fs ρ1 A1
  | r => r
def suiteT (K : PySem.W.Frag) (h : HdM) : SuiteT := fun a cls d D σ H => ∃ C, clsV K C = some cls ∧ tS K WNo (h.suite C a d) D σ H
/-- what an except clause must know: its class's value -/
structure HdF (K : PySem.W.Frag) (h : HdM) (c : Value) : Prop where
  yes : ∀ C ∈ h.yes, ∀ v, clsV K C = some v → PySem.W.exmOne K v c = some true
  nos : ∀ C ∈ h.nos, ∀ v, clsV K C = some v → PySem.W.exmOne K v c = some false
inductive HsM (K : PySem.W.Frag) : List HdM → List (Value × Option Nat × SuiteT) → Prop
  | nil : HsM K [] []
  | cons {h : HdM} {c : Value} {hs : List HdM} {l : List (Value × Option Nat × SuiteT)} : HdF K h c → HsM K hs l → HsM K (h :: hs) ((c, h.slot, suiteT K h) :: l)
section
variable {K : PySem.W.Frag} {W : WX} {σ : L2.St} {m m' : Mp} {A : AH} {ρ : Env} {H H' : Hp} {D0 : Ends}
theorem gone_none {r : SRes} (h : PostS K W m H (goneM none r) D0) : PostS K WNo m H r D0 := by
  cases r with
  | nx ρ A => exact h
  | bk ρ A => exact h
  | ct ρ A => exact h
  | rt d A => exact h
  | exc C fs ρ A => exact h.elim
  | no => exact h
theorem REnv.drop (i : Nat) {τ : L2.St} (h : REnv K m H ρ τ) : REnv K m H (ρ.set i none) (τ.set i none) := h.unset i none
theorem gone_some {i : Nat} {r : SRes} (h : PostS K W m H (goneM (some i) r) D0) : PostS K WNo m H r (goneE i D0) := by
  cases r with
  | nx ρ A => exact fun m' H' τ e R' E' => h m' H' (τ.set i none) e R' (E'.drop i)
  | bk ρ A => exact fun m' H' τ e R' E' => h m' H' (τ.set i none) e R' (E'.drop i)
  | ct ρ A => exact fun m' H' τ e R' E' => h m' H' (τ.set i none) e R' (E'.drop i)
  | rt d A => exact h
  | exc C fs ρ A => exact h.elim
  | no => exact h
theorem rd_exv {fs : List (Str × D)} {d : Option Addr} (a : Addr) (x : ExcAt K m H fs d) : RD K m H (.exv a d (fs.map (·.1)) (fs.map (·.2))) (.ref a) := by
  cases d with
  | none =>
    have e : fs = [] := x
    subst e
    exact .exv0 a
  | some dd =>
    obtain ⟨_, gs, h1, h2, h3, h4⟩ := x
    exact .exv1 h1 h2 h3 h4
theorem exc_ok {C : Str} {fs : List (Str × D)} {c : Value} {dx : Option Addr} (hc : clsV K C = some c) (R : Rel K m' A H') (E : REnv K m' H' ρ σ) (hx : ExcAt K m' H' fs dx) (e : Ext m H m' H') :
    ∀ {hs : List HdM} {l : List (Value × Option Nat × SuiteT)}, HsM K hs l → PostS K W m H (excGo hs C fs ρ A) D0 → wHs K W D0 l c dx σ H' := by
  intro hs l hl
  induction hl with
  | nil => exact fun h => h m' H' c dx σ e R E hc hx
  | @cons hd cv hs l F r ih =>
    intro h
    unfold excGo at h
    split at h
    · rename_i hy
      refine ⟨true, F.yes C hy c hc, fun _ a na => ?_, (fun z => nomatch z)⟩
      have nn : indep (fun a d => goneM hd.slot (hd.suite C a (if fs = [] then none else some d) (enterM hd.slot a (if fs = [] then none else some d) fs ρ) A)) ≠ .no := fun z => by
        rw [z] at h
        exact h.elim
      have ed : (if fs = [] then none else some (dx.getD 0)) = dx := by
        cases dx with
        | none => exact if_pos hx
        | some dd => exact if_neg hx.1
      have at_ := indep_at nn a (dx.getD 0)
      rw [← at_, ed] at h
      have h' := PostS.mono e h
      cases hs : hd.slot with
      | none =>
        rw [hs] at h'
        exact ⟨C, hc, m', A, ρ, R, E, gone_none h'⟩
      | some i =>
        rw [hs] at h'
        exact ⟨C, hc, m', A, _, R, E.set (rd_exv a hx) i, gone_some h'⟩
    · split at h
      · rename_i hn
        exact ⟨false, F.nos C hn c hc, (fun z => nomatch z), fun _ => ih h⟩
      · exact h.elim
theorem tryD {mb : MS} {hs : List HdM} {l : List (Value × Option Nat × SuiteT)} (hl : HsM K hs l) (h : tS K W (mTry mb hs) D0 σ H) : tS K (wHs K W D0 l) mb D0 σ H := by
  obtain ⟨m, A, ρ, R, E, h⟩ := h
  refine ⟨m, A, ρ, R, E, ?_⟩
  unfold mTry at h
  cases hr : mb ρ A with
  | exc C fs ρ1 A1 =>
    rw [hr] at h
    exact fun m' H' c dx σ' e R' E' hc hx => exc_ok hc R' E' hx e hl h
  | nx ρ1 A1 => rw [hr] at h; exact h
  | bk ρ1 A1 => rw [hr] at h; exact h
  | ct ρ1 A1 => rw [hr] at h; exact h
  | rt d A1 => rw [hr] at h; exact h
  | no => rw [hr] at h; exact h
end
section
variable {X : Cx} {W : WX} {body : List Stmt} {h₀ : ExceptHandler} {hds : List ExceptHandler} {l : List (Value × Option Nat × SuiteT)} {pos : Pos} {mb : MS} {hs : List HdM}
theorem s_try (stk : X.stack = X.env :: X.outer) (hf : X.env.frame = some X.env.locals) (hN : X.N.Nodup) (tk : Takes X W)
    (hb : ∀ (W : WX) (pn : List (Addr × Obj)) (xe : Value → Shared → Prop), Takes (X.tr pn xe) W → PassesOwn (model X.prog X.w) X.A X.env xe → DSs (X.tr pn xe) W body mb) (hl : HsM X.K hs l) (hh : HsOk X (h₀ :: hds) l) :
    DS X W (.Try body (h₀ :: hds) [] [] pos) (mTry mb hs) := PSi (ps_try_hs (tb := fun W => tS X.K W mb) stk hf hN tk hb hh) fun _ _ _ h => tryD hl h
theorem suite_ok {sts : List Stmt} {h : HdM} (hsu : ∀ (a : Addr) (oe : Obj) (cls : Value) (d : Option Addr) (pn : List (Addr × Obj)) (C : Str), Zc cls d oe → (∃ vs, oe.data = .fields vs) → clsV X.K C = some cls → DSs (X.suite a ((a, oe) :: pn)) WNo sts (h.suite C a d)) : SuiteOk X sts (suiteT X.K h) :=
  fun a oe cls d pn hz hf => ⟨fun pins s σ H D I ⟨C, hC, w⟩ => (hsu a oe cls d pn C hz hf hC).run pins s σ H D I w⟩
end
/-! ### in a suite: e.f -/
def mXf (C : Str) (xs : List Str) (a : Addr) (d : Option Addr) (f : Str) (me : ME) : ME := fun ρ A => (me ρ A).bind fun v A1 => match v with
  | .exv a' (some d') ns ds => if C ∈ xs ∧ a' = a ∧ some d' = d then (match (ns.zip ds).lookup f with | some x => .ok x A1 | none => .no) else .no
  | _ => .no
/-- a field's class facts -/
def XfF (K : PySem.W.Frag) (xs : List Str) (f : Str) : Prop := ∀ C ∈ xs, ∀ c, clsV K C = some c → ∃ ca, c = .ref ca ∧ XfC K ca ∧ PySem.W.findIn K (.ref ca) f = some none
theorem lookup_rel {K : PySem.W.Frag} {m : Mp} {H : Hp} {f : Str} : ∀ {gs : List (Str × V)} {ds : List D} {x : D}, RDs K m H ds (gs.map (·.2)) → ((gs.map (·.1)).zip ds).lookup f = some x → ∃ v, gs.lookup f = some v ∧ RD K m H x v
  | [], ds, x, r, e => by simp at e
  | (g, v) :: gs, ds, x, r, e => by
    cases ds with
    | nil => cases r
    | cons d ds =>
      cases r with
      | cons r rs =>
        simp only [List.map_cons, List.zip_cons_cons, List.lookup_cons] at e ⊢
        cases hb : (f == g) with
        | true => rw [hb] at e; cases e; exact ⟨v, rfl, r⟩
        | false => rw [hb] at e; exact lookup_rel rs e
section
variable {X : Cx} {W : WX} {a : Addr} {oe : Obj} {cls : Value} {d : Option Addr} {pn : List (Addr × Obj)} {e : Expr} {me : ME} {pos : Pos} {n C : Str} {xs : List Str}
theorem d_xf (F : XfF X.K xs n) (hC : clsV X.K C = some cls) (hz : Zc cls d oe) (hf : ∃ vs, oe.data = .fields vs) (he : DE (X.suite a ((a, oe) :: pn)) W e me) (hb : attributeBase e n X.env (eval e X.env) = eval e X.env := by rfl) :
    DE (X.suite a ((a, oe) :: pn)) W (.Attribute e n pos) (mXf C xs a d n me) := by
  refine ⟨fun pins s σ H Q I ⟨m, A, ρ, R, E, h⟩ => attr_of hb (thn (he.run pins s σ H (fun x H1 => ∃ m1 A1 v, Rel X.K m1 A1 H1 ∧ RD X.K m1 H1 v x ∧ Post X.K (RD X.K) W σ m1 H1 (match v with
    | .exv a' (some d') ns ds => if C ∈ xs ∧ a' = a ∧ some d' = d then (match (ns.zip ds).lookup n with | some x => .ok x A1 | none => .no) else .no
    | _ => .no) Q) I (tE.bind R E h fun m1 A1 v x H1 e1 R1 E1 r1 h1 => ⟨m1, A1, v, R1, r1, h1⟩)) fun u s1 hh => ?_)⟩
  obtain ⟨x, H1, I1, rx, m1, A1, v, R1, r1, h1⟩ := hh
  split at h1
  rotate_left
  · exact h1.elim
  rename_i a' d' ns ds
  split at h1
  rotate_left
  · exact h1.elim
  rename_i hcond
  obtain ⟨hx, rfl, rfl⟩ := hcond
  cases r1 with
  | @exv1 _ _ gs _ _ hH ho hn rs =>
    subst hn
    split at h1
    rotate_left
    · exact h1.elim
    rename_i y hy
    obtain ⟨w, hw, rw'⟩ := lookup_rel rs hy
    obtain ⟨ca, rfl, T, hno⟩ := F C hx cls hC
    obtain rfl : u = Value.ref a' := rx
    obtain ⟨ha, _⟩ := I1.pin (a', oe) (List.mem_append_left _ List.mem_cons_self)
    obtain ⟨vs, hd⟩ := hf
    have hxd : ObjOk X.prog X.w H1 s1.heap d' (.xd gs) := I1.hok d' _ hH
    obtain ⟨mA, hns, hr⟩ := hxd
    obtain ⟨od, ho', hl⟩ := lookIn_ns hns
    obtain ⟨u, hu, ru⟩ := RelO.some_of (v := w) (o := mA n) (by rw [← hw]; exact hr n)
    have J : PySem.W.InstAt s1.heap a' oe ca (some od) := by
      refine ⟨ha, hz.1, ?_, ?_⟩
      · unfold PySem.W.notCls
        rw [hd] <;> rfl
      · rw [hz.2]
        exact ho'
    have own := PySem.W.findObj_own T.hdC hno rfl (v := u) (by rw [hl, hu])
    exact HandSPX.exc_get I1.kIn J T.ga T.gg T.exC own (handed_of ru) ⟨w, H1, I1.tok _, ru, Post.here R1 rw' h1⟩
end
end DM
end
section
set_option maxHeartbeats 2000000
namespace DM
open PySem PySem.Spec PyProof.Rows L2 LamX
/-! ### a lambda, handed to a def and called there -/
abbrev LTag := Addr × Addr × L2.St
open Classical in
noncomputable def indepR (f : LTag → Res D) : Res D := if h : ∃ r, ∀ x, f x = r then Classical.choose h else .no
section
variable {X : Cx} {pins : List (Addr × Obj)} {σ : L2.St} {H : Hp} {s : Shared} {m : Mp} {A : AH}
end
section
variable {X : Cx} {pins : List (Addr × Obj)} {σ : L2.St} {H : Hp} {s : Shared}
end
end DM
end
section
set_option maxHeartbeats 2000000
namespace DM
open PySem PySem.Spec PyProof.Rows L2
/-! ### tuple * number, any number -/
theorem tm_same (l : Addr) (items : Array Value) (n : Nat) (dd : Option Addr) (sl : Array (Option Value)) (x : Int) (u : Tok) (h0 : -(2 ^ 63) ≤ x ∧ x < 2 ^ 63) (h1 : (items.isEmpty || x == 1) = true) :
    Meets (Builtin.«tuple.__mul__» ⟨[.ref l, .int x u], []⟩) (fun _ R s => s.heap.get? l = some { cls := .type "tuple", dict := dd, data := .seq items n, slots := sl } ∧ R (.ok (.ret (Value.ref l))) s) :=
  .of_wp fun prog w A R s h => by
    obtain ⟨hp, g, d, tk, os⟩ := s
    obtain ⟨hl, h⟩ := h
    have f1 := AutoSeq1.idx_int
    have c0 : (decide (x < -(2 ^ 63)) || decide (x ≥ 2 ^ 63)) = false := by rw [decide_eq_false (by omega), decide_eq_false (by omega)]; rfl
    wp_walk using wpAny_loadPart' hl
    repeat (first
      | (refine wpAny_ite_false (decide_eq_false (by rw [c0]; exact Bool.false_ne_true)) ?_; wp_walk using wpAny_loadPart' hl)
      | (refine wpAny_ite_true (decide_eq_true h1) ?_; wp_walk using wpAny_loadPart' hl))
    exact ⟨_, rfl, h⟩
theorem tm_none (l : Addr) (items : Array Value) (n : Nat) (dd : Option Addr) (sl : Array (Option Value)) (x : Int) (u : Tok) (h0 : -(2 ^ 63) ≤ x) (h1 : (items.isEmpty || x == 1) = false) (h2 : x ≤ 0) :
    Meets (Builtin.«tuple.__mul__» ⟨[.ref l, .int x u], []⟩) (fun _ R s => s.heap.get? l = some { cls := .type "tuple", dict := dd, data := .seq items n, slots := sl } ∧
      R (.ok (.ret (Value.ref s.heap.objs.size))) { s with heap := s.heap.push { cls := Value.type "tuple", data := Data.seq #[] }, toks := s.toks }) :=
  .of_wp fun prog w A R s h => by
    obtain ⟨hp, g, d, tk, os⟩ := s
    obtain ⟨hl, h⟩ := h
    have f1 := AutoSeq1.idx_int
    have c0 : (decide (x < -(2 ^ 63)) || decide (x ≥ 2 ^ 63)) = false := by rw [decide_eq_false (by omega), decide_eq_false (by omega)]; rfl
    have c2 : (decide (x ≤ 0) || items.isEmpty) = true := by rw [decide_eq_true h2]; rfl
    wp_walk using wpAny_loadPart' hl
    repeat (first
      | (refine wpAny_ite_false (decide_eq_false (by rw [c0]; exact Bool.false_ne_true)) ?_; wp_walk using wpAny_loadPart' hl)
      | (refine wpAny_ite_false (decide_eq_false (by rw [h1]; exact Bool.false_ne_true)) ?_; wp_walk using wpAny_loadPart' hl)
      | (refine wpAny_ite_true (decide_eq_true c2) ?_; wp_walk using wpAny_loadPart' hl))
    exact ⟨_, rfl, h⟩
def rRepA (K : PySem.W.Frag) : R2 := fun x y H Q => ∃ l k xs, x = .ref l ∧ y = .int k ∧ SqT K H l xs ∧ -(2 ^ 63) ≤ k ∧ k < 2 ^ 63 ∧ xs.length * k.toNat ≤ sizeLine ∧ ((xs = [] ∨ k = 1) → Q (.ref l) H) ∧
  (¬ (xs = [] ∨ k = 1) → ∀ p us, H p = none → Q (.ref p) (upd H p (plH us (List.replicate k.toNat xs).flatten)))
section
variable {X : Cx}
theorem op_repA : OpR X (binaryOp .Mult) (rRepA X.K) := by
  intro pins s σ H x y v u Q I rx ry h
  obtain ⟨l, k, xs, rfl, rfl, hT, k0, k1, hz, q1, q2⟩ := h
  cases rx
  obtain ⟨t, rfl⟩ := ry
  obtain ⟨its, r, ⟨⟨cls, dd, data, sl⟩, ho, hc, n, hd⟩, hs⟩ := I.tuple hT
  simp only at hc hd
  subst hc hd
  have hle : its.length = xs.length := r.length.symm
  have hie : its.toArray.isEmpty = decide (xs = []) := by
    cases xs with
    | nil => cases r; rfl
    | cons a b => cases r; rfl
  have main : ∀ {F : List Value → (Result → Shared → Prop) → Shared → Prop} , Meets (Builtin.«tuple.__mul__» ⟨[.ref l, .int k t], []⟩) (fun _ R s' => s'.heap.get? l = some { cls := .type "tuple", dict := dd, data := .seq its.toArray n, slots := sl } ∧ F [] R s') →
      F [] (fun r s' => match r with | .ok (.ret v) => EP X pins σ Q v s' | .ok _ => False | .error e => X.xe e s') s → wpAny (model X.prog X.w) X.A (binaryOp .Mult (.ref l) (.int k t)) (EP X pins σ Q) X.xe s := fun M hF =>
    wpAny_binaryOp_repeat_ref (T := "tuple") (U := "int") (by decide) ⟨_, ho, rfl⟩ (fun s' => typeIs_int s' k t) noFill_tuple_mul F.fills_int_mul F.slot_int_rmul repeat_tuple F.slot_int_index.lookup
      (call_meets F.slot_int_rmul (typeIs_int s k t) F.entry_int_rmul (F.args_int_rmul_2 _ _) (int_rmul_tuple k t l its.toArray n dd sl)
        ⟨ho, rfl, ⟨_, ho, rfl⟩, call_meets F.slot_tuple_mul ⟨_, ho, rfl⟩ F.entry_tuple_mul (F.args_tuple_mul_2 _ _) M ⟨ho, hF⟩⟩)
  have laid : ∀ {zs : List V} {ws : List Value}, Vals zs ws → zs.length ≤ sizeLine → (∀ p us, H p = none → Q (.ref p) (upd H p (plH us zs))) → EP X pins σ Q (.ref s.heap.objs.size) { s with heap := s.heap.push { cls := .type "tuple", data := .seq ws.toArray }, toks := s.toks } := fun {zs ws} rz hl q =>
    ⟨.ref s.heap.objs.size, _, I.laid (t' := s.toks) (o := plH ws zs) (fun b ob q => Heap.get?_push_of_some _ q) (Nat.le_refl _) (plain_ok (Heap.get?_push_size _ rfl) rz hl), rfl, q _ _ (I.hok.fresh (Nat.le_refl _))⟩
  by_cases h1 : xs = [] ∨ k = 1
  · refine main (F := fun _ R s => R (.ok (.ret (.ref l))) s) (tm_same l its.toArray n dd sl k t ⟨k0, k1⟩ ?_) ⟨.ref l, H, I, rfl, q1 h1⟩
    rw [hie]
    rcases h1 with h1 | h1
    · rw [decide_eq_true h1]; rfl
    · rw [h1]; simp
  · have hne : xs ≠ [] := fun z => h1 (.inl z)
    have hk1 : k ≠ 1 := fun z => h1 (.inr z)
    have c1 : (its.toArray.isEmpty || k == 1) = false := by
      rw [hie, decide_eq_false hne, Bool.false_or]
      exact beq_eq_false_iff_ne.mpr hk1
    by_cases h2 : k ≤ 0
    · refine main (F := fun _ R s => R (.ok (.ret (Value.ref s.heap.objs.size))) { s with heap := s.heap.push { cls := Value.type "tuple", data := Data.seq #[] }, toks := s.toks }) (tm_none l its.toArray n dd sl k t k0 c1 h2) (laid (zs := []) (ws := []) .nil (Nat.zero_le _) fun p us hp => ?_)
      have z := q2 h1 p us hp
      have e0 : k.toNat = 0 := by omega
      rw [e0] at z
      exact z
    · have hxl : 1 ≤ xs.length := by
        cases xs with
        | nil => exact (hne rfl).elim
        | cons a b => simp
      have hn2 : k.toNat * 1 ≤ xs.length * k.toNat := by rw [Nat.mul_comm xs.length]; exact Nat.mul_le_mul (Nat.le_refl _) hxl
      rw [sizeLine_eq] at hz
      have em : ((its.toArray.size : Nat) : Int) * k = ((xs.length * k.toNat : Nat) : Int) := by
        rw [List.size_toArray, hle, Int.natCast_mul]
        congr 1
        omega
      have c2 : (decide (k ≤ 0) || its.toArray.isEmpty) = false := by rw [decide_eq_false h2, hie, decide_eq_false hne]; rfl
      have c0 : (decide (k < -(2 ^ 63)) || decide (k ≥ 2 ^ 63)) = false := by rw [decide_eq_false (by omega), decide_eq_false (by omega)]; rfl
      have c4 : Builtin.Tuple.tupleTooMany (((its.toArray.size : Nat) : Int) * k) = false := by
        unfold Builtin.Tuple.tupleTooMany
        rw [sizeLine_eq, em]
        exact decide_eq_false (by omega)
      have fl : (List.replicate k.toNat xs).flatten.length = xs.length * k.toNat := by rw [PyProof.Rows.lm_len_rep_flat, Nat.mul_comm]
      refine main (F := fun _ R s => R (.ok (.ret (Value.ref s.heap.objs.size))) { s with heap := s.heap.push { cls := Value.type "tuple", data := Data.seq (List.replicate k.toNat its).flatten.toArray }, toks := s.toks }) ?_ (laid (r.rep k.toNat) (by rw [fl, sizeLine_eq]; exact hz) (q2 h1))
      have M := tuple_mulW l its.toArray n dd sl k t c0 c1 c2 (by rw [em]; omega) c4 (by rw [size_rep, List.size_toArray, PyProof.Rows.lm_len_rep_flat, hle, Nat.mul_comm, sizeLine_eq]; exact hz)
      rw [size_rep] at M
      exact M
/-- a * b: ints; a tuple by a number -/
def fMulA : D → D → AH → Res D := fun d e A => match d, e with
  | .int i, .int j => if CMul i j then .ok (.int (i * j)) A else .no
  | .tup xs, .int k => if -(2 ^ 63) ≤ k ∧ k < 2 ^ 63 ∧ xs.length * k.toNat ≤ 16777216 then .ok (.tup (List.replicate k.toNat xs).flatten) A else .no
  | _, _ => .no
theorem fMulA_ok {K : PySem.W.Frag} : OpD K fMulA (fun x y H Q => rI CMul (fun i j => .int (i * j)) x y H Q ∨ rRepA K x y H Q) := by
  intro W σ m A H x y d e Q R hx hy h
  unfold fMulA at h
  split at h
  · cases hx; cases hy
    split at h
    · rename_i hc
      exact .inl ⟨_, _, rfl, rfl, hc, Post.here R (.int _) h⟩
    · exact h.elim
  · rename_i xs k
    have hx' := hx
    cases hx with
    | tup s r =>
      rename_i a vs
      cases hy
      split at h
      · rename_i hc
        refine .inr ⟨a, k, vs, rfl, rfl, s.sq, hc.1, hc.2.1, by rw [← r.length, sizeLine_eq]; exact hc.2.2, fun h1 => ?_, fun _ => tup_new R (RDs.rep r k.toNat) h⟩
        have e0 : (List.replicate k.toNat xs).flatten = xs := by
          rcases h1 with h1 | h1
          · have : xs = [] := List.eq_nil_of_length_eq_zero (by rw [r.length, h1]; rfl)
            subst this
            simp
          · subst h1
            simp
        rw [e0] at h
        exact Post.here R hx' h
      · exact h.elim
  · exact h.elim
end
section
variable {X : Cx} {W : WX} {a b : Expr} {ma mb : ME} {pos : Pos}
theorem d_mulA (ha : DE X W a ma) (hb : DE X W b mb) : DE X W (.BinOp a .Mult b pos) (mOp fMulA ma mb) := d_op (op_mul.or op_repA) fMulA_ok ha hb
end
end DM
end
section
set_option maxHeartbeats 2000000
namespace DM
open PySem PySem.Spec PyProof.Rows L2
/-! ### own error classes, what is known of them -/
structure ExcK (K : PySem.W.Frag) (n : Str) (c : Addr) : Prop where
  nm : clsV K n = some (.ref c)
  ec : ExcC K c
  ty : PySem.W.typeIn K (.ref c) = some (.type "type")
  kp : PySem.W.keepIn K (.ref c) = true
  self : PySem.W.subIn K (.ref c) (.ref c) = some true
theorem ExcK.xf {K : PySem.W.Frag} {n : Str} {c : Addr} (T : ExcK K n c) : XfC K c := ⟨T.ec.hg, T.ec.hk, T.ec.hs, T.ec.hd⟩
theorem ExcK.cls {K : PySem.W.Frag} {n : Str} {c : Addr} (T : ExcK K n c) : (PySem.W.clsIn K c).isSome = true := by
  obtain ⟨cd, hc, _⟩ := PySem.W.any_some T.ec.hd
  rw [hc]; rfl
theorem ExcK.exm {K : PySem.W.Frag} {n : Str} {c d : Addr} {b : Bool} (T : ExcK K n c) (h : PySem.W.subIn K (.ref d) (.ref c) = some b) : PySem.W.exmOne K (.ref d) (.ref c) = some b := PySem.W.exm_ref T.ec.hs T.ec.hd T.ty h
theorem clsV_inj {K : PySem.W.Frag} {n : Str} {c : Addr} {v : Value} (h : clsV K n = some (.ref c)) (h2 : clsV K n = some v) : v = .ref c := by
  rw [h] at h2; cases h2; rfl
/-- what is told of the raised classes, one after the other -/
def SubF (K : PySem.W.Frag) (cs : List Str) (t : Value) (b : Bool) : Prop := ∀ C ∈ cs, ∀ v, clsV K C = some v → ∃ c, v = .ref c ∧ ExcC K c ∧ PySem.W.subIn K (.ref c) t = some b
theorem subF_nil {K : PySem.W.Frag} {t : Value} {b : Bool} : SubF K [] t b := fun _ h => nomatch h
theorem subF_cons {K : PySem.W.Frag} {n : Str} {cs : List Str} {c : Addr} {t : Value} {b : Bool} (T : ExcK K n c) (h : PySem.W.subIn K (.ref c) t = some b) (r : SubF K cs t b) : SubF K (n :: cs) t b := fun C hC v hv => by
  rcases List.mem_cons.mp hC with rfl | hC
  · exact ⟨c, clsV_inj T.nm hv, T.ec, h⟩
  · exact r C hC v hv
theorem hdF_own {K : PySem.W.Frag} {h : HdM} {n : Str} {c : Addr} (T : ExcK K n c) (y : SubF K h.yes (.ref c) true) (z : SubF K h.nos (.ref c) false) : HdF K h (.ref c) where
  yes := fun C hC v hv => by
    obtain ⟨d, rfl, _, e⟩ := y C hC v hv
    exact T.exm e
  nos := fun C hC v hv => by
    obtain ⟨d, rfl, _, e⟩ := z C hC v hv
    exact T.exm e
theorem xfF_nil {K : PySem.W.Frag} {f : Str} : XfF K [] f := fun _ h => nomatch h
theorem xfF_cons {K : PySem.W.Frag} {n f : Str} {cs : List Str} {c : Addr} (T : ExcK K n c) (h : PySem.W.findIn K (.ref c) f = some none) (r : XfF K cs f) : XfF K (n :: cs) f := fun C hC v hv => by
  rcases List.mem_cons.mp hC with rfl | hC
  · exact ⟨c, clsV_inj T.nm hv, T.xf, h⟩
  · exact r C hC v hv
/-! ### isinstance of the exception in hand -/
/-- the class's value -/
def ClsD (K : PySem.W.Frag) (t : D) (tv : Value) : Prop := (∃ n, t = .cl n ∧ clsV K n = some tv ∧ ∃ a, tv = .ref a) ∨ ∃ n, t = .ty n ∧ tv = .type n
theorem ClsD.val {K : PySem.W.Frag} {m : Mp} {H : Hp} {t : D} {tv : Value} {c : V} (h : ClsD K t tv) (r : RD K m H t c) (u : Value) (ru : RelV c u) : u = tv := by
  rcases h with ⟨n, rfl, h1, a, rfl⟩ | ⟨n, rfl, rfl⟩
  · cases r with
    | cl h2 => rw [h1] at h2; cases h2; exact ru
  · cases r
    exact ru
section
variable {X : Cx} {W : WX} {a : Addr} {oe : Obj} {cls : Value} {d : Option Addr} {pn : List (Addr × Obj)} {e : Expr} {es : List Expr} {ms : MA} {p pos : Pos} {C : Str} {yes nos : List Str} {t : D} {tv : Value}
end
section
variable {X : Cx} {W : WX} {pos : Pos}
/-- a built-in type, by its name -/
theorem d_ty {x : Str} {n : String} (hm : X.mg x = none) (hv : bootBuiltins x = some (.type n)) (hg : Gl X x := by rfl) (hn : x ≠ "__name__" := by decide) (hd : (x == ("__debug__" : Str)) = false := by decide) : DE X W (.Name x pos) (mK (.ty n)) :=
  PEi (pe_bltn (v := .ty n) hg hm hv rfl hn hd) fun σ H Q ⟨m, A, ρ, R, E, h⟩ => Post.here R (.ty n) h
end
/-! ### isinstance of a value -/
def tyName (A : AH) : D → Option String
  | .non => some "NoneType"
  | .bl _ => some "bool"
  | .int _ => some "int"
  | .str _ => some "str"
  | .tup _ => some "tuple"
  | .lst _ => some "list"
  | .ref n => match A[n]? with
    | some (.lst _) => some "list"
    | some (.dk _) => some "dict"
    | some (.dt _) => some "dict"
    | _ => none
  | _ => none
def tyNames : List String := ["NoneType", "bool", "int", "str", "tuple", "list", "dict"]
def isB (a b : String) : Bool := a == b || (a == "bool" && b == "int")
theorem kitB_ok : ∀ a ∈ tyNames, ∀ b ∈ tyNames, kitB a b = some (isB a b) := by decide +kernel
theorem tyName_in {A : AH} {d : D} {n : String} (h : tyName A d = some n) : n ∈ tyNames := by
  unfold tyName at h
  split at h <;> first | (cases h; decide) | (split at h <;> first | (cases h; decide) | cases h) | cases h
theorem tyName_ok {K : PySem.W.Frag} {m : Mp} {A : AH} {H : Hp} {d : D} {x : V} {n : String} (R : Rel K m A H) (r : RD K m H d x) (h : tyName A d = some n) : TyX K H x (.type n) := by
  unfold tyName at h
  split at h
  · cases h; cases r; exact .base .non
  · cases h; cases r; exact .base (.bl _)
  · cases h; cases r; exact .base (.int _)
  · cases h; cases r; exact .base (.str _)
  · cases h
    cases r with
    | tup s _ =>
      rcases s.sq with (e | ⟨o, e⟩) | ⟨o, its, k, e, c, _⟩
      · exact .base (.tup e)
      · exact .fTuple e
      · exact .kTuple e c
  · cases h
    cases r with
    | lst s _ =>
      rcases s.sq with (e | ⟨o, e⟩) | ⟨o, its, k, e, c, _⟩
      · exact .base (.lst e)
      · exact .base (.frz e)
      · exact .kList e c
  · cases r with
    | ref hm =>
      split at h
      · rename_i hA
        cases h
        obtain ⟨q, h1, vs, h2, _⟩ := R.obj _ _ hA
        rw [hm] at h1; cases h1
        exact .base (.lst h2)
      · rename_i hA
        cases h
        obtain ⟨q, h1, vs, ⟨h2, _⟩, _⟩ := R.obj _ _ hA
        rw [hm] at h1; cases h1
        exact .base (.dK h2)
      · rename_i hA
        cases h
        obtain ⟨q, h1, vs, ⟨h2, _⟩, _⟩ := R.obj _ _ hA
        rw [hm] at h1; cases h1
        exact .base (.dT h2)
      · cases h
  · cases h
def fIsi : List D → AH → Res D := fun ds A => match ds with
  | [x, .ty n] => (match tyName A x with
    | some t => if n ∈ tyNames then .ok (.bl (isB t n)) A else .no
    | none => .no)
  | _ => .no
theorem fIsi_ok {K : PySem.W.Frag} : CallD K fIsi (rIsi K) := by
  intro W σ m A H xs ds Q R hx h
  unfold fIsi at h
  split at h
  rotate_left
  · exact h.elim
  rename_i x n
  split at h
  rotate_left
  · exact h.elim
  rename_i t ht
  split at h
  rotate_left
  · exact h.elim
  rename_i hn
  cases hx with
  | cons r1 r =>
    cases r with
    | cons r2 r =>
      cases r
      cases r2
      exact ⟨_, _, _, _, _, rfl, .ty n, tyName_ok R r1 ht, kit_ty (kitB_ok t (tyName_in ht) n hn), Post.here R (.bl _) h⟩
theorem d_isi {X : Cx} {W : WX} {e : Expr} {es : List Expr} {ms : MA} {p pos : Pos} (hm : X.mg "isinstance" = none) (ha : DA X W (e :: es) ms)
    (hg : Gl X "isinstance" := by rfl) (he : starEach (e :: es) X.env = (false, eval e X.env) :: starEach es X.env := by rfl) (hpl : (backTo pos (starEach es X.env)).any (·.1) = false := by rfl) :
    DE X W (.Call (.Name "isinstance" p) (e :: es) [] pos) (mCall fIsi ms) := d_callB call_isi fIsi_ok hg hm (by decide +kernel) ha (by decide) (by decide) he hpl
end DM
end
section
set_option maxHeartbeats 2000000
namespace DM
open PySem PySem.Spec PyProof.Rows L2
/-! ### the facts of a text's top, gathered -/
def clsBody : Stmt → List Stmt
  | .ClassDef _ _ _ b _ _ _ _ _ _ _ => b
  | _ => []
abbrev methAt (st : Stmt) (i : Nat) : Stmt := (clsBody st).getD i (.Pass ⟨0, 0, 0, 0⟩)
theorem excK_mk {K : PySem.W.Frag} {n : Str} {c : Addr} (a : PySem.W.nsIn K mainGlobals n = some (some (.ref c))) (hg : PySem.W.findIn K (.ref c) "__getattribute__" = some (some (.builtin "BaseException.__getattribute__")))
    (hk : PySem.W.findIn K (.ref c) "__getattr__" = some none) (hs : PySem.W.subIn K (.ref c) (.type "BaseException") = some true) (hd : PySem.W.hasDictIn K c = true) (ha : PySem.W.findIn K (.ref c) "__class__" = some (some (.builtin "object.__class__")))
    (hn : PySem.W.specialIn K (.builtin "object.__class__") "__get__" = some (some (.builtin "getset_descriptor.__get__"))) (ht : PySem.W.takesIn K (.builtin "object.__class__") = some true) (hm : PySem.W.mroIn K c (.type "object") = some true)
    (ty : PySem.W.typeIn K (.ref c) = some (.type "type")) (kp : PySem.W.keepIn K (.ref c) = true) (self : PySem.W.subIn K (.ref c) (.ref c) = some true) : ExcK K n c :=
  ⟨by unfold clsV; rw [a]; rfl, ⟨hg, hk, hs, hd, ha, hn, ht, hm⟩, ty, kp, self⟩
theorem errC_mk {prog : Program} {K : PySem.W.Frag} {B newId initId : String} {bm : List Value} {C fI : Addr} {f x : Str} {st : Stmt} {nm q : Str} {N : Addr} {bs bm1 : List Value} {sn : List Str} {sub : List Value} {ab : Bool} {col : Option Bool} {dd : Option Addr} {k0 k1 k2 k3 k5 : Option Value}
    {oc dV kV doc pm ct ccl cl : Value} {od an cdd cld : Option Addr} {osl ccs csl : Array (Option Value)} {qual file : Str} {cda cc : Addr} {vs : Array Value} {tf : Tok} {p0 p1 p2 p3 p4 p5 p6 p7 p8 p9 : Pos} (base : ErE.Base B newId initId bm)
    (lk : K.lookup C = some (excClassObj nm q C N bs bm1 true sn sub ab col dd k0 k1 k2 k3 k5 newId)) (ln : ErE.Line bm bm1) (sa : PySem.W.findIn K (.ref C) "__setattr__" = some (some (.builtin "object.__setattr__"))) (ini : PySem.W.findIn K (.ref C) "__init__" = some (some (.ref fI)))
    (tI : PySem.W.typeIn K (.ref fI) = some (.type "function")) (fld : PySem.W.findIn K (.ref C) f = some none) (sup : PySem.W.ks_superIn K C C "__init__" = some (some (.builtin initId))) (subB : PySem.W.subIn K (.ref C) (.type B) = some true) (opq : PySem.W.nsIn K cStatics "thirdparty.any" = some none)
    (lI : K.lookup fI = some ⟨oc, od, .func (PySem.W.ksFn "__init__" qual (defArgs st) (defBody st) (defScope st) dV kV doc pm an (.ref cda) ct cc), osl⟩) (cI : PySem.W.codeIn K (.ref cda) qual = true)
    (lc : K.lookup cda = some ⟨ccl, cdd, .fields vs, ccs⟩) (v2 : vs[2]? = some (.str file tf)) (fe : ((prog.main.file : Str) == file) = true) (lce : K.lookup cc = some ⟨cl, cld, .cell (some (.ref C)), csl⟩)
    (top : (prog.main.scope.names.lookup ("super" : Str)).isSome = false)
    (hb : defBody st = [.Expr (.Call (.Attribute (.Call (.Name "super" p0) [] [] p1) "__init__" p2) [.Name x p3] [] p4) p5, .Assign [.Attribute (.Name "self" p6) f p7] (.Name x p8) p9])
    (sc : (decide ((defScope st).names.lookup ("super" : Str) = some .globalImplicit) && (decide ((defScope st).names.lookup ("__class__" : Str) = some .free) && (decide ((defScope st).names.lookup ("self" : Str) = some .local) && (decide ((defScope st).names.lookup x = some .local) &&
      (decide (x ≠ "self") && (decide ((x == ("__debug__" : Str)) = false) && ((defScope st).names.all (fun y => decide (y.2 ≠ .cell)) && (decide ((defScope st).kind = .function) && (decide ((defScope st).isCoroutine = false) && (decide ((defScope st).isGenerator = false) && (p2.endLine == p4.line))))))))))) = true)
    (hfirst : ((defArgs st).posonlyargs ++ (defArgs st).args).head?.map (·.arg) = some ("self" : Str))
    (bi : ∀ (qual : Str) (dV kV doc pm cdv ct : Value) (an : Option Addr) (cc : Addr) (s : Shared) (a b : Value), dV = .none → BindsTo s (PySem.W.ksFn "__init__" qual (defArgs st) (defBody st) (defScope st) dV kV doc pm an cdv ct cc) ⟨[a, b], []⟩ [("self", a), (x, b)]) (hdV : dV = .none) : ErE.ErrC prog K B newId initId bm C fI f := by
  simp only [Bool.and_eq_true, decide_eq_true_eq, List.all_eq_true] at sc
  obtain ⟨s1, s2, s3, s4, s5, s6, s7, s8, s9, s10, s11⟩ := sc
  have bi' := bi qual dV kV doc pm (.ref cda) ct an cc
  rw [hb] at lI bi'
  refine { base := base, cls := ⟨_, _, _, _, _, _, _, _, _, _, _, _, _, _, _, lk, ln⟩, sa := sa, ini := ini, tI := tI, fld := fld, sup := sup, subB := subB, opq := opq, top := top, fn := ?_ }
  exact ⟨_, _, _, _, _, _, _, _, _, _, _, _, _, _, _, _, _, _, _, _, _, _, _, _, _, lI, cI, ⟨_, _, _, _, _, _, lc, v2, fe⟩, ⟨_, _, _, lce⟩, s1, s2, s3, s4, s5, s6, s7, s8, s9, s10, s11, hfirst, fun s a b => bi' s a b hdV⟩
end DM
end
section
set_option maxHeartbeats 2000000
namespace DM
open PySem PySem.Spec PyProof.Rows L2
/-! ### running the further mirrors -/
section
variable {ρ ρ1 : DM.Env} {A A1 : AH} {n N : Nat} {C f q : Str} {P : Addr} {d : D} {fs : List (Str × D)} {me mw : ME} {sa sb : MS} {F : ME → MS} {hs : List HdM} {h : HdM} {r : SRes} {x : LTag}
theorem ev_raise : mRaise C f me ρ A = lift (me ρ A) ρ fun d A1 => .exc C [(f, d)] ρ A1 := id rfl
theorem seq_exc (h : sa ρ A = .exc C fs ρ1 A1) : mSeq sa sb ρ A = .exc C fs ρ1 A1 := by unfold mSeq; rw [h]
theorem fun_exc {ds : List D} (h : sa (ds.map some ++ List.replicate (n - ds.length) none) A = .exc C fs ρ1 A1) : mFun n sa ds A = .exc C fs A1 := by unfold mFun; rw [h]
theorem fun_nx {ds : List D} (h : sa (ds.map some ++ List.replicate (n - ds.length) none) A = .nx ρ1 A1) : mFun n sa ds A = .ok .non A1 := by unfold mFun; rw [h]
end
end DM
end
section
set_option maxHeartbeats 2000000
namespace DM
open PySem PySem.Spec PyProof.Rows L2
/-! ### zip of a list or tuple and another one -/
def IterAt (tp : Bool) (h : Heap) (it a : Addr) (i : Nat) : Prop := if tp = true then h.IsTupleIter it a i else h.IsListIter it a i
theorem IterAt.keep {tp : Bool} {h h' : Heap} {it a : Addr} {i : Nat} (x : IterAt tp h it a i) (k : ∀ o, h.get? it = some o → h'.get? it = some o) : IterAt tp h' it a i := by
  cases tp with
  | false => exact Heap.IsListIter.at x k
  | true => exact Heap.IsTupleIter.at x k
end DM
end
section
set_option maxHeartbeats 2000000
namespace DM
open PySem PySem.Spec PyProof.Rows L2
section
variable {X : Cx} {W : WX} {a b c e e2 tg : Expr} {es elts : List Expr} {ma mb mc me : ME} {mt mu : MT} {ms : MA} {pos p p2 p3 tpos : Pos} {kk : Nat}
/-! ### zip of things that stay -/
/-! ### any, all -/
/-! ### sorted ints; sum -/
def srt (ns : List Int) : List Int := ns.mergeSort fun a b => decide (a ≤ b)
/-! ### in, deep things -/
/-! ### list(range(n)) -/
end
end DM
end
section
set_option maxHeartbeats 2000000
namespace DM
open PySem PySem.Spec PyProof.Rows L2
section
variable {X : Cx} {W : WX} {a b c e e2 tg : Expr} {es elts : List Expr} {ma mb mc me : ME} {mt mu : MT} {ms : MA} {pos p p2 p3 tpos : Pos} {kk : Nat}
/-! ### dicts: of pairs, read -/
def keyOf : D → Option Key
  | .int i => some (.inl i)
  | .str x => some (.inr x)
  | _ => none
theorem key_rd {K : PySem.W.Frag} {m : Mp} {H : Hp} {d : D} {k : Key} {v : V} (h : keyOf d = some k) (r : RD K m H d v) : v = kV k := by
  cases d <;> simp [keyOf] at h <;> subst h <;> cases r <;> rfl
/-! ### d[k] -/
def valD (kvs : List (Key × D)) (k : Key) : Option D := (kvs.find? fun kv => decide (kv.1 = k)).map (·.2)
theorem val_rd {K : PySem.W.Frag} {m : Mp} {H : Hp} : ∀ {kvs : List (Key × D)} {ws : List (Key × V)} {k : Key} {d : D}, kvs.map (·.1) = ws.map (·.1) → RDs K m H (kvs.map (·.2)) (ws.map (·.2)) → valD kvs k = some d → ∃ v, valV ws k = some v ∧ RD K m H d v
  | [], ws, k, d, _, _, h => by simp [valD] at h
  | x :: xs, [], k, d, h1, _, h => by simp at h1
  | x :: xs, y :: ys, k, d, h1, r, h => by
    rw [List.map_cons, List.map_cons] at h1 r
    injection h1 with h1 h2
    cases r with
    | cons r rs =>
      by_cases e : x.1 = k
      · have e' : y.1 = k := h1 ▸ e
        rw [valV_pos e']
        simp [valD, List.find?_cons, e] at h
        subst h
        exact ⟨_, rfl, r⟩
      · have e' : ¬ y.1 = k := fun z => e (h1.trans z)
        rw [valV_neg e']
        simp [valD, List.find?_cons, e] at h
        exact val_rd h2 rs (by simp [valD]; exact h)
def fDGet : D → D → AH → Res D := fun d e A => match d with
  | .ref n => match A[n]?, keyOf e with
    | some (.dk kvs), some k => (match valD kvs k with
      | some x => .ok x A
      | none => .no)
    | _, _ => .no
  | _ => .no
theorem d_dget (hu : X.A.units + 64 < cLine) (ha : DE X W a ma) (hb : DE X W b mb) (hs : NoSl b := by exact fun _ _ => rfl) : DE X W (.Subscript a b pos) (mOp fDGet ma mb) :=
  PEi (pe_dget (by omega) ha hb hs) fun σ H Q ⟨m, A, ρ, R, E, h⟩ => tE.bind R E h fun m1 A1 d v H1 e1 R1 E1 r1 h1 => tE.bind R1 E1 h1 fun m2 A2 d2 v2 H2 e2 R2 E2 r2 h2 => by
    replace r1 := RD.mono e2 _ _ r1
    unfold fDGet at h2
    split at h2
    · rename_i n
      split at h2
      · rename_i kvs k hA hk
        split at h2
        · rename_i x hx
          cases r1 with
          | ref hm =>
            obtain ⟨q, g1, ws, ⟨g2, g3⟩, g4⟩ := R2.obj _ _ hA
            rw [hm] at g1; cases g1
            obtain ⟨v, w1, w2⟩ := val_rd g3 g4 hx
            refine ⟨_, v, rfl, ?_, Post.here R2 w2 h2⟩
            rw [key_rd hk r2, ← w1]
            exact DGet.k g2
        · exact h2.elim
      · exact h2.elim
    · exact h2.elim
end
end DM
end
section
set_option maxHeartbeats 2000000
namespace DM
open PySem PySem.Spec PyProof.Rows L2
/-! ### instances of own classes -/
structure ClsI (K : PySem.W.Frag) (C : Str) (c : Addr) : Prop where
  nm : clsV K C = some (.ref c)
  cl : Cls K c
theorem zip_fs : ∀ (fs : List (Str × D)), (fs.map (·.1)).zip (fs.map (·.2)) = fs
  | [] => rfl
  | (a, b) :: fs => by
    rw [List.map_cons, List.map_cons, List.zip_cons_cons, zip_fs fs]
theorem fld_rel {K : PySem.W.Frag} {m : Mp} {H : Hp} {f : Str} {fs : List (Str × D)} {gs : List (Str × V)} {x : D} (hn : fs.map (·.1) = gs.map (·.1)) (r : RDs K m H (fs.map (·.2)) (gs.map (·.2))) (h : fs.lookup f = some x) : ∃ v, gs.lookup f = some v ∧ RD K m H x v := by
  refine lookup_rel r ?_
  rw [← hn, zip_fs]
  exact h
theorem lookup_names : ∀ {fs : List (Str × D)} {gs : List (Str × V)} {f : Str}, fs.map (·.1) = gs.map (·.1) → fs.lookup f = none → gs.lookup f = none
  | [], [], _, _, _ => rfl
  | [], _ :: _, _, h, _ => by simp at h
  | _ :: _, [], _, h, _ => by simp at h
  | (a, x) :: fs, (b, y) :: gs, f, h, hl => by
    simp only [List.map_cons, List.cons.injEq] at h
    obtain ⟨rfl, h⟩ := h
    simp only [List.lookup_cons] at hl ⊢
    cases hb : (f == a) with
    | true => rw [hb] at hl; cases hl
    | false =>
      rw [hb] at hl
      exact lookup_names h hl
def putFD (f : Str) (v : D) : List (Str × D) → List (Str × D)
  | [] => [(f, v)]
  | (g, x) :: r => if g = f then (g, v) :: r else (g, x) :: putFD f v r
theorem put_rel {K : PySem.W.Frag} {m : Mp} {H : Hp} {f : Str} {y : D} {v : V} (ry : RD K m H y v) : ∀ {fs : List (Str × D)} {gs : List (Str × V)}, fs.map (·.1) = gs.map (·.1) → RDs K m H (fs.map (·.2)) (gs.map (·.2)) →
    (putFD f y fs).map (·.1) = (putF f v gs).map (·.1) ∧ RDs K m H ((putFD f y fs).map (·.2)) ((putF f v gs).map (·.2))
  | [], [], _, _ => ⟨rfl, .cons ry .nil⟩
  | [], _ :: _, h, _ => by simp at h
  | _ :: _, [], h, _ => by simp at h
  | (a, x) :: fs, (b, z) :: gs, h, r => by
    simp only [List.map_cons, List.cons.injEq] at h
    obtain ⟨rfl, h⟩ := h
    cases r with
    | cons r rs =>
      unfold putFD putF
      by_cases e : a = f
      · rw [if_pos e, if_pos e]
        exact ⟨by simp [h], .cons ry rs⟩
      · rw [if_neg e, if_neg e]
        obtain ⟨g1, g2⟩ := put_rel ry h rs
        exact ⟨by simp only [List.map_cons, g1], .cons r g2⟩
section
variable {X : Cx} {W : WX} {a b c e o tg : Expr} {es : List Expr} {ma mb mc me mo mv : ME} {mt mu : MT} {ms mk : MA} {pos p pos' apos : Pos} {kws : List Keyword} {C f mname : Str} {ca : Addr}
def mFld (C f : Str) (me : ME) : ME := fun ρ A => (me ρ A).bind fun d A1 => match d with
  | .ref n => match A1[n]? with
    | some (.ins C' fs) => if C' = C then (match fs.lookup f with
      | some x => .ok x A1
      | none => .no) else .no
    | _ => .no
  | _ => .no
theorem d_fld (T : ClsI X.K C ca) (nf : NoAttr X.K ca f) (he : DE X W e me) (hb : attributeBase e f X.env (eval e X.env) = eval e X.env := by rfl) : DE X W (.Attribute e f pos) (mFld C f me) :=
  PEi (pe_fld he hb) fun σ H Q ⟨m, A, ρ, R, E, h⟩ => tE.bind R E h fun m1 A1 d v H1 e1 R1 E1 r1 h1 => by
    split at h1
    · rename_i n
      split at h1
      · rename_i C' fs hA
        split at h1
        · rename_i hC
          subst hC
          split at h1
          · rename_i x hx
            cases r1 with
            | ref hm =>
              obtain ⟨q, g1, gs, ⟨c', dx, k1, k2, k3, k4, k5⟩, r⟩ := R1.obj _ _ hA
              rw [hm] at g1; cases g1
              rw [T.nm] at k1; cases k1
              obtain ⟨v, w1, w2⟩ := fld_rel k5 r hx
              exact ⟨_, _, dx, gs, v, rfl, k2, T.cl, nf, w1, Post.here R1 w2 h1⟩
          · exact h1.elim
        · exact h1.elim
      · exact h1.elim
    · exact h1.elim
def mSetF (C f : Str) (mv mo : ME) : MS := fun ρ A => lift (mv ρ A) ρ fun y A1 => lift (mo ρ A1) ρ fun d A2 => match d with
  | .ref n => match A2[n]? with
    | some (.ins C' fs) => if C' = C ∧ fs.length < 1000 then .nx ρ (A2.set n (.ins C' (putFD f y fs))) else .no
    | _ => .no
  | _ => .no
theorem set_fld {m : Mp} {A : AH} {H : Hp} {n : Nat} {q : Addr} {C : Str} {fs : List (Str × D)} {gs : List (Str × V)} {c' dx : Addr} {K : PySem.W.Frag} {y : D} {v : V} (R : Rel K m A H) (hm : m.1[n]? = some q) (k1 : clsV K C = some (.ref c')) (k2 : H q = some (.ins c' dx gs)) (k3 : H dx = some (.own q)) (k4 : Out m dx)
    (k5 : fs.map (·.1) = gs.map (·.1)) (r : RDs K m H (fs.map (·.2)) (gs.map (·.2))) (ry : RD K m H y v) : Rel K m (A.set n (.ins C (putFD f y fs))) (upd H q (.ins c' dx (putF f v gs))) ∧ Ext m H m (upd H q (.ins c' dx (putF f v gs))) := by
  refine R.write hm (fun p u hp z => by rw [upd_ne hp]; exact z) fun ex => ?_
  obtain ⟨g1, g2⟩ := put_rel (f := f) (RD.mono ex _ _ ry) k5 (RDs.mono ex _ _ r)
  have hne : dx ≠ q := fun z => by
    rw [z, k2] at k3
    cases k3
  exact ⟨putF f v gs, ⟨c', dx, k1, upd_same, by rw [upd_ne hne]; exact k3, k4, g1⟩, g2⟩
theorem s_fld (T : ClsI X.K C ca) (nf : NoAttr X.K ca f) (ho : DE X W o mo) (hv : DE X W e mv) (hs : swapsWith e (some (.Attribute o f pos')) pos.line X.env = pure false := by rfl) : DS X W (.Assign [.Attribute o f pos'] e pos) (mSetF C f mv mo) :=
  PSi (ps_fld ho hv hs) fun D0 σ H ⟨m, A, ρ, R, E, h⟩ => tE.lift R E h fun m1 A1 y v H1 e1 R1 E1 ry h1 => tE.lift R1 E1 h1 fun m2 A2 d w H2 e2 R2 E2 r2 h2 => by
    split at h2
    · rename_i n
      split at h2
      · rename_i C' fs hA
        split at h2
        · rename_i hC
          obtain ⟨hC, hlen⟩ := hC
          subst hC
          cases r2 with
          | ref hm =>
            obtain ⟨q, g1, gs, ⟨c', dx, k1, k2, k3, k4, k5⟩, r⟩ := R2.obj _ _ hA
            rw [hm] at g1; cases g1
            have k1' := k1
            rw [T.nm] at k1; cases k1
            obtain ⟨R3, e3⟩ := set_fld (f := f) R2 hm k1' k2 k3 k4 k5 r (RD.mono e2 _ _ ry)
            have hl : gs.length < 1000 := by
              have := congrArg List.length k5
              rw [List.length_map, List.length_map] at this
              omega
            exact ⟨_, _, dx, gs, rfl, k2, T.cl, nf, hl, h2 m2 _ _ e3 R3 (E2.mono e3)⟩
        · exact h2.elim
      · exact h2.elim
    · exact h2.elim
/-! ### methods -/
def mMeth (C mname : Str) (n : Nat) (mf : List D → AH → Res D) (mo : ME) (ms : MA) : ME := fun ρ A => (mo ρ A).bind fun d A1 => match d with
  | .ref k => match A1[k]? with
    | some (.ins C' fs) => if C' = C ∧ fs.lookup mname = none then (ms ρ A1).bind fun ds A2 => if (D.ref k :: ds).length = n then mf (.ref k :: ds) A2 else .no else .no
    | _ => .no
  | _ => .no
variable {k : Nat} {g : Addr} {fd : FuncData} {ps ks : List Str} {mf : List D → AH → Res D} {pl : Sem Bool}
theorem spD_of {K : PySem.W.Frag} {n : Nat} {m : Mp} {A : AH} {H : Hp} {σ : L2.St} {ds : List D} {vs : List V} {Q : VK} (R : Rel K m A H) (r : RDs K m H ds vs) (h : Post K (RD K) W σ m H (if ds.length = n then mf ds A else .no) Q) : spD K n mf vs H Q (WE W σ) := by
  split at h
  · rename_i hl
    exact ⟨by rw [← r.length]; exact hl, m, A, ds, R, r, by
      cases hz : mf ds A with
      | ok d A2 => rw [hz] at h; exact h
      | exc C fs A2 => rw [hz] at h; exact h
      | no => rw [hz] at h; exact h⟩
  · exact h.elim
theorem d_meth (T : ClsI X.K C ca) (hM : Meth X.K ca mname g) (F : FnD X.prog X.w X.K X.mg X.base k g fd ps mf) (hr : Room k X.A) (gd : X.A.guards = some []) (tk : Takes X W) (hb : Binds X.K fd ps []) (ho : DE X W o mo) (ha : DA X W (e :: es) ms) {n : Nat} (hn : ps.length = n := by rfl)
    (hst : starEach (e :: es) X.env = (false, eval e X.env) :: starEach es X.env := by rfl) (hpl : (backTo pos (starEach es X.env)).any (·.1) = false := by rfl)
    (ht : eval (.Call (.Attribute o mname apos) (e :: es) [] pos) X.env = (do
      let ov ← eval o X.env
      standAt apos.atName
      let (f, first) ← holding [ov] (getMethod ov mname pl)
      callWith pos f first (backTo pos (starEach (e :: es) X.env)) (backToKw pos (keywordEach [] X.env))) := by rfl) :
    DE X W (.Call (.Attribute o mname apos) (e :: es) [] pos) (mMeth C mname n mf mo ms) := by
  subst hn
  refine ⟨fun pins s σ H Q I ⟨m, A, ρ, R, E, h⟩ => ?_⟩
  refine PySem.W.methodCall_KW (pl := pl) (thn (ho.run pins s σ H (fun x H1 => ∃ a dx gs, x = .ref a ∧ H1 a = some (.ins ca dx gs) ∧ gs.lookup mname = none ∧ tA X.K W ms σ H1 fun vs H2 => spD X.K ps.length mf (.ref a :: vs) H2 Q (WE W σ)) I (tE.bind R E h fun m1 A1 d v H1 e1 R1 E1 r1 h1 => ?_)) fun u s1 ⟨x, H1, I1, rx, a, dx, gs, ex, ea, l, q⟩ => ?_) ht
  · split at h1
    · rename_i n
      split at h1
      · rename_i C' fs hA
        split at h1
        · rename_i hC
          obtain ⟨hC, hlk⟩ := hC
          subst hC
          cases r1 with
          | ref hm =>
            obtain ⟨q, g1, gs, ⟨c', dx, k1, k2, k3, k4, k5⟩, r⟩ := R1.obj _ _ hA
            rw [hm] at g1; cases g1
            rw [T.nm] at k1; cases k1
            refine ⟨_, dx, gs, rfl, k2, lookup_names k5 hlk, tA.bind R1 E1 h1 fun m2 A2 ds vs H2 e2 R2 E2 r2 h2 => ?_⟩
            exact spD_of R2 (.cons (RD.mono e2 _ _ (.ref hm)) r2) h2
        · exact h1.elim
      · exact h1.elim
    · exact h1.elim
  · subst ex
    obtain rfl : u = Value.ref a := rx
    refine getmeth_ok I1 ea T.cl hM l ?_
    refine PySem.W.callWith_K (first := [.ref a]) (h₀ := X.base) I.ok.mod.kin hM.kp (thn (ha.run pos pins s1 σ H1 _ I1 q) fun us s2 ⟨vs, H2, I2, r, q2⟩ => ⟨I2.kIn, call_D ?_⟩) hst hpl
    have b := hb s2 (.ref a :: us) I2.kIn (by rw [List.append_nil, List.length_cons, ← r.length]; exact q2.1)
    rw [List.append_nil] at b
    exact run_D F hr gd tk I2 b (show Vals (V.ref a :: vs) (Value.ref a :: us) from .cons rfl r) q2
theorem d_meth0 (T : ClsI X.K C ca) (hM : Meth X.K ca mname g) (F : FnD X.prog X.w X.K X.mg X.base k g fd ps mf) (hr : Room k X.A) (gd : X.A.guards = some []) (tk : Takes X W) (hb : Binds X.K fd ps []) (ho : DE X W o mo) {n : Nat} (hn : ps.length = n := by rfl)
    (ht : eval (.Call (.Attribute o mname apos) [] [] pos) X.env = (do
      let ov ← eval o X.env
      standAt apos.atName
      let (f, first) ← holding [ov] (getMethod ov mname pl)
      callWith pos f first (backTo pos (starEach [] X.env)) (backToKw pos (keywordEach [] X.env))) := by rfl) :
    DE X W (.Call (.Attribute o mname apos) [] [] pos) (mMeth C mname n mf mo mNil) := by
  subst hn
  refine ⟨fun pins s σ H Q I ⟨m, A, ρ, R, E, h⟩ => ?_⟩
  refine PySem.W.methodCall_KW (pl := pl) (thn (ho.run pins s σ H (fun x H1 => ∃ a dx gs, x = .ref a ∧ H1 a = some (.ins ca dx gs) ∧ gs.lookup mname = none ∧ spD X.K ps.length mf [.ref a] H1 Q (WE W σ)) I (tE.bind R E h fun m1 A1 d v H1 e1 R1 E1 r1 h1 => ?_)) fun u s1 ⟨x, H1, I1, rx, a, dx, gs, ex, ea, l, q⟩ => ?_) ht
  · split at h1
    · rename_i n
      split at h1
      · rename_i C' fs hA
        split at h1
        · rename_i hC
          obtain ⟨hC, hlk⟩ := hC
          subst hC
          cases r1 with
          | ref hm =>
            obtain ⟨q, g1, gs, ⟨c', dx, k1, k2, k3, k4, k5⟩, r⟩ := R1.obj _ _ hA
            rw [hm] at g1; cases g1
            rw [T.nm] at k1; cases k1
            exact ⟨_, dx, gs, rfl, k2, lookup_names k5 hlk, spD_of R1 (.cons (.ref hm) .nil) h1⟩
        · exact h1.elim
      · exact h1.elim
    · exact h1.elim
  · subst ex
    obtain rfl : u = Value.ref a := rx
    refine getmeth_ok I1 ea T.cl hM l ?_
    refine PySem.W.callWith_K0 (first := [.ref a]) I1.kIn hM.kp (call_D ?_)
    have b := hb s1 [.ref a] I1.kIn (by rw [List.append_nil]; exact q.1)
    rw [List.append_nil] at b
    exact run_D F hr gd tk I1 b (show Vals [V.ref a] [Value.ref a] from .cons rfl .nil) q
/-! ### C(..) -/
def mMake (C : Str) (n : Nat) (mf : List D → AH → Res D) (ms : MA) : ME := fun ρ A => (ms ρ A).bind fun ds A1 => if (D.ref A1.length :: ds).length = n then (match mf (.ref A1.length :: ds) (A1 ++ [.ins C []]) with
  | .ok .non A2 => .ok (.ref A1.length) A2
  | .exc C fs A2 => .exc C fs A2
  | _ => .no) else .no
theorem make_D {pins : List (Addr × Obj)} {σ : L2.St} {H : Hp} {s : Shared} {Q : VK} {us : List Value} {vs : List V} {m : Mp} {A : AH} {ds : List D} (T : ClsI X.K C ca) (M : Mk X.K ca g) (F : FnD X.prog X.w X.K X.mg X.base k g fd ps mf) (hr : Room (k + 1) X.A) (gd : X.A.guards = some []) (tk : Takes X W) (hb : Binds X.K fd ps [])
    (I : Inv X pins σ H s) (r : Vals vs us) (R : Rel X.K m A H) (rd : RDs X.K m H ds vs) (h : Post X.K (RD X.K) W σ m H (if (D.ref A.length :: ds).length = ps.length then (match mf (.ref A.length :: ds) (A ++ [.ins C []]) with
      | .ok .non A2 => .ok (.ref A.length) A2
      | .exc C fs A2 => .exc C fs A2
      | _ => .no) else .no) Q) : wpAny (model X.prog X.w) X.A (call (.ref ca) us) (EP X pins σ Q) X.xe s := by
  split at h
  rotate_left
  · exact h.elim
  rename_i hl
  have I2 := Inv.made (C := ca) I
  have n1 : H (s.heap.objs.size + 1) = none := I.hok.fresh (Nat.le_succ _)
  have n0 : H s.heap.objs.size = none := I.hok.fresh (Nat.le_refl _)
  have r2 : Vals (V.ref (s.heap.objs.size + 1) :: vs) (Value.ref (s.heap.objs.size + 1) :: us) := .cons rfl r
  have hq : spD X.K ps.length mf (V.ref (s.heap.objs.size + 1) :: vs) (upd (upd H s.heap.objs.size (.own (s.heap.objs.size + 1))) (s.heap.objs.size + 1) (.ins ca s.heap.objs.size [])) (fun v H2 => v = .non ∧ Q (.ref (s.heap.objs.size + 1)) H2) (WE W σ) := by
    obtain ⟨R1, e1⟩ := R.new n0 (.own (s.heap.objs.size + 1))
    have n1' : upd H s.heap.objs.size (.own (s.heap.objs.size + 1)) (s.heap.objs.size + 1) = none := by rw [upd_ne (Nat.succ_ne_self _)]; exact n1
    have hout : Out (m.1 ++ [s.heap.objs.size + 1], m.2) s.heap.objs.size := by
      refine ⟨fun z => ?_, fun z => (R.out n0).2 z⟩
      rcases List.mem_append.mp z with z | z
      · exact (R.out n0).1 z
      · exact absurd (List.mem_singleton.mp z) (Nat.succ_ne_self _).symm
    obtain ⟨R2, e2⟩ := R1.push (q := s.heap.objs.size + 1) (o := .ins C []) n1' (H' := upd (upd H s.heap.objs.size (.own (s.heap.objs.size + 1))) (s.heap.objs.size + 1) (.ins ca s.heap.objs.size [])) (fun p u z => by rw [upd_ne (ne_of_none z n1')]; exact z)
      fun ex => ⟨[], ⟨ca, s.heap.objs.size, T.nm, upd_same, by rw [upd_ne (Nat.succ_ne_self _).symm]; exact upd_same, hout, rfl⟩, .nil⟩
    · refine ⟨by rw [List.length_cons, ← rd.length]; exact hl, _, _, .ref A.length :: ds, R2, .cons (.ref (by rw [← R.len]; simp)) (RDs.mono (e1.trans e2) _ _ rd), ?_⟩
      cases hz : mf (.ref A.length :: ds) (A ++ [.ins C []]) with
      | ok d A2 =>
        rw [hz] at h
        cases d with
        | non =>
          intro m' H' v e3 R3 r3
          cases r3
          refine ⟨rfl, ?_⟩
          have e4 := (e1.trans e2).trans e3
          refine h m' H' _ e4 R3 (.ref ?_)
          obtain ⟨l, hl'⟩ := e3.pre
          rw [hl', ← R.len]
          simp
        | _ => exact h.elim
      | exc C fs A2 =>
        rw [hz] at h
        intro m' H' c dx e3 R3 hc hx
        exact h m' H' c dx ((e1.trans e2).trans e3) R3 hc hx
      | no => rw [hz] at h; exact h.elim
  have b := hb _ (Value.ref (s.heap.objs.size + 1) :: us) I2.kIn (by rw [List.append_nil, ← r2.length]; exact hq.1)
  rw [List.append_nil] at b
  refine wpAny_call (make_map (f := g) I.kIn M.makes M.init (beq_iff_eq.mp M.fn) (codeAny_mono (F.run _ X.stack _ _ ⟨Value.ref (s.heap.objs.size + 1) :: us, []⟩ (Value.ref (s.heap.objs.size + 1) :: us) _ _ (WE W σ) (hr.make ca us []) gd
    (I2.env0.make ca us []) b r2 hq) fun r s' hq' => ?_))
  cases r with
  | error e => exact passAt tk σ pins _ _ e s' I2 hq'
  | ok fl =>
    cases fl with
    | ret u =>
      obtain ⟨v, H', I3, rv, ev, q3⟩ := I2.after hq'
      subst ev
      exact ⟨rv, ⟨V.ref (s.heap.objs.size + 1), H', I3, rfl, q3⟩⟩
    | next => exact False.elim hq'
    | brk => exact False.elim hq'
    | cont => exact False.elim hq'
theorem d_make {x : Str} (T : ClsI X.K C ca) (M : Mk X.K ca g) (F : FnD X.prog X.w X.K X.mg X.base k g fd ps mf) (hr : Room (k + 1) X.A) (gd : X.A.guards = some []) (tk : Takes X W) (hm : X.mg x = some (.ref ca)) (hb : Binds X.K fd ps []) (ha : DA X W (e :: es) ms) {n : Nat} (hn : ps.length = n := by rfl)
    (hg : Gl X x := by rfl) (hdb : (x == ("__debug__" : Str)) = false := by decide) (he : starEach (e :: es) X.env = (false, eval e X.env) :: starEach es X.env := by rfl) (hpl : (backTo pos (starEach es X.env)).any (·.1) = false := by rfl) :
    DE X W (.Call (.Name x p) (e :: es) [] pos) (mMake C n mf ms) := by
  subst hn
  refine ⟨fun pins s σ H Q I ⟨m, A, ρ, R, E, h⟩ => wpAny_Call_Name_kw (ld_glob I hg hm (PySem.W.callWith_K (h₀ := X.base) I.ok.mod.kin M.kp (thn (ha.run pos pins s σ H (fun vs H1 => ∃ m1 A1 ds, Rel X.K m1 A1 H1 ∧ RDs X.K m1 H1 ds vs ∧ Post X.K (RD X.K) W σ m1 H1 (if (D.ref A1.length :: ds).length = ps.length then (match mf (.ref A1.length :: ds) (A1 ++ [.ins C []]) with
      | .ok .non A2 => .ok (.ref A1.length) A2
      | .exc C fs A2 => .exc C fs A2
      | _ => .no) else .no) Q) I (tA.bind R E h fun m1 A1 ds vs H1 e1 R1 E1 r1 h1 => ⟨m1, A1, ds, R1, r1, h1⟩)) fun us s1 ⟨vs, H1, I1, r, m1, A1, ds, R1, r1, q⟩ => ⟨I1.kIn, make_D T M F hr gd tk hb I1 r R1 r1 q⟩) he hpl) hdb)⟩
/-! ### is, of bools -/
end
end DM
end
section
set_option maxHeartbeats 2000000
namespace DM
open PySem PySem.Spec PyProof.Rows L2
/-! ### isinstance of several built-in types -/
section
variable {X : Cx} {W : WX} {a b c e e2 tg : Expr} {es elts : List Expr} {ma mb mc me : ME} {mt mu : MT} {ms : MA} {pos p p2 p3 tpos : Pos} {kk : Nat}
/-! ### sum, min of two -/
/-! ### lists that will change: a copy, a slice -/
/-! ### zip of things that may change -/
end
end DM
end
section
set_option maxHeartbeats 2000000
namespace DM
open PySem PySem.Spec PyProof.Rows L2
section
variable {X : Cx} {W : WX} {a b c e e2 tg : Expr} {es elts : List Expr} {ma mb mc me mv mo : ME} {mt mu : MT} {ms : MA} {pos pos' p p2 p3 tpos apos cpos : Pos} {kk : Nat}
/-! ### dicts that change -/
def putKD (kvs : List (Key × D)) (k : Key) (v : D) : List (Key × D) :=
  if (kvs.any fun kv => decide (kv.1 = k)) = true then kvs.map (fun kv => if kv.1 = k then (kv.1, v) else kv) else kvs ++ [(k, v)]
def dropKD (kvs : List (Key × D)) (k : Key) : List (Key × D) := kvs.filter fun kv => decide (kv.1 ≠ k)
theorem any_keys {α β : Type} (k : Key) : ∀ {kvs : List (Key × α)} {ws : List (Key × β)}, kvs.map (·.1) = ws.map (·.1) → (kvs.any fun kv => decide (kv.1 = k)) = ws.any fun kv => decide (kv.1 = k)
  | [], [], _ => rfl
  | [], _ :: _, h => by simp at h
  | _ :: _, [], h => by simp at h
  | x :: xs, y :: ys, h => by
    simp only [List.map_cons, List.cons.injEq] at h
    rw [List.any_cons, List.any_cons, h.1, any_keys k h.2]
theorem valD_any (k : Key) : ∀ kvs : List (Key × D), (valD kvs k).isSome = kvs.any fun kv => decide (kv.1 = k) := fun kvs => by
  unfold valD
  rw [Option.isSome_map]
  induction kvs with
  | nil => rfl
  | cons x xs ih =>
    rw [List.find?_cons, List.any_cons]
    cases decide (x.1 = k) with
    | true => rfl
    | false => exact ih
theorem repl_rd {K : PySem.W.Frag} {m : Mp} {H : Hp} {k : Key} {d : D} {v : V} (r : RD K m H d v) : ∀ {kvs : List (Key × D)} {ws : List (Key × V)}, kvs.map (·.1) = ws.map (·.1) → RDs K m H (kvs.map (·.2)) (ws.map (·.2)) →
    (kvs.map fun kv => if kv.1 = k then (kv.1, d) else kv).map (·.1) = (ws.map fun kv => if kv.1 = k then (kv.1, v) else kv).map (·.1) ∧
    RDs K m H ((kvs.map fun kv => if kv.1 = k then (kv.1, d) else kv).map (·.2)) ((ws.map fun kv => if kv.1 = k then (kv.1, v) else kv).map (·.2))
  | [], [], _, _ => ⟨rfl, .nil⟩
  | [], _ :: _, h, _ => by simp at h
  | _ :: _, [], h, _ => by simp at h
  | x :: xs, y :: ys, h, hr => by
    simp only [List.map_cons, List.cons.injEq] at h hr
    cases hr with
    | cons r1 rs =>
      obtain ⟨g1, g2⟩ := repl_rd (k := k) r h.2 rs
      simp only [List.map_cons]
      by_cases e : x.1 = k
      · have e' : y.1 = k := h.1 ▸ e
        rw [if_pos e, if_pos e']
        exact ⟨by rw [g1, h.1], .cons r g2⟩
      · have e' : ¬ y.1 = k := fun z => e (h.1.trans z)
        rw [if_neg e, if_neg e']
        exact ⟨by rw [g1, h.1], .cons r1 g2⟩
theorem put_rdK {K : PySem.W.Frag} {m : Mp} {H : Hp} {k : Key} {d : D} {v : V} (r : RD K m H d v) {kvs : List (Key × D)} {ws : List (Key × V)} (h : kvs.map (·.1) = ws.map (·.1)) (hr : RDs K m H (kvs.map (·.2)) (ws.map (·.2))) :
    (putKD kvs k d).map (·.1) = (putK ws k v).map (·.1) ∧ RDs K m H ((putKD kvs k d).map (·.2)) ((putK ws k v).map (·.2)) := by
  unfold putKD putK
  rw [any_keys k h]
  split
  · exact repl_rd r h hr
  · rw [List.map_append, List.map_append, List.map_append, List.map_append, h]
    exact ⟨rfl, hr.append (.cons r .nil)⟩
theorem drop_rdK {K : PySem.W.Frag} {m : Mp} {H : Hp} {k : Key} : ∀ {kvs : List (Key × D)} {ws : List (Key × V)}, kvs.map (·.1) = ws.map (·.1) → RDs K m H (kvs.map (·.2)) (ws.map (·.2)) →
    (dropKD kvs k).map (·.1) = (dropK ws k).map (·.1) ∧ RDs K m H ((dropKD kvs k).map (·.2)) ((dropK ws k).map (·.2))
  | [], [], _, _ => ⟨rfl, .nil⟩
  | [], _ :: _, h, _ => by simp at h
  | _ :: _, [], h, _ => by simp at h
  | x :: xs, y :: ys, h, hr => by
    simp only [List.map_cons, List.cons.injEq] at h hr
    cases hr with
    | cons r1 rs =>
      obtain ⟨g1, g2⟩ := drop_rdK (k := k) h.2 rs
      unfold dropKD dropK at g1 g2 ⊢
      by_cases e : x.1 = k
      · have e' : y.1 = k := h.1 ▸ e
        rw [List.filter_cons_of_neg (by simp [e]), List.filter_cons_of_neg (by simp [e'])]
        exact ⟨g1, g2⟩
      · have e' : ¬ y.1 = k := fun z => e (h.1.trans z)
        rw [List.filter_cons_of_pos (by simp [e]), List.filter_cons_of_pos (by simp [e'])]
        exact ⟨by rw [List.map_cons, List.map_cons, g1, h.1], .cons r1 g2⟩
theorem valD_some {kvs : List (Key × D)} {ws : List (Key × V)} {k : Key} (h : kvs.map (·.1) = ws.map (·.1)) : (valD kvs k).isSome = (valV ws k).isSome := by
  rw [← valV_any, ← any_keys k h, valD_any]
/-- {} -/
def mDict0 : ME := fun ρ A => .ok (.ref A.length) (A ++ [.dk []])
theorem d_dict0 : DE X W (.Dict [] [] pos) mDict0 :=
  PEi pe_dnewK fun σ H Q ⟨m, A, ρ, R, E, h⟩ => fun q hq => by
    let ⟨R1, e1⟩ := R.push (H' := upd H q (.dK [])) (o := .dk []) hq (fun q' u z => by rw [upd_ne (ne_of_none z hq)]; exact z) fun e => ⟨[], ⟨upd_same, rfl⟩, .nil⟩
    exact h _ _ _ e1 R1 (.ref (by rw [← R.len]; simp))
/-- d[k] = v -/
def mDPut (mv mo mi : ME) : MS := fun ρ A => lift (mv ρ A) ρ fun v A1 => lift (mo ρ A1) ρ fun d A2 => lift (mi ρ A2) ρ fun e A3 => match d with
  | .ref n => match A3[n]?, keyOf e with
    | some (.dk kvs), some k => if kvs.length < 16777216 then .nx ρ (A3.set n (.dk (putKD kvs k v))) else .no
    | _, _ => .no
  | _ => .no
theorem s_dput (hu : X.A.units + 64 < cLine) (ho : DE X W a mo) (hi : DE X W b mb) (hv : DE X W e mv) (hs : swapsWith e (some (.Subscript a b pos')) pos.line X.env = pure false := by rfl) : DS X W (.Assign [.Subscript a b pos'] e pos) (mDPut mv mo mb) :=
  PSi (ps_dput (by omega) ho hi hv hs) fun D0 σ H ⟨m, A, ρ, R, E, h⟩ => tE.lift R E h fun m1 A1 y v H1 e1 R1 E1 ry h1 => tE.lift R1 E1 h1 fun m2 A2 d w H2 e2 R2 E2 r2 h2 => tE.lift R2 E2 h2 fun m3 A3 i u H3 e3 R3 E3 r3 h3 => by
    replace r2 := RD.mono e3 _ _ r2
    replace ry := RD.mono e3 _ _ (RD.mono e2 _ _ ry)
    split at h3
    · rename_i n
      split at h3
      · rename_i kvs k hA hk
        split at h3
        · rename_i hlen
          cases r2 with
          | ref hm =>
            rename_i q0
            obtain ⟨q, g1, ws, ⟨g2, g3⟩, g4⟩ := R3.obj _ _ hA
            rw [hm] at g1; cases g1
            have hl : ws.length < sizeLine := by
              have := congrArg List.length g3
              rw [List.length_map, List.length_map] at this
              rw [← this, sizeLine_eq]; exact hlen
            let ⟨R4, e4⟩ := R3.write (H' := upd H3 q0 (.dK (putK ws k v))) (o := .dk (putKD kvs k y)) hm (fun p u hp z => by rw [upd_ne hp]; exact z) fun ex => by
              obtain ⟨w1, w2⟩ := put_rdK (k := k) (RD.mono ex _ _ ry) g3 (RDs.mono ex _ _ g4)
              exact ⟨_, ⟨upd_same, w1⟩, w2⟩
            refine ⟨_, _, rfl, by rw [key_rd hk r3]; exact DPut.k g2 hl, h3 m3 _ _ e4 R4 (E3.mono e4)⟩
        · exact h3.elim
      · exact h3.elim
    · exact h3.elim
end
end DM
end
section
set_option maxHeartbeats 2000000
namespace DM
open PySem PySem.Spec PyProof.Rows L2
section
variable {X : Cx} {W : WX} {a b c e e2 o tg : Expr} {es elts : List Expr} {ma mb mc me mv mo : ME} {mt mu : MT} {ms : MA} {pos pos' p p2 p3 tpos apos cpos : Pos} {kk : Nat} {C f : Str} {ca : Addr}
/-! ### xs.insert(i, y), xs.remove(k) of whole numbers -/
/-! ### o.f += i -/
end
end DM
end
section
set_option maxHeartbeats 2000000
/-! own errors over KeyError: its __new__ is LookupError's -/
namespace PySem
namespace ErE
open Builtin Builtin.ObjectAttr
/-- what a line over KeyError holds and what not -/
structure OverKey (l : List Value) : Prop where
  over : l.contains (.type "LookupError") = true
  noAttr : l.contains (.type "AttributeError") = false
  noName : l.contains (.type "NameError") = false
section
variable {M : Model} {prog : Program} {w : World} {A : Around} {E : Value → Shared → Prop} {hp : Heap} {gs : Array GenState} {dr : Drawn} {tn : Nat} {os : OsState}
variable {cn cq : Str} {C N : Addr} {bs l : List Value} {hasD : Bool} {sn : List Str} {sb : List Value} {ab : Bool} {cl : Option Bool} {dd : Option Addr} {k0 k1 k2 k3 k5 : Option Value}
end
section
variable {M : Model} {A : Around} {E : Value → Shared → Prop} {hp : Heap} {gs : Array GenState} {dr : Drawn} {tn : Nat} {os : OsState}
end
end ErE
end PySem
end
section
set_option maxHeartbeats 2000000
namespace DM
open PySem PySem.Spec PyProof.Rows L2
/-! ### defs that are called where an exception is handled, and let none out -/
abbrev XNo : XK := fun _ _ _ => False
structure FnH (P : Program) (w : World) (K : PySem.W.Frag) (mg : Str → Option Value) (base : Heap) (k : Nat) (f : Addr) (fd : FuncData) (ps : List Str) (mf : List D → AH → Res D) : Prop where
  run : ∀ (A : Around) (outer : List PySem.Env) (s : Shared) (H : Hp) (args : Args) (us : List Value) (vs : List V) (Q : VK) (p : Addr × Obj), L2H.RoomH k A → A.handled = some (.ref p.1) → A.guards = some [] → L2H.PinOk outer H s p → Env0 P w K mg base A outer s H → BindsTo s fd args (ps.zip us) → Vals vs us →
    spD K ps.length mf vs H Q XNo → codeAny (model P w) A (.call (.ref f) args) (CR (L2.CX P w) outer P w H s Q XNo) s
section
variable {P : Program} {w : World} {K : PySem.W.Frag} {mg : Str → Option Value} {base : Heap}
theorem FnH.of {x qual : Str} {st : Stmt} {f : Addr} {fd : FuncData} {N ps : List Str} {k : Nat} {ms : MS} (F : Fun K x qual st f fd) (S : FnScope N ps (defScope st))
    (hb : ∀ (cdv : Value), fd.code = cdv → ∀ (A : Around) (outer : List PySem.Env) (s : Shared) (H : Hp) (p : Addr × Obj), A.handled = some (.ref p.1) → L2H.RoomH k (A.deeper (envOfC qual (defScope st) s.heap.objs.size f cdv)) → (A.deeper (envOfC qual (defScope st) s.heap.objs.size f cdv)).guards = some [] →
      DSs (L2H.cxH (L2.CX P w) P w K mg base N qual (defScope st) f cdv A outer s H XNo p) WNo (defBody st) ms) {n : Nat} (hn : N.length = n := by rfl) : FnH P w K mg base (k + 1) f fd ps (mFun n ms) := by
  subst hn
  obtain ⟨oc, od, kV, doc, pm, an, cdv, ct, osl, rfl, lk, hcd⟩ := F.ex
  refine ⟨fun A outer s H args us vs Q p room hot gd pin en bi rel hsp => ?_⟩
  obtain ⟨hlen, m, AA, ds, R, rds, post⟩ := hsp
  have kin : K.In s.heap := en.mod.kin.keeps fun b o h => (en.bs b o h).1
  have nolim : s.heap.NoLimit := en.mod.nolimit.keeps fun b o h => (en.bs b o h).1
  have kinds : ∀ y ∈ ps.zip us, (defScope st).names.lookup y.1 = some .local ∨ ((defScope st).names.lookup y.1 = some .cell ∧ ((cellsFrom (s.heap.objs.size + 1) (defScope st).names []).lookup y.1).isSome = true) := by
    rintro ⟨n, v⟩ hy
    rcases S.par n (List.of_mem_zip hy).1 with z | z
    · exact .inl z
    · exact .inr ⟨z, PySem.W.cellsFrom_some _ _ _ (.inl z)⟩
  refine codeAny_call_function room.depth (kin _ _ lk) rfl S.co S.gen rfl (PySem.W.codeRec_of kin hcd) (bi _ _ _ _ (wpAny_newFunctionEnv_cells S.kind kinds fun env henv s1 hx => ?_))
  subst henv
  refine ⟨nolim.keeps hx.toInCall.keep, codeAny_func ?_⟩
  have body := hb cdv rfl A outer s H p hot (room.deeper _) gd
  have I := L2H.inv_startH (CX := L2.CX P w) (E := XNo) S pin en hlen rel hx
  have want : tS K WNo ms { nx := fun _ H' => Q .non H', rt := Q } (L2.start N vs) H := by
    refine ⟨m, AA, _, R, start_rel (N := N) rds, ?_⟩
    unfold mFun at post
    cases hr : ms (ds.map some ++ List.replicate (N.length - ds.length) none) AA with
    | nx ρ1 A1 => rw [hr] at post; exact fun m' H' σ' e1 R1 _ => post m' H' .non e1 R1 .non
    | rt d A1 => rw [hr] at post; exact fun m' H' v e1 R1 r1 => post m' H' v e1 R1 r1
    | exc C fs ρ1 A1 => rw [hr] at post; exact fun m' H' c dx σ' e1 R1 _ hc hx => post m' H' c dx e1 R1 hc hx
    | bk ρ1 A1 => rw [hr] at post; exact post.elim
    | ct ρ1 A1 => rw [hr] at post; exact post.elim
    | no => rw [hr] at post; exact post.elim
  have back : ∀ {σ' : L2.St} {H' : Hp} {v : V} {u : Value} {s' : Shared}, Inv (L2H.cxH (L2.CX P w) P w K mg base N qual (defScope st) f cdv A outer s H XNo p) [] σ' H' s' → RelV v u → Q v H' → CE outer P w H s Q u s' :=
    fun J ru q => ⟨_, _, J.os, J.bare, J.base, J.hok, ru, q⟩
  refine wpAny_mono (body.run [] s1 (L2.start N vs) H _ I want) (fun fl s' z => ?_) fun _ _ z => z
  cases fl with
  | next =>
    obtain ⟨_, _, J, q⟩ := z
    exact back (v := V.non) (u := Value.none) J rfl q
  | ret u =>
    obtain ⟨_, _, _, J, ru, q⟩ := z
    exact back J ru q
  | brk =>
    obtain ⟨_, _, _, q⟩ := z
    exact q.elim
  | cont =>
    obtain ⟨_, _, _, q⟩ := z
    exact q.elim
end
section
variable {X : Cx} {k : Nat} {f : Addr} {fd : FuncData} {ps ks : List Str} {mf : List D → AH → Res D} {x : Str} {p pos kpos : Pos} {e : Expr} {es : List Expr} {ms mk : MA} {me : ME}
end
/-! ### built-in classes: isinstance, except -/
section
variable {K : PySem.W.Frag} {T : String} {c : Addr} {b : Bool}
end
end DM
end
section
set_option maxHeartbeats 4000000
namespace DM
open PySem PySem.Spec PyProof.Rows L2
/-! ### set(xs) of a list of whole numbers, and sorted(set(xs)) -/
section
variable {P : Program} {w : World} {A : Around} {E : Value → Shared → Prop} {s : Shared}
end
/-! ### sorted(set(xs)) -/
section
variable {X : Cx} {W : WX} {e : Expr} {me : ME} {p p2 pos pos2 : Pos}
def rSetL (K : PySem.W.Frag) (w : World) : List V → Hp → VK → Prop := fun xs H Q => ∃ (l : Addr) (ns : List Int), xs = [.ref l] ∧ SqL K H l (ns.map V.int) ∧ ns.length < 64 ∧
  ∀ (a : Addr) (c : Nat), H a = none → c ≤ ns.length → Q (.ref a) (upd H a (SetO w a (fun j => decide (j ∈ ns)) c))
end
end DM
namespace DM
open PySem PySem.Spec PyProof.Rows L2
theorem units64 {k : Nat} {A : Around} (r : Room k A) : A.units + 64 < cLine := by have := r.un; omega
section
variable {X : Cx} {j k : Nat} {a f : Addr} {oe : Obj} {pn : List (Addr × Obj)} {fd : FuncData} {ps : List Str} {mf : List D → AH → Res D} {x : Str} {p pos : Pos} {e : Expr} {es : List Expr} {ms : MA}
end
end DM
end
section
set_option maxHeartbeats 2000000
namespace DM
open PySem PySem.Spec PyProof.Rows L2
/-! ### order of texts -/
abbrev sLt (a b : Str) : Prop := a.cps.toList < b.cps.toList
def sLe (a b : Str) : Bool := !decide (sLt b a)
theorem str_ext {a b : Str} (h : a.cps.toList = b.cps.toList) : a = b := by
  cases a
  cases b
  simp only at h
  congr 1
  exact Array.toList_inj.mp h
theorem sLe_total (a b : Str) : (sLe a b || sLe b a) = true := by
  unfold sLe sLt
  by_cases h : b.cps.toList < a.cps.toList
  · have : ¬ a.cps.toList < b.cps.toList := List.lt_asymm h
    simp [this]
  · simp [h]
theorem sLe_iff {a b : Str} : sLe a b = true ↔ a.cps.toList ≤ b.cps.toList := by
  unfold sLe sLt
  simp
theorem sLe_trans (a b c : Str) (h1 : sLe a b = true) (h2 : sLe b c = true) : sLe a c = true := sLe_iff.mpr (List.le_trans (sLe_iff.mp h1) (sLe_iff.mp h2))
theorem sLe_anti {a b : Str} (h1 : sLe a b = true) (h2 : sLe b a = true) : a = b := str_ext (List.le_antisymm (sLe_iff.mp h1) (sLe_iff.mp h2))
def srtS (xs : List Str) : List Str := xs.mergeSort sLe
theorem srtS_perm (xs : List Str) : (srtS xs).Perm xs := List.mergeSort_perm ..
theorem srtS_sorted (xs : List Str) : (srtS xs).Pairwise fun a b => sLe a b = true := List.pairwise_mergeSort sLe_trans sLe_total xs
theorem srtS_uniq {a b : List Str} (h1 : a.Perm b) (h2 : a.Pairwise fun x y => sLe x y = true) : a = srtS b :=
  List.Perm.eq_of_pairwise (fun x y _ _ h h' => sLe_anti h h') h2 (srtS_sorted b) (h1.trans (srtS_perm b).symm)
theorem rising_up : ∀ {r : List Str} {p : Str}, risingS p r = true → (p :: r).Pairwise fun a b => sLe a b = true
  | [], p, _ => by simp
  | x :: r, p, h => by
    unfold risingS at h
    rw [Bool.and_eq_true] at h
    have hp : sLe p x = true := by
      have := h.1
      rw [ltCps_eq] at this
      exact this
    have ih := rising_up h.2
    refine List.pairwise_cons.mpr ⟨fun y hy => ?_, ih⟩
    rcases List.mem_cons.mp hy with rfl | hy
    · exact hp
    · exact sLe_trans _ _ _ hp ((List.pairwise_cons.mp ih).1 y hy)
theorem sortedS_up {ys : List Str} (h : sortedS ys = true) : ys.Pairwise fun a b => sLe a b = true := by
  cases ys with
  | nil => exact List.Pairwise.nil
  | cons x r => exact rising_up h
/-! ### lists of texts -/
def strsOf : List D → Option (List Str)
  | [] => some []
  | .str b :: xs => (strsOf xs).map (b :: ·)
  | _ => none
theorem strs_rd {K : PySem.W.Frag} {m : Mp} {H : Hp} : ∀ {xs : List D} {bs : List Str} {vs : List V}, strsOf xs = some bs → RDs K m H xs vs → vs = bs.map V.str
  | [], bs, vs, h, r => by cases h; cases r; rfl
  | d :: xs, bs, vs, h, r => by
    cases d with
    | str b =>
      obtain ⟨c, hc, rfl⟩ := Option.map_eq_some_iff.mp h
      cases r with
      | cons r rs =>
        cases r
        rw [strs_rd hc rs]
        rfl
    | _ => exact nomatch h
theorem rds_strs {K : PySem.W.Frag} {m : Mp} {H : Hp} : ∀ bs : List Str, RDs K m H (bs.map D.str) (bs.map V.str)
  | [] => .nil
  | b :: bs => .cons (.str _) (rds_strs bs)
theorem strsOf_map : ∀ ns : List Str, strsOf (ns.map D.str) = some ns
  | [] => rfl
  | k :: r => by
    rw [List.map_cons]
    unfold strsOf
    rw [strsOf_map r]
    rfl
section
variable {X : Cx} {W : WX} {a b c e e2 o tg iter kx vx : Expr} {es ifs : List Expr} {ma mb mc me mo mk mv : ME} {mt tt : MT} {ms : MA} {mi : MI} {pos pos' p p2 apos cpos : Pos} {t : Tg} {f C : Str} {ca : Addr}
/-! ### a <= b of whole numbers and of texts -/
def fLeX : D → D → AH → Res D := fun d e A => match d, e with
  | .int i, .int j => .ok (.bl (decide (i ≤ j))) A
  | .str i, .str j => .ok (.bl (sLe i j)) A
  | _, _ => .no
theorem fLeX_ok {K : PySem.W.Frag} : OpD K fLeX (fun x y H Q => rI0 (fun i j => .bl (decide (i ≤ j))) x y H Q ∨ ∃ i j, x = .str i ∧ y = .str j ∧ Q (.bl (!decide (j.cps.toList < i.cps.toList))) H) := by
  intro W σ m A H x y d e Q R hx hy h
  unfold fLeX at h
  split at h
  · cases hx; cases hy
    exact .inl ⟨_, _, rfl, rfl, Post.here R (.bl _) h⟩
  · cases hx; cases hy
    exact .inr ⟨_, _, rfl, rfl, Post.here R (.bl _) h⟩
  · exact h.elim
def fLtX : D → D → AH → Res D := fun d e A => match d, e with
  | .int i, .int j => .ok (.bl (decide (i < j))) A
  | .str i, .str j => .ok (.bl (decide (sLt i j))) A
  | _, _ => .no
theorem fLtX_ok {K : PySem.W.Frag} : OpD K fLtX (fun x y H Q => rI0 (fun i j => .bl (decide (i < j))) x y H Q ∨ ∃ i j, x = .str i ∧ y = .str j ∧ Q (.bl (decide (i.cps.toList < j.cps.toList))) H) := by
  intro W σ m A H x y d e Q R hx hy h
  unfold fLtX at h
  split at h
  · cases hx; cases hy
    exact .inl ⟨_, _, rfl, rfl, Post.here R (.bl _) h⟩
  · cases hx; cases hy
    exact .inr ⟨_, _, rfl, rfl, Post.here R (.bl _) h⟩
  · exact h.elim
theorem op_leX : OpR X (compareOp .LtE) (fun x y H Q => rI0 (fun i j => .bl (decide (i ≤ j))) x y H Q ∨ ∃ i j, x = .str i ∧ y = .str j ∧ Q (.bl (!decide (j.cps.toList < i.cps.toList))) H) := op_le.or op_le_str
theorem op_ltX : OpR X (compareOp .Lt) (fun x y H Q => rI0 (fun i j => .bl (decide (i < j))) x y H Q ∨ ∃ i j, x = .str i ∧ y = .str j ∧ Q (.bl (decide (i.cps.toList < j.cps.toList))) H) := op_lt.or op_lt_str
/-! ### x += y of whole numbers, texts, tuples -/
/-! ### a.join(list), ord, what is walked -/
def mJoin (mo me : ME) : ME := fun ρ A => (mo ρ A).bind fun d A1 => match d with
  | .str a => (me ρ A1).bind fun e A2 => match seqOf A2 e with
    | some xs => match strsOf xs with
      | some ys => if (ys.map (·.length)).sum + ys.length * a.length ≤ 16777216 then .ok (.str (Txt.join a ys)) A2 else .no
      | none => .no
    | none => .no
  | _ => .no
theorem d_join (ho : DE X W o mo) (he : DE X W e me) (hs : starEach [e] X.env = [(false, eval e X.env)] := by rfl) (hbase : attributeBase o "join" X.env (eval o X.env) = eval o X.env := by rfl) (hline : (apos.endLine == pos.line) = true := by rfl) :
    DE X W (.Call (.Attribute o "join" apos) [e] [] pos) (mJoin mo me) :=
  PEi (pe_join ho he hs hbase hline) fun σ H Q ⟨m, A, ρ, R, E, h⟩ => tE.bind R E h fun m1 A1 d v H1 e1 R1 E1 r1 h1 => by
    split at h1
    · rename_i a
      cases r1
      refine ⟨⟨a, rfl⟩, tE.bind R1 E1 h1 fun m2 A2 d2 v2 H2 e2 R2 E2 r2 h2 => ?_⟩
      split at h2
      · rename_i xs hs2
        split at h2
        · rename_i ys hy
          split at h2
          · rename_i hz
            obtain ⟨q, us, rfl, sq, rs⟩ := seqOf_ok R2 r2 hs2
            have := strs_rd hy rs
            subst this
            exact ⟨a, q, ys, rfl, rfl, sq, hz, Post.here R2 (.str _) h2⟩
          · exact h2.elim
        · exact h2.elim
      · exact h2.elim
    · exact h1.elim
def charsD (x : Str) : List D := x.cps.toList.map fun c => D.str ⟨#[c]⟩
/-! ### sorted of texts, of a dict -/
def fSortS : List D → AH → Res D := fun ds A => match ds with
  | [d] => if isTup d = true then .no else match seqOf A d with
    | some xs => match strsOf xs with
      | some ns => if ns.length < 64 then .ok (.lst ((srtS ns).map D.str)) A else .no
      | none => .no
    | none => .no
  | _ => .no
theorem fSortS_ok {K : PySem.W.Frag} : CallD K fSortS (rSortedS K) := by
  intro W σ m A H xs ds Q R hx h
  unfold fSortS at h
  split at h
  rotate_left
  · exact h.elim
  obtain ⟨v, rfl, r⟩ := hx.one
  split at h
  · exact h.elim
  rename_i d ht
  split at h
  rotate_left
  · exact h.elim
  rename_i ys hs
  split at h
  rotate_left
  · exact h.elim
  rename_i ns hn
  split at h
  rotate_left
  · exact h.elim
  rename_i few
  obtain ⟨a, us, rfl, rs, z⟩ := seqOf_is R r hs
  have hL : SqL K H a us := by
    rcases z with ⟨rfl, _⟩ | ⟨_, z⟩
    · exact absurd rfl ht
    · exact z
  have := strs_rd hn rs
  subst this
  refine ⟨a, ns, rfl, hL, few, fun out q pm up hq => ?_⟩
  have := srtS_uniq pm (sortedS_up up)
  subst this
  exact lst_new R (rds_strs _) h q hq
theorem d_sortS (hm : X.mg "sorted" = none) (ha : DA X W [e] ms) (hg : Gl X "sorted" := by rfl) (he : starEach [e] X.env = (false, eval e X.env) :: starEach [] X.env := by rfl) (hpl : (backTo pos (starEach [] X.env)).any (·.1) = false := by rfl) :
    DE X W (.Call (.Name "sorted" p) [e] [] pos) (mCall fSortS ms) := d_callB cr_sortedS fSortS_ok hg hm (by decide +kernel) ha (by decide) (by decide) he hpl
def strKeys : List (Key × D) → Option (List Str)
  | [] => some []
  | (.inr k, _) :: r => (strKeys r).map (k :: ·)
  | _ => none
theorem strKeys_ok : ∀ {kvs : List (Key × D)} {ks : List Str}, strKeys kvs = some ks → kvs.map (·.1) = ks.map Sum.inr
  | [], ks, h => by cases h; rfl
  | (.inr k, _) :: r, ks, h => by
    obtain ⟨c, hc, rfl⟩ := Option.map_eq_some_iff.mp h
    rw [List.map_cons, strKeys_ok hc]
    rfl
  | (.inl k, _) :: r, ks, h => nomatch h
def fSortD : List D → AH → Res D := fun ds A => match ds with
  | [.ref n] => match A[n]? with
    | some (.dk kvs) => match strKeys kvs with
      | some ks => if ks.length < 64 then .ok (.lst ((srtS ks).map D.str)) A else .no
      | none => .no
    | _ => .no
  | _ => .no
theorem fSortD_ok {K : PySem.W.Frag} : CallD K fSortD (fun xs H Q => ∃ (a : Addr) (kvs : List (Key × V)) (ks : List Str), xs = [.ref a] ∧ Rd H a (.dK kvs) ∧ kvs.map (·.1) = ks.map Sum.inr ∧ ks.length < 64 ∧ ∀ ys p, ys.Perm ks → sortedS ys = true → H p = none → Q (.ref p) (upd H p (.lst (ys.map V.str)))) := by
  intro W σ m A H xs ds Q R hx h
  unfold fSortD at h
  split at h
  rotate_left
  · exact h.elim
  rename_i n
  obtain ⟨v, rfl, r⟩ := hx.one
  split at h
  rotate_left
  · exact h.elim
  rename_i kvs hA
  split at h
  rotate_left
  · exact h.elim
  rename_i ks hk
  split at h
  rotate_left
  · exact h.elim
  rename_i few
  cases r with
  | ref hm =>
    obtain ⟨q, g1, ws, ⟨g2, g3⟩, g4⟩ := R.obj _ _ hA
    rw [hm] at g1; cases g1
    refine ⟨_, ws, ks, rfl, .inl g2, by rw [← g3]; exact strKeys_ok hk, few, fun out p pm up hp => ?_⟩
    have := srtS_uniq pm (sortedS_up up)
    subst this
    exact lst_new R (rds_strs _) h p hp
theorem d_sortD (hc : X.calm = true) (hm : X.mg "sorted" = none) (ha : DA X W [e] ms) (hg : Gl X "sorted" := by rfl) (he : starEach [e] X.env = (false, eval e X.env) :: starEach [] X.env := by rfl) (hpl : (backTo pos (starEach [] X.env)).any (·.1) = false := by rfl) :
    DE X W (.Call (.Name "sorted" p) [e] [] pos) (mCall fSortD ms) := d_callB (call_sortedD hc) fSortD_ok hg hm (by decide +kernel) ha (by decide) (by decide) he hpl
/-! ### xs.extend(ys) -/
/-! ### {k: v} -/
/-! ### {k: v for ..} -/
open Classical in
noncomputable def dcGo (iv : ItV) (all : List D) (t : Tg) (tt : MT) (mk mv : ME) (ρ : DM.Env) (n : Nat) : List D → AH → Res Unit
  | [], A => if itemsOf A iv = some all then .ok () A else .no
  | x :: xs, A => if itemsOf A iv = some all then (match bindT t x ρ with
    | some ρ1 => (match tt ρ1 A with
      | .ok true A1 => (match mk ρ1 A1 with
        | .ok y A2 => (match mv ρ1 A2 with
          | .ok z A3 => (match A3[n]?, keyOf y with
            | some (.dk kvs), some key => if kvs.length < 16777216 then dcGo iv all t tt mk mv ρ n xs (A3.set n (.dk (putKD kvs key z))) else .no
            | _, _ => .no)
          | _ => .no)
        | _ => .no)
      | .ok false A1 => dcGo iv all t tt mk mv ρ n xs A1
      | _ => .no)
    | none => .no) else .no
end
end DM
end
section
set_option maxHeartbeats 2000000
namespace DM
open PySem PySem.Spec PyProof.Rows L2
/-! ### dict(t), t a tuple of pairs that is known as a plain object -/
section
variable {X : Cx} {W : WX} {e o a b kx vx : Expr} {es : List Expr} {ms : MA} {me mo ma mb mv : ME} {pos p pos' apos cpos : Pos}
/-! ### len of a dict -/
def fLenD : List D → AH → Res D := fun ds A => match ds with
  | [.ref n] => match A[n]? with
    | some (.dk kvs) => .ok (.int kvs.length) A
    | _ => .no
  | _ => .no
theorem fLenD_ok {K : PySem.W.Frag} : CallD K fLenD (fun xs H Q => ∃ a kvs, xs = [V.ref a] ∧ H a = some (.dK kvs) ∧ Q (.int kvs.length) H) := by
  intro W σ m A H xs ds Q R hx h
  unfold fLenD at h
  split at h
  rotate_left
  · exact h.elim
  rename_i n
  obtain ⟨v, rfl, r⟩ := hx.one
  split at h
  rotate_left
  · exact h.elim
  rename_i kvs hA
  cases r with
  | ref hm =>
    obtain ⟨q, g1, ws, ⟨g2, g3⟩, g4⟩ := R.obj _ _ hA
    rw [hm] at g1; cases g1
    have hl : kvs.length = ws.length := by
      have := congrArg List.length g3
      rw [List.length_map, List.length_map] at this
      exact this
    rw [hl] at h
    exact ⟨_, ws, rfl, g2, Post.here R (.int _) h⟩
theorem d_lenD (hm : X.mg "len" = none) (ha : DA X W [e] ms) (hg : Gl X "len" := by rfl) (he : starEach [e] X.env = (false, eval e X.env) :: starEach [] X.env := by rfl) (hpl : (backTo pos (starEach [] X.env)).any (·.1) = false := by rfl) :
    DE X W (.Call (.Name "len" p) [e] [] pos) (mCall fLenD ms) := d_callB call_lenD fLenD_ok hg hm PySem.boot_len ha (by decide) (by decide) he hpl
/-! ### texts of the written part -/
theorem d_gstr {x : Str} {v : Str} (h : ∃ t, X.mg x = some (.str v t)) (hg : Gl X x := by rfl) (hd : (x == ("__debug__" : Str)) = false := by decide) : DE X W (.Name x pos) (mK (.str v)) := by
  obtain ⟨t, h⟩ := h
  exact PEi (pe_glob (v := .str v) hg h ⟨t, rfl⟩ hd) fun σ H Q ⟨m, A, ρ, R, E, h⟩ => Post.here R (.str v) h
/-! ### o.f, o.g = t -/
inductive AtF (X : Cx) (W : WX) (C : Str) (ca : Addr) (mo : ME) : List Expr → List Str → Prop
  | nil : AtF X W C ca mo [] []
  | cons {o : Expr} {f : Str} {pos : Pos} {es : List Expr} {fs : List Str} (ho : DE X W o mo) (nf : NoAttr X.K ca f) (r : AtF X W C ca mo es fs)
      (hs : (assignEach (.Attribute o f pos :: es) X.env).map (·.2) = assign (.Attribute o f pos) X.env :: (assignEach es X.env).map (·.2) := by rfl) : AtF X W C ca mo (.Attribute o f pos :: es) (f :: fs)
end
end DM
end
section
set_option maxHeartbeats 2000000
namespace DM
open PySem PySem.Spec PyProof.Rows L2
/-! ### C(k = v, ..) -/
section
variable {X : Cx} {W : WX} {pos p : Pos} {kws : List Keyword} {mk : MA} {C : Str} {ca g : Addr} {fd : FuncData} {ps ks : List Str} {pm : List Nat} {mf : List D → AH → Res D} {k : Nat}
end
end DM
namespace DM
open PySem PySem.Spec PyProof.Rows L2
/-! ### k in d, k perhaps None -/
section
variable {X : Cx} {W : WX} {a b : Expr} {ma mb : ME} {pos : Pos}
theorem t_leX (ha : DE X W a ma) (hb : DE X W b mb) (hm : behindInMarks .LtE b = false := by first | exact nomark _ | rfl) : DT X W (.Compare a [.LtE] [b] pos) (mTst (mOp fLeX ma mb)) := t_cmp op_leX fLeX_ok ha hb hm
end
end DM
end
section
set_option maxHeartbeats 2000000
namespace DM
open PySem PySem.Spec PyProof.Rows L2
section
variable {X : Cx} {W : WX} {a b : Expr} {ma mb : ME} {pos : Pos}
end
end DM
end
section
set_option maxHeartbeats 1000000
namespace DM
open PySem PySem.Spec PyProof.Rows L2
section
variable {X : Cx} {W : WX} {e e2 : Expr} {ms : MA} {pos p : Pos}
/-! ### max of two -/
end
end DM
end
section
set_option maxHeartbeats 2000000
namespace DM
open PySem PySem.Spec PyProof.Rows L2
section
variable {X : Cx} {W : WX} {a b c : Expr} {ma mb : ME} {ms : MA} {pos p p2 p3 : Pos}
/-! ### list(range(i, j)) -/
/-! ### list(range(i, j, k)) -/
end
end DM
end
section
set_option maxHeartbeats 1000000
namespace DM
open PySem PySem.Spec PyProof.Rows L2
/-! ### numbers as data -/
theorem toPys_ints : ∀ L : List Int, toPys (L.map D.int) = some (L.map PyData.int)
  | [] => rfl
  | x :: L => by
    simp only [List.map_cons, toPys, toPy, toPys_ints L]
theorem toPysG_ints (g : Nat → Option PyData) : ∀ L : List Int, toPysG g (L.map D.int) = some (L.map PyData.int)
  | [] => rfl
  | x :: L => by
    simp only [List.map_cons, toPysG, toPyG, toPysG_ints g L]
theorem canLays_ints : ∀ L : List Int, PyData.canLayAll0 (L.map PyData.int) = true
  | [] => rfl
  | x :: L => by simp only [List.map_cons, PyData.canLayAll0, PyData.canLay0, canLays_ints L, Bool.and_self]
theorem depths_ints : ∀ L : List Int, PyData.depthAll (L.map PyData.int) ≤ 1
  | [] => by decide
  | x :: L => by
    have h := depths_ints L
    simp only [List.map_cons, PyData.depthAll, PyData.depth] at h ⊢
    omega
theorem shaped_lints (L : List Int) : SeqAt.shaped (.list (L.map PyData.int)) = true := by
  have h := depths_ints L
  have h1 : PyData.canLay0 (.list (L.map PyData.int)) = true := by simp only [PyData.canLay0, canLays_ints]
  have h2 : PyData.depth (.list (L.map PyData.int)) ≤ 64 := by
    simp only [PyData.depth]
    omega
  unfold SeqAt.shaped
  rw [h1, decide_eq_true h2]
  rfl
theorem eqvAll_nil (xs : List PyData) : PyData.eqvAll xs [] = xs.isEmpty := by
  cases xs <;> rfl
/-- the drawing object: at h the pair of the list at q and the number -/
def HS (h q : Nat) (A : AH) : Prop := h ≠ q ∧ ∃ (L : List Int) (s : Int), A[h]? = some (.lst [.ref q, .int s]) ∧ A[q]? = some (.lst (L.map D.int)) ∧ L.length ≤ 63 ∧ 0 ≤ s ∧ s < 2147483647
def Drawn (h q : Nat) (A A' : AH) : Prop := A'.length = A.length ∧ HS h q A' ∧ ∀ n, n ≠ h → n ≠ q → A'[n]? = A[n]?
theorem Drawn.trans {h q : Nat} {A B C : AH} (a : Drawn h q A B) (b : Drawn h q B C) : Drawn h q A C := ⟨b.1.trans a.1, b.2.1, fun n h1 h2 => (b.2.2 n h1 h2).trans (a.2.2 n h1 h2)⟩
/-- one object changed -/
def Put (q : Nat) (o : AO) (A A' : AH) : Prop := A'.length = A.length ∧ A'[q]? = some o ∧ ∀ n, n ≠ q → A'[n]? = A[n]?
theorem Put.set {q : Nat} {o u : AO} {A : AH} (h : A[q]? = some u) : Put q o A (A.set q o) := by
  refine ⟨List.length_set .., List.getElem?_set_self (List.getElem?_eq_some_iff.mp h).1, fun n hn => List.getElem?_set_ne (Ne.symm hn)⟩
theorem Put.trans {q : Nat} {o u : AO} {A B C : AH} (a : Put q o A B) (b : Put q u B C) : Put q u A C := ⟨b.1.trans a.1, b.2.1, fun n h => (b.2.2 n h).trans (a.2.2 n h)⟩
theorem at_ref0 {q : Nat} {s : Int} : atI [D.ref q, D.int s] 0 = some (D.ref q) := rfl
theorem at_ref1 {q : Nat} {s : Int} : atI [D.ref q, D.int s] 1 = some (D.int s) := rfl
theorem seqOf_ref {A : AH} {n : Nat} {xs : List D} (h : A[n]? = some (.lst xs)) : seqOf A (.ref n) = some xs := by
  simp only [seqOf, h]
theorem ix_ref {A : AH} {n : Nat} {xs : List D} {i : Int} {v : D} (h : A[n]? = some (.lst xs)) (hv : atI xs i = some v) : fIx (.ref n) (.int i) A = .ok v A := by
  unfold fIx
  simp only [seqOf_ref h, hv]
theorem ix_lst {A : AH} {xs : List D} {i : Int} {v : D} (hv : atI xs i = some v) : fIx (.lst xs) (.int i) A = .ok v A := by
  unfold fIx
  simp only [seqOf, hv]
theorem ix_tup {A : AH} {xs : List D} {i : Int} {v : D} (hv : atI xs i = some v) : fIx (.tup xs) (.int i) A = .ok v A := by
  unfold fIx
  simp only [seqOf, hv]
theorem eq_ints {A : AH} {i j : Int} {neg : Bool} : fEq neg (.int i) (.int j) A = .ok (.bl (if neg then !decide (i = j) else decide (i = j))) A := rfl
theorem eq_refnil {A : AH} {n : Nat} {L : List Int} (h : A[n]? = some (.lst (L.map D.int))) {neg : Bool} : fEq neg (.ref n) (.lst []) A = .ok (.bl (if neg then !L.isEmpty else L.isEmpty)) A := by
  have hz : SeqAt.shaped (.list []) = true := by decide +kernel
  have e : cEq A (.ref n) (.lst []) = some L.isEmpty := by
    unfold cEq
    simp only [toPyA, refPy, toPyG, h, toPysG_ints, toPys_ints, toPy, toPys, Option.map_some, shaped_lints, hz, and_self, if_true, PyData.eqv, eqvAll_nil]
    cases L <;> rfl
  unfold fEq
  rw [e]
noncomputable def pickM (c : List D → AH → Res D) : List D → AH → Res D := mFun 2 (mRet (mOp fIx (mVar 1) (mCallF 2 c (mCons (mVar 0) (mCons (mCall fLen (mCons (mVar 1)
    (mNil))) (mNil))))))
def tstM : MT := mAnd (mTst (mOp (fEq true) (mOp fIx (mVar 0) (mK (.int 0))) (mLst (mNil)))) (mTst (mOp (fEq false) (mOp fIx (mOp fIx (mVar 0) (mK (.int 0))) (mNeg (mK (.int 1)))) (mK (.int 0))))
def popM : MS := mDrop (mPop (mOp fIx (mVar 0) (mK (.int 0))))
theorem zeros_go {h q : Nat} {s k : Int} (hq : h ≠ q) : ∀ (n : Nat) (L : List Int) (A : AH), L.length = n → A[h]? = some (.lst [.ref q, .int s]) → A[q]? = some (.lst (L.map D.int)) →
    ∃ (L' : List Int) (A' : AH), L'.length ≤ L.length ∧ Put q (.lst (L'.map D.int)) A A' ∧ iterW tstM popM (n + 1) [some (.ref h), some (.int k), none] A = .nx [some (.ref h), some (.int k), none] A'
  | n, L, A, hn, h1, h2 => by
    cases hL : L with
    | nil =>
      subst hL
      refine ⟨[], A, Nat.le_refl _, ⟨rfl, h2, fun _ _ => rfl⟩, ?_⟩
      simp [iterW, tstM, mAnd, mTst, mOp, mVar, mK, mLst, mNil, ix_ref h1 at_ref0, eq_refnil h2]
    | cons x0 R =>
      obtain ⟨M, x, e⟩ : ∃ M x, L = M ++ [x] := ⟨L.dropLast, L.getLast (by rw [hL]; simp), (List.dropLast_concat_getLast (by rw [hL]; simp)).symm⟩
      rw [← hL]
      have hlast : atI (L.map D.int) (-1) = some (D.int x) := by
        rw [e, List.map_append]; exact atI_last _ _
      have hne : L.isEmpty = false := by rw [hL]; rfl
      have t1 : tstM [some (.ref h), some (.int k), none] A = .ok (decide (x = 0)) A := by
        simp [tstM, mAnd, mTst, mOp, mVar, mK, mLst, mNil, mNeg, ix_ref h1 at_ref0, eq_refnil h2, hne, ix_ref h2 hlast, eq_ints]
      by_cases hx : x = 0
      · have hlen : M.length + 1 = n := by rw [← hn, e]; simp
        obtain ⟨m, rfl⟩ : ∃ m, n = m + 1 := ⟨M.length, hlen.symm⟩
        have hg : (L.map D.int)[(L.map D.int).length - 1]? = some (D.int x) := by
          rw [e]; simp
        have hd : (L.map D.int).dropLast = M.map D.int := by
          rw [e]; simp
        have p1 : popM [some (.ref h), some (.int k), none] A = .nx [some (.ref h), some (.int k), none] (A.set q (.lst (M.map D.int))) := by
          simp only [popM, mDrop, mPop, mOp, mVar, mK, List.getElem?_cons_zero, bind_ok, ix_ref h1 at_ref0, h2, hg, hd, lift_ok]
        have P := Put.set (o := .lst (M.map D.int)) h2
        obtain ⟨L', A', l1, P', w⟩ := zeros_go hq m M (A.set q (.lst (M.map D.int))) (by omega) ((P.2.2 h hq).trans h1) P.2.1
        refine ⟨L', A', by rw [e]; simp; omega, P.trans P', ?_⟩
        unfold iterW
        rw [t1, decide_eq_true hx]
        simp only [p1]
        exact w
      · refine ⟨L, A, Nat.le_refl _, ⟨rfl, h2, fun _ _ => rfl⟩, ?_⟩
        unfold iterW
        rw [t1, decide_eq_false hx]
end DM
end
section
set_option maxHeartbeats 1000000
namespace DM
open PySem PySem.Spec PyProof.Rows L2
/-- a comprehension whose parts change nothing -/
theorem comp_pure {iv : ItV} {all : List D} {t : Tg} {tt : MT} {me : ME} {ρ : DM.Env} {A : AH} {p : D → Bool} {f : D → D} (hit : itemsOf A iv = some all) : ∀ (xs acc : List D), (∀ x ∈ xs, ∃ ρ1, bindT t x ρ = some ρ1 ∧ tt ρ1 A = .ok (p x) A ∧ (p x = true → me ρ1 A = .ok (f x) A)) →
    compGo iv all t tt me ρ xs acc A = .ok (acc ++ (xs.filter p).map f) A
  | [], acc, _ => by
    unfold compGo
    rw [if_pos hit]
    simp
  | x :: xs, acc, h => by
    obtain ⟨ρ1, h1, h2, h3⟩ := h x List.mem_cons_self
    have ih := comp_pure (t := t) (tt := tt) (me := me) (ρ := ρ) (p := p) (f := f) hit xs
    unfold compGo
    rw [if_pos hit, h1]
    simp only [h2]
    cases hp : p x with
    | true =>
      simp only [h3 hp]
      rw [ih _ fun y hy => h y (List.mem_cons_of_mem _ hy), List.filter_cons, if_pos hp, List.map_cons, List.append_assoc]
      rfl
    | false =>
      simp only
      rw [ih _ fun y hy => h y (List.mem_cons_of_mem _ hy), List.filter_cons, if_neg (by rw [hp]; decide)]
theorem cut_take (xs : List D) (k : Nat) : cutD xs none (some (k : Int)) = xs.take k := by
  unfold cutD
  rw [HT.sIx_none, HT.sIx_nat, List.drop_zero, Nat.sub_zero]
  rcases Nat.le_total k xs.length with h | h
  · rw [Nat.min_eq_left h]
  · rw [Nat.min_eq_right h, List.take_of_length_le (Nat.le_refl _), List.take_of_length_le h]
theorem filter_true {α : Type} (xs : List α) : xs.filter (fun _ => true) = xs := List.filter_eq_self.mpr fun _ _ => rfl
end DM
end
section
set_option maxHeartbeats 1000000
namespace DM
open PySem PySem.Spec PyProof.Rows L2
/-- octets as data -/
def dI (os : List Nat) : List D := os.map fun n : Nat => D.int (n : Int)
theorem dI_length (os : List Nat) : (dI os).length = os.length := by simp [dI]
theorem dI_append (a b : List Nat) : dI (a ++ b) = dI a ++ dI b := by simp [dI]
theorem Drawn.refl {h q : Nat} {A : AH} (hs : HS h q A) : Drawn h q A A := ⟨rfl, hs, fun _ _ _ => rfl⟩
/-- a comprehension whose parts draw -/
theorem comp_draw {iv : ItV} {all : List D} {t : Tg} {tt : MT} {me : ME} {ρ : DM.Env} {h q : Nat} {Pd : D → Prop} {G : AH → Prop} (hit : ∀ A, itemsOf A iv = some all) (hG : ∀ A A', G A → Drawn h q A A' → G A') : ∀ (xs acc : List D) (A : AH), HS h q A → G A →
    (∀ x ∈ xs, ∀ A, HS h q A → G A → ∃ ρ1 y A1, bindT t x ρ = some ρ1 ∧ tt ρ1 A = .ok true A ∧ me ρ1 A = .ok y A1 ∧ Pd y ∧ Drawn h q A A1) →
    ∃ ys A', compGo iv all t tt me ρ xs acc A = .ok (acc ++ ys) A' ∧ ys.length = xs.length ∧ (∀ y ∈ ys, Pd y) ∧ Drawn h q A A'
  | [], acc, A, hs, g, _ => ⟨[], A, by unfold compGo; rw [if_pos (hit A)]; simp, rfl, by simp, Drawn.refl hs⟩
  | x :: xs, acc, A, hs, g, st => by
    obtain ⟨ρ1, y, A1, e1, e2, e3, p, d⟩ := st x List.mem_cons_self A hs g
    obtain ⟨ys, A', w, l, ps, d'⟩ := comp_draw (t := t) (tt := tt) (me := me) (ρ := ρ) (Pd := Pd) (G := G) hit hG xs (acc ++ [y]) A1 d.2.1 (hG _ _ g d) fun z hz => st z (List.mem_cons_of_mem _ hz)
    refine ⟨y :: ys, A', ?_, by simp [l], ?_, d.trans d'⟩
    · unfold compGo
      rw [if_pos (hit A), e1]
      simp only [e2, e3]
      rw [w]
      simp
    · intro z hz
      rcases List.mem_cons.mp hz with rfl | hz
      · exact p
      · exact ps z hz
end DM
end
section
set_option maxHeartbeats 1000000
namespace DM
open PySem PySem.Spec PyProof.Rows L2
/-! ### the other way to draw -/
end DM
end
section
set_option maxHeartbeats 1000000
namespace DM
open PySem PySem.Spec PyProof.Rows L2
noncomputable def checkM : List D → AH → Res D := mFun 3 (mSeq (mSet 1 (mK (.int 1))) (mSeq (mFor (mSq (mVar 0)) (.nm 2) (mSet 1 (mOp fMod (mOp fAdd (mOp fMulA (mVar 1) (mK (.int 256))) (mVar 2))
    (mK (.int 4294967291))))) (mRet (mVar 1))))
noncomputable def pairM : List D → AH → Res D := mFun 1 (mRet (mTup (mCons (mOp fShr (mVar 0) (mK (.int 8))) (mCons (mOp fAnd (mVar 0) (mK (.int 255))) (mNil)))))
noncomputable def sumM (c_check_sum : List D → AH → Res D) (c_pair_of : List D → AH → Res D) : List D → AH → Res D := mFun 2 (mSeq (mSet 1 (mCallF 1 c_check_sum (mCons (mVar 0) (mNil)))) (mRet
    (mOp fAdd (mCallF 1 c_pair_of (mCons (mOp fShr (mVar 1) (mK (.int 16))) (mNil))) (mCallF 1 c_pair_of (mCons (mOp fAnd (mVar 1) (mK (.int 65535))) (mNil))))))
noncomputable def putM (c_sum_octets : List D → AH → Res D) (c_pair_of : List D → AH → Res D) : List D → AH → Res D := mFun 2 (mSeq (mIfS (mTst (mOp fGt (mCall fLen (mCons (mVar 0) (mNil))) (mK
    (.int 65535)))) (mRaise "InvalidSize" "word" (mK (.str "body"))) (mNext)) (mSeq (mSet 1 (mOp fAdd (mOp fAdd (mCallF 1 c_pair_of (mCons (mCall fLen (mCons (mVar 0) (mNil))) (mNil))) (mCallF 1 c_pair_of (mCons (mOp fSub (mK (.int 65535))
    (mCall fLen (mCons (mVar 0) (mNil)))) (mNil)))) (mCall fTup (mCons (mVar 0) (mNil))))) (mRet (mOp fAdd (mVar 1) (mCallF 1 c_sum_octets (mCons (mVar 1) (mNil)))))))
/-! ### the sum -/
def cs (os : List Nat) : Nat := os.foldl (fun t o => (t * 256 + o) % 4294967291) 1
theorem cs_step {x : Option D} {i j : Int} {A : AH} (cm : CMul i 256) : mSet 1 (mOp fMod (mOp fAdd (mOp fMulA (mVar 1) (mK (.int 256))) (mVar 2)) (mK (.int 4294967291))) [x, some (.int i), some (.int j)] A = .nx [x, some (.int ((i * 256 + j) % 4294967291)), some (.int j)] A := by
  simp only [EVa, List.getElem?_cons_zero, List.getElem?_cons_succ, List.set_cons_zero, List.set_cons_succ, bind_ok, lift_ok, List.length_cons, List.length_nil, Nat.reduceAdd, Nat.reduceLeDiff, ↓reduceIte, if_true, if_false, Bool.false_eq_true, fMulA, fI, cm, fAdd, fMod, show (0 : Int) < 4294967291 by decide]
theorem cs_go {x : Option D} {all : List D} {A : AH} (hx : x = some (.tup all)) : ∀ (os : List Nat) (t : Nat) (d : Option D), t < 4294967291 → ∃ d',
    forGo (.sq (.tup all)) all (.nm 2) (mSet 1 (mOp fMod (mOp fAdd (mOp fMulA (mVar 1) (mK (.int 256))) (mVar 2)) (mK (.int 4294967291)))) (dI os) [x, some (.int (t : Int)), d] A
      = .nx [x, some (.int ((os.foldl (fun t o => (t * 256 + o) % 4294967291) t : Nat) : Int)), d'] A
  | [], t, d, _ => ⟨d, for_nil rfl⟩
  | o :: os, t, d, ht => by
    obtain ⟨d', e⟩ := cs_go (x := x) (all := all) (A := A) hx os ((t * 256 + o) % 4294967291) (some (.int o)) (Nat.mod_lt _ (by decide))
    refine ⟨d', ?_⟩
    rw [List.foldl_cons, show dI (o :: os) = .int o :: dI os from rfl]
    have cm : CMul (t : Int) 256 := .inl ⟨by omega, by omega⟩
    have e1 : ((t : Int) * 256 + o) % 4294967291 = (((t * 256 + o) % 4294967291 : Nat) : Int) := by omega
    have st := cs_step (x := x) (A := A) (i := t) (j := o) cm
    rw [e1] at st
    exact (for_nx rfl rfl st).trans e
theorem check_ok {os : List Nat} {A : AH} : checkM [.tup (dI os)] A = .ok (.int (cs os : Nat)) A := by
  obtain ⟨d', e⟩ := cs_go (x := some (.tup (dI os))) (all := dI os) (A := A) rfl os 1 none (by decide)
  unfold checkM
  refine fun_rt ?_
  refine (seq_nx (ρ1 := [some (.tup (dI os)), some (.int (1 : Nat)), none]) (A1 := A) rfl).trans ?_
  refine (seq_nx (ρ1 := [some (.tup (dI os)), some (.int ((cs os : Nat) : Int)), d']) (A1 := A) ?_).trans ?_
  · simp only [EVa, List.getElem?_cons_zero, List.getElem?_cons_succ, List.set_cons_zero, List.set_cons_succ, bind_ok, lift_ok, List.length_cons, List.length_nil, Nat.reduceAdd, Nat.reduceLeDiff, ↓reduceIte, if_true, if_false, Bool.false_eq_true, ev_for, itemsOf, seqOf]
    exact e
  · simp only [EVa, List.getElem?_cons_zero, List.getElem?_cons_succ, List.set_cons_zero, List.set_cons_succ, bind_ok, lift_ok, List.length_cons, List.length_nil, Nat.reduceAdd, Nat.reduceLeDiff, ↓reduceIte, if_true, if_false, Bool.false_eq_true]
theorem pair_ok {n : Nat} {A : AH} : pairM [.int n] A = .ok (.tup (dI [n / 256, n % 256])) A := by
  have e1 : (n : Int) / 2 ^ (Int.toNat 8) = ((n / 256 : Nat) : Int) := by
    show (n : Int) / 256 = _
    omega
  have e2 : Builtin.bitAnd (n : Int) 255 = ((n % 256 : Nat) : Int) := by
    have h := Bits.bitAnd_mask (x := (n : Int)) 8 (by omega)
    have h2 : ((2 : Int) ^ 8 - 1) = 255 := rfl
    rw [h2] at h
    rw [h]
    show (n : Int) % 256 = _
    omega
  unfold pairM
  refine fun_rt ?_
  simp only [EVa, List.getElem?_cons_zero, List.getElem?_cons_succ, List.set_cons_zero, List.set_cons_succ, bind_ok, lift_ok, List.length_cons, List.length_nil, Nat.reduceAdd, Nat.reduceLeDiff, ↓reduceIte, if_true, if_false, Bool.false_eq_true, fShr, fAnd, fI, fI0, show (0 : Int) ≤ 8 by decide, List.map_cons, List.map_nil, List.replicate, List.cons_append, List.nil_append, e1, e2]
  rfl
theorem and_word {n : Nat} : Builtin.bitAnd (n : Int) 65535 = ((n % 65536 : Nat) : Int) := by
  have h := Bits.bitAnd_mask (x := (n : Int)) 16 (by omega)
  have h2 : ((2 : Int) ^ 16 - 1) = 65535 := rfl
  rw [h2] at h
  rw [h]
  show (n : Int) % 65536 = _
  omega
def s4 (os : List Nat) : List Nat := [cs os / 65536 / 256, cs os / 65536 % 256, cs os % 65536 / 256, cs os % 65536 % 256]
theorem add_tup {xs ys : List D} {A : AH} (h : xs.length + ys.length ≤ 16777216) : fAdd (.tup xs) (.tup ys) A = .ok (.tup (xs ++ ys)) A := if_pos h
theorem sum_ok {os : List Nat} {A : AH} : sumM checkM pairM [.tup (dI os)] A = .ok (.tup (dI (s4 os))) A := by
  have e1 : (cs os : Int) / 2 ^ (Int.toNat 16) = ((cs os / 65536 : Nat) : Int) := by
    show (cs os : Int) / 65536 = _
    omega
  unfold sumM
  refine fun_rt ?_
  refine (seq_nx (ρ1 := [some (.tup (dI os)), some (.int (cs os : Nat))]) (A1 := A) ?_).trans ?_
  · simp only [EVa, List.getElem?_cons_zero, List.getElem?_cons_succ, List.set_cons_zero, List.set_cons_succ, bind_ok, lift_ok, List.length_cons, List.length_nil, Nat.reduceAdd, Nat.reduceLeDiff, ↓reduceIte, if_true, if_false, Bool.false_eq_true, List.map_cons, List.map_nil, List.replicate, List.cons_append, List.nil_append, Nat.reduceSub, check_ok]
  simp only [EVa, List.getElem?_cons_zero, List.getElem?_cons_succ, List.set_cons_zero, List.set_cons_succ, bind_ok, lift_ok, List.length_cons, List.length_nil, Nat.reduceAdd, Nat.reduceLeDiff, ↓reduceIte, if_true, if_false, Bool.false_eq_true, fShr, fAnd, fI, fI0, show (0 : Int) ≤ 16 by decide, e1, and_word, pair_ok]
  rw [add_tup (by simp [dI])]
  rfl
/-! ### a frame -/
def hd4 (b : List Nat) : List Nat := [b.length / 256, b.length % 256, (65535 - b.length) / 256, (65535 - b.length) % 256]
def pf (b : List Nat) : List Nat := hd4 b ++ b ++ s4 (hd4 b ++ b)
theorem len_tup {os : List Nat} {A : AH} : fLen [.tup (dI os)] A = .ok (.int (os.length : Nat)) A := by
  simp only [fLen, seqOf, dI_length]
theorem tup_tup {xs : List D} {A : AH} : fTup [.tup xs] A = .ok (.tup xs) A := rfl
theorem put_ok {b : List Nat} {A : AH} (hb : b.length ≤ 65535) : putM (sumM checkM pairM) pairM [.tup (dI b)] A = .ok (.tup (dI (pf b))) A := by
  have e0 : decide ((b.length : Int) > 65535) = false := decide_eq_false (by omega)
  have e1 : (65535 : Int) - (b.length : Int) = ((65535 - b.length : Nat) : Int) := by omega
  unfold putM
  refine fun_rt ?_
  refine (seq_nx (ρ1 := [some (.tup (dI b)), none]) (A1 := A) ?_).trans ?_
  · simp only [EVa, List.getElem?_cons_zero, List.getElem?_cons_succ, List.set_cons_zero, List.set_cons_succ, bind_ok, lift_ok, List.length_cons, List.length_nil, Nat.reduceAdd, Nat.reduceLeDiff, ↓reduceIte, if_true, if_false, Bool.false_eq_true, List.map_cons, List.map_nil, List.replicate, List.cons_append, List.nil_append, Nat.reduceSub, len_tup, fGt, fI0, e0]
  refine (seq_nx (ρ1 := [some (.tup (dI b)), some (.tup (dI (hd4 b ++ b)))]) (A1 := A) ?_).trans ?_
  · simp only [EVa, List.getElem?_cons_zero, List.getElem?_cons_succ, List.set_cons_zero, List.set_cons_succ, bind_ok, lift_ok, List.length_cons, List.length_nil, Nat.reduceAdd, Nat.reduceLeDiff, ↓reduceIte, if_true, if_false, Bool.false_eq_true, len_tup, fSub, fI0, e1, pair_ok, tup_tup]
    rw [add_tup (by simp [dI])]
    simp only [bind_ok, ↓reduceIte]
    rw [add_tup (by simp [dI]; omega)]
    simp only [lift_ok, ← dI_append, List.set_cons_zero, List.set_cons_succ]
    rfl
  · simp only [EVa, List.getElem?_cons_zero, List.getElem?_cons_succ, List.set_cons_zero, List.set_cons_succ, bind_ok, lift_ok, List.length_cons, List.length_nil, Nat.reduceAdd, Nat.reduceLeDiff, ↓reduceIte, if_true, if_false, Bool.false_eq_true, sum_ok]
    rw [add_tup (by simp [dI, s4, hd4]; omega), ← dI_append]
    rfl
end DM
end
section
set_option maxHeartbeats 1000000
namespace DM
open PySem PySem.Spec PyProof.Rows L2
section
variable {S : List D → AH → Res D} {T : D} {A : AH} {p n ia ib ic id : Int}
end
/-! ### what is told of the octets from a place on -/
end DM
end
section
set_option maxHeartbeats 1000000
namespace DM
open PySem PySem.Spec PyProof.Rows L2
section
variable {F G : List D → AH → Res D} {T U U' : D} {A : AH} {p n ia ib ic id : Int}
end
/-! ### frames told and read -/
end DM
end
section
set_option maxHeartbeats 1000000
namespace DM
open PySem PySem.Spec PyProof.Rows L2
/-- data of few and small parts -/
structure Few (k w : Nat) (d : PyData) : Prop where
  lay : d.canLay0 = true
  short : d.leavesShort 13 = true
  sh : d.showable = true
  dep : d.depth ≤ k
  wt : d.weight ≤ w
theorem Few.mono {k w k' w' : Nat} {d : PyData} (h : Few k w d) (hk : k ≤ k') (hw : w ≤ w') : Few k' w' d := ⟨h.lay, h.short, h.sh, Nat.le_trans h.dep hk, Nat.le_trans h.wt hw⟩
mutual
theorem eqv_self : ∀ d : PyData, d.canLay0 = true → PyData.eqv d d = true
  | .none, _ => rfl
  | .bool b, _ => by cases b <;> rfl
  | .int i, _ => by simp [PyData.eqv]
  | .str x, _ => by simp [PyData.eqv]
  | .list xs, h => by
    simp only [PyData.eqv]
    exact eqvAll_self xs (by simpa only [PyData.canLay0] using h)
  | .tuple xs, h => by
    simp only [PyData.eqv]
    exact eqvAll_self xs (by simpa only [PyData.canLay0] using h)
  | .dict kvs, h => by simp [PyData.canLay0] at h
theorem eqvAll_self : ∀ xs : List PyData, PyData.canLayAll0 xs = true → PyData.eqvAll xs xs = true
  | [], _ => rfl
  | x :: xs, h => by
    simp only [PyData.canLayAll0, Bool.and_eq_true] at h
    simp only [PyData.eqvAll, eqv_self x h.1, eqvAll_self xs h.2, Bool.and_self]
end
theorem Few.shaped {k w : Nat} {d : PyData} (h : Few k w d) (hk : k ≤ 64) : SeqAt.shaped d = true := by
  unfold SeqAt.shaped
  rw [h.lay, decide_eq_true (Nat.le_trans h.dep hk)]
  rfl
theorem toPyA_of {d : D} {q : PyData} {A : AH} (h : toPy d = some q) : toPyA A d = some q := by unfold toPyA; rw [h]
/-- == of tuples and lists -/
def notSc : D → Bool
  | .tup _ => true
  | .lst _ => true
  | .ref _ => true
  | .non => true
  | _ => false
/-! ### octets and bodies -/
end DM
end
section
set_option maxHeartbeats 1000000
namespace DM
open PySem PySem.Spec PyProof.Rows L2
/-- data of small parts; B: how long a leaf is shown -/
structure FewB (B k w : Nat) (d : PyData) : Prop where
  lay : d.canLay0 = true
  short : d.leavesShort B = true
  sh : d.showable = true
  dep : d.depth ≤ k
  wt : d.weight ≤ w
theorem FewB.mono {B k w k' w' : Nat} {d : PyData} (h : FewB B k w d) (hk : k ≤ k') (hw : w ≤ w') : FewB B k' w' d := ⟨h.lay, h.short, h.sh, Nat.le_trans h.dep hk, Nat.le_trans h.wt hw⟩
theorem fewB_int {B : Nat} {i : Int} (hB : 20 ≤ B) (h : i.natAbs < 10 ^ 19) : FewB B 0 64 (.int i) := by
  have hl : i.natAbs.log2 < 64 := by
    by_cases h0 : i.natAbs = 0
    · rw [h0]; decide
    · exact (Nat.log2_lt h0).mpr (Nat.lt_trans h (by decide))
  refine ⟨rfl, ?_, ?_, Nat.le_refl _, ?_⟩
  · simp only [PyData.leavesShort]
    have e := int_text_length_le10 (k := 19) (by decide) h
    refine decide_eq_true ?_
    show (Str.ofString (toString i)).length ≤ B
    rw [PySem.ofString_length]
    omega
  · simp only [PyData.showable]
    exact decide_eq_true (by omega)
  · simp only [PyData.weight]
    split <;> omega
theorem fewB_none {B : Nat} : FewB B 0 64 .none := ⟨rfl, rfl, rfl, Nat.le_refl _, by simp [PyData.weight]⟩
theorem fewB_bool {B : Nat} {b : Bool} : FewB B 0 64 (.bool b) := ⟨rfl, rfl, rfl, Nat.le_refl _, by simp [PyData.weight]⟩
theorem fewB_str {B : Nat} {x : Str} (h1 : PyData.canLay0 (.str x) = true) (h2 : (x.cps.toList.all fun c => decide (c < 16 ^ 8)) = true) (h3 : x.cps.size ≤ 64) : FewB B 0 64 (.str x) := ⟨h1, h2, rfl, Nat.zero_le _, h3⟩
theorem fewB_all {B k w : Nat} : ∀ xs : List PyData, (∀ x ∈ xs, FewB B k w x) → PyData.canLayAll0 xs = true ∧ PyData.leavesShortAll B xs = true ∧ PyData.showableAll xs = true ∧ PyData.depthAll xs ≤ k ∧ PyData.weightAll xs ≤ xs.length * (w + 1)
  | [], _ => ⟨rfl, rfl, rfl, Nat.zero_le _, by simp [PyData.weightAll]⟩
  | x :: xs, h => by
    obtain ⟨a, b, c, d, e⟩ := fewB_all xs fun y hy => h y (List.mem_cons_of_mem _ hy)
    have f := h x List.mem_cons_self
    refine ⟨?_, ?_, ?_, ?_, ?_⟩
    · simp only [PyData.canLayAll0, f.lay, a, Bool.and_self]
    · simp only [PyData.leavesShortAll, f.short, b, Bool.and_self]
    · simp only [PyData.showableAll, f.sh, c, Bool.and_self]
    · simp only [PyData.depthAll]
      exact Nat.max_le.mpr ⟨f.dep, d⟩
    · simp only [PyData.weightAll, List.length_cons, Nat.add_mul, Nat.one_mul]
      have := f.wt
      omega
theorem fewB_tuple {B k w : Nat} {xs : List PyData} (h : ∀ x ∈ xs, FewB B k w x) : FewB B (k + 1) (xs.length * (w + 1)) (.tuple xs) := by
  obtain ⟨a, b, c, d, e⟩ := fewB_all xs h
  exact ⟨by simpa only [PyData.canLay0] using a, by simpa only [PyData.leavesShort] using b, by simpa only [PyData.showable] using c, by simp only [PyData.depth]; omega, by simpa only [PyData.weight] using e⟩
theorem fewB_list {B k w : Nat} {xs : List PyData} (h : ∀ x ∈ xs, FewB B k w x) : FewB B (k + 1) (xs.length * (w + 1)) (.list xs) := by
  obtain ⟨a, b, c, d, e⟩ := fewB_all xs h
  exact ⟨by simpa only [PyData.canLay0] using a, by simpa only [PyData.leavesShort] using b, by simpa only [PyData.showable] using c, by simp only [PyData.depth]; omega, by simpa only [PyData.weight] using e⟩
theorem FewB.shaped {B k w : Nat} {d : PyData} (h : FewB B k w d) (hk : k ≤ 64) : SeqAt.shaped d = true := by
  unfold SeqAt.shaped
  rw [h.lay, decide_eq_true (Nat.le_trans h.dep hk)]
  rfl
theorem repr_fewB {B : Nat} {d : D} {q : PyData} {k w : Nat} {A : AH} (h : toPyA A d = some q) (f : FewB B k w q) (hk : k ≤ 32) (hB : 8 ≤ B) (hw : (B + 2) * w + B ≤ 16777216) : fRepr [d] A = .ok (.str q.shown) A := by
  have hs := PyData.shown_le B hB q f.short
  have h2 : (B + 2) * q.weight ≤ (B + 2) * w := Nat.mul_le_mul_left _ f.wt
  unfold fRepr
  simp only [h]
  exact if_pos ⟨f.sh, by omega, Nat.le_trans f.dep hk⟩
theorem eq_pyS {d e : D} {p q : PyData} {A : AH} (hd : toPyA A d = some p) (he : toPyA A e = some q) (h1 : notSc d = true) {neg : Bool} (hs1 : SeqAt.shaped p = true) (hs2 : SeqAt.shaped q = true) : fEq neg d e A = .ok (.bl (if neg then !PyData.eqv p q else PyData.eqv p q)) A := by
  have c : cEq A d e = some (PyData.eqv p q) := by
    unfold cEq
    split
    · cases h1
    · cases h1
    · cases h1
    · simp only [hd, he, hs1, hs2, and_self, if_true]
  unfold fEq
  rw [c]
theorem for_rt {iv : ItV} {all xs : List D} {x d : D} {t : Tg} {sb : MS} {ρ ρ1 : DM.Env} {A A2 : AH} (h : itemsOf A iv = some all) (hb : bindT t x ρ = some ρ1) (hs : sb ρ1 A = .rt d A2) : forGo iv all t sb (x :: xs) ρ A = .rt d A2 := by
  conv => lhs; unfold forGo
  rw [if_pos h, hb]
  simp only [hs]
end DM
end
section
set_option maxHeartbeats 1000000
namespace DM
open PySem PySem.Spec PyProof.Rows L2
/-! ### running rules: fields, methods, instances, dicts, lists that change, try -/
section
variable {ρ ρ1 : DM.Env} {A A1 A2 A3 : AH} {i j l n m k : Nat} {C f mname : Str} {d e x y : D} {xs ds es : List D} {fs : List (Str × D)} {kvs : List (Key × D)} {mf : List D → AH → Res D} {ma mb mc me mo mi mv : ME} {ms mk : MA} {sa sb : MS} {pm : List Nat} {key : Key}
theorem fld_run (ho : me ρ A = .ok (.ref k) A1) (hk : A1[k]? = some (.ins C fs)) (hf : fs.lookup f = some x) : mFld C f me ρ A = .ok x A1 := by
  unfold mFld
  rw [ho, bind_ok]
  simp only [hk, if_true, hf]
theorem setF_run (hv : mv ρ A = .ok y A1) (ho : mo ρ A1 = .ok (.ref k) A2) (hk : A2[k]? = some (.ins C fs)) (hl : fs.length < 1000) : mSetF C f mv mo ρ A = .nx ρ (A2.set k (.ins C (putFD f y fs))) := by
  unfold mSetF
  rw [hv]
  simp only [lift_ok, ho, hk, hl, and_self, if_true]
theorem meth_run (ho : mo ρ A = .ok (.ref k) A1) (hk : A1[k]? = some (.ins C fs)) (hf : fs.lookup mname = none) (ha : ms ρ A1 = .ok ds A2) (hn : ds.length + 1 = n) : mMeth C mname n mf mo ms ρ A = mf (.ref k :: ds) A2 := by
  unfold mMeth
  rw [ho, bind_ok]
  simp only [hk, hf, and_self, if_true, ha, bind_ok, List.length_cons, hn]
theorem make_run (ha : ms ρ A = .ok ds A1) (hn : ds.length + 1 = n) (hf : mf (.ref A1.length :: ds) (A1 ++ [.ins C []]) = .ok .non A2) : mMake C n mf ms ρ A = .ok (.ref A1.length) A2 := by
  unfold mMake
  rw [ha, bind_ok]
  simp only [List.length_cons, hn, if_true, hf]
theorem ev_dict0 : mDict0 ρ A = .ok (.ref A.length) (A ++ [.dk []]) := id rfl
theorem dput_run (hv : mv ρ A = .ok y A1) (ho : mo ρ A1 = .ok (.ref k) A2) (hi : mi ρ A2 = .ok e A3) (hk : A3[k]? = some (.dk kvs)) (he : keyOf e = some key) (hl : kvs.length < 16777216) : mDPut mv mo mi ρ A = .nx ρ (A3.set k (.dk (putKD kvs key y))) := by
  unfold mDPut
  rw [hv]
  simp only [lift_ok, ho, hi, hk, he, hl, if_true]
theorem dget_run (h0 : A[k]? = some (.dk kvs)) (hk : keyOf e = some key) (hv : valD kvs key = some x) : fDGet (.ref k) e A = .ok x A := by
  simp only [fDGet, h0, hk, hv]
/-- the first clause takes it, nothing hangs on where it lies -/
theorem try_exc1 {hs : List HdM} {hd : HdM} {C : Str} {r : SRes} (h : sa ρ A = .exc C fs ρ1 A1) (hy : C ∈ hd.yes) (hr : ∀ a d, goneM hd.slot (hd.suite C a (if fs = [] then none else some d) (enterM hd.slot a (if fs = [] then none else some d) fs ρ1) A1) = r) : mTry sa (hd :: hs) ρ A = r := by
  unfold mTry
  rw [h]
  simp only [excGo, hy, if_true]
  exact indep_eq hr
end
theorem add_ii {a b : Int} {A : AH} : fAdd (.int a) (.int b) A = .ok (.int (a + b)) A := rfl
theorem sub_ii {a b : Int} {A : AH} : fSub (.int a) (.int b) A = .ok (.int (a - b)) A := rfl
theorem lt_ii {a b : Int} {A : AH} : fLt (.int a) (.int b) A = .ok (.bl (decide (a < b))) A := rfl
theorem le_ii {a b : Int} {A : AH} : fLe (.int a) (.int b) A = .ok (.bl (decide (a ≤ b))) A := rfl
theorem gt_ii {a b : Int} {A : AH} : fGt (.int a) (.int b) A = .ok (.bl (decide (b < a))) A := rfl
theorem ge_ii {a b : Int} {A : AH} : fGe (.int a) (.int b) A = .ok (.bl (decide (b ≤ a))) A := rfl
theorem div_ii {a b : Int} {A : AH} (h : CDiv a b) : fDiv (.int a) (.int b) A = .ok (.int (a / b)) A := by simp only [fDiv, fI, cdw_of h, if_true]
theorem eq_ii {a b : Int} {A : AH} : fEq false (.int a) (.int b) A = .ok (.bl (decide (a = b))) A := rfl
/-! ### a dict by its keys -/
theorem valD_nil (k : Key) : valD [] k = none := rfl
theorem valD_cons {a : Key} {x : D} {kvs : List (Key × D)} {k : Key} : valD ((a, x) :: kvs) k = if a = k then some x else valD kvs k := by
  unfold valD
  rw [List.find?_cons]
  by_cases h : a = k
  · simp [h]
  · simp [h]
theorem valD_append {xs ys : List (Key × D)} {k : Key} : valD (xs ++ ys) k = (valD xs k).or (valD ys k) := by
  induction xs with
  | nil => simp [valD_nil]
  | cons p xs ih =>
    obtain ⟨a, x⟩ := p
    rw [List.cons_append, valD_cons, valD_cons, ih]
    split <;> simp
theorem any_valD {kvs : List (Key × D)} {k : Key} : (kvs.any fun kv => decide (kv.1 = k)) = (valD kvs k).isSome := (valD_any k kvs).symm
theorem valD_put {kvs : List (Key × D)} {a k : Key} {x : D} : valD (putKD kvs a x) k = if a = k then some x else valD kvs k := by
  unfold putKD
  split
  · rename_i h
    rw [any_valD] at h
    induction kvs with
    | nil => simp [valD_nil] at h
    | cons p kvs ih =>
      obtain ⟨b, y⟩ := p
      rw [valD_cons] at h
      rw [List.map_cons]
      by_cases e : b = a
      · rw [if_pos e, valD_cons, valD_cons]
        subst e
        split
        · rfl
        · rename_i n
          by_cases hz : (valD kvs b).isSome = true
          · rw [ih hz, if_neg n]
          · have : ∀ kv ∈ kvs, kv.1 ≠ b := fun kv hkv z => hz (by
              rw [← any_valD]
              exact List.any_eq_true.mpr ⟨kv, hkv, by simp [z]⟩)
            rw [show (kvs.map fun kv => if kv.1 = b then (kv.1, x) else kv) = kvs from (List.map_congr_left (g := fun kv => kv) fun kv hkv => if_neg (this kv hkv)).trans (List.map_id' kvs)]
      · rw [if_neg e] at h ⊢
        rw [valD_cons, valD_cons, ih h]
        by_cases hbk : b = k
        · have : ¬ a = k := fun z => e (hbk.trans z.symm)
          simp [hbk, this]
        · simp [hbk]
  · rename_i h
    rw [any_valD] at h
    have hn : valD kvs a = none := by simpa using h
    rw [valD_append, valD_cons, valD_nil]
    by_cases e : a = k
    · subst e
      simp [hn]
    · simp [e]
end DM
end
section
set_option maxHeartbeats 1000000
namespace DM
open PySem PySem.Spec PyProof.Rows L2
/-! ### a module's own dict with text keys that nobody changes -/
inductive TabE (P : Params) : List DictEntry → List (Str × Value) → Prop
  | nil : TabE P [] []
  | cons {e : DictEntry} {r : List DictEntry} {x : Str} {u : Value} {l : List (Str × Value)} (t : Tok) : e.key = .str x t → e.hash = PyData.keyHash P x → e.val = u → TabE P r l → TabE P (e :: r) ((x, u) :: l)
inductive TabD (K : PySem.W.Frag) : List (Str × Value) → List (Str × D) → Prop
  | nil : TabD K [] []
  | fn {x C : Str} {a : Addr} {l : List (Str × Value)} {t : List (Str × D)} : clsV K C = some (.ref a) → TabD K l t → TabD K ((x, .ref a) :: l) ((x, .cl C) :: t)
  | int {x : Str} {i : Int} {tk : Tok} {l : List (Str × Value)} {t : List (Str × D)} : TabD K l t → TabD K ((x, .int i tk) :: l) ((x, .int i) :: t)
  | str {x y : Str} {tk : Tok} {l : List (Str × Value)} {t : List (Str × D)} : TabD K l t → TabD K ((x, .str y tk) :: l) ((x, .str y) :: t)
structure TabC (K : PySem.W.Frag) (P : Params) (mg : Str → Option Value) (nm : Str) (tbl : List (Str × D)) : Prop where
  ex : ∃ (a : Addr) (es : Array DictEntry) (n : Nat) (l : List (Str × Value)), mg nm = some (.ref a) ∧ clsV K nm = some (.ref a) ∧ K.lookup a = some { cls := .type "dict", data := .dict es n } ∧ (a == sysModules) = false ∧ TabE P es.toList l ∧ TabD K l tbl
theorem TabE.noref {P : Params} : ∀ {es : List DictEntry} {l : List (Str × Value)}, TabE P es l → (es.any fun x => x.refKey) = false
  | _, _, .nil => rfl
  | _, _, .cons t a b c r => by
    rw [List.any_cons, r.noref, Bool.or_false]
    unfold DictEntry.refKey
    rw [a]
theorem TabE.find {P : Params} (z : Str) : ∀ {es : List DictEntry} {l : List (Str × Value)}, TabE P es l → (match es.find? (fun x => x.key.isStr z) with | some e => some e.val | none => none) = l.lookup z
  | _, _, .nil => rfl
  | _, _, .cons (e := e) (x := x) (u := u) (l := l) t a b c r => by
    have ih := r.find z
    rw [List.find?_cons, List.lookup_cons, a]
    show (match (match (x == z) with | true => some e | false => _) with | some e => some e.val | none => none) = (match z == x with | true => some u | false => _)
    by_cases h : x = z
    · subst h
      rw [beq_self_eq_true]
      exact congrArg some c
    · rw [beq_eq_false_iff_ne.mpr h, beq_eq_false_iff_ne.mpr (Ne.symm h)]
      exact ih
theorem TabE.ns {P : Params} {K : PySem.W.Frag} {a : Addr} {es : Array DictEntry} {n : Nat} {l : List (Str × Value)} (h : K.lookup a = some { cls := .type "dict", data := .dict es n }) (T : TabE P es.toList l) (z : Str) : PySem.W.nsIn K a z = some (l.lookup z) := by
  unfold PySem.W.nsIn
  rw [h]
  have f := T.find z
  show (match es.toList.find? (fun x => x.key.isStr z) with | some e => some (some e.val) | none => if (es.toList.any fun x => x.refKey) = true then none else some none) = _
  rw [T.noref]
  cases hf : es.toList.find? (fun x => x.key.isStr z) with
  | none => rw [hf] at f; rw [← f]; rfl
  | some e => rw [hf] at f; rw [← f]
theorem TabD.at {K : PySem.W.Frag} {z : Str} : ∀ {l : List (Str × Value)} {t : List (Str × D)}, TabD K l t → (l.lookup z).isSome = (t.lookup z).isSome ∧ ∀ d, t.lookup z = some d → ∃ u v, l.lookup z = some u ∧ RelV v u ∧ ∀ m H, RD K m H d v
  | _, _, .nil => ⟨rfl, fun _ h => by cases h⟩
  | _, _, .fn (x := x) (a := a) h r => by
    rw [List.lookup_cons, List.lookup_cons]
    cases z == x with
    | true => exact ⟨rfl, fun d e => by cases e; exact ⟨_, .ref a, rfl, rfl, fun _ _ => .cl h⟩⟩
    | false => exact r.at
  | _, _, .int (x := x) (i := i) (tk := tk) r => by
    rw [List.lookup_cons, List.lookup_cons]
    cases z == x with
    | true => exact ⟨rfl, fun d e => by cases e; exact ⟨_, .int i, rfl, ⟨tk, rfl⟩, fun _ _ => .int i⟩⟩
    | false => exact r.at
  | _, _, .str (x := x) (y := y) (tk := tk) r => by
    rw [List.lookup_cons, List.lookup_cons]
    cases z == x with
    | true => exact ⟨rfl, fun d e => by cases e; exact ⟨_, .str y, rfl, ⟨tk, rfl⟩, fun _ _ => .str y⟩⟩
    | false => exact r.at
section
variable {X : Cx} {W : WX} {a b c e : Expr} {es : List Expr} {ma mb me : ME} {ms : MA} {pos p p2 : Pos} {nm : Str} {tbl : List (Str × D)}
/-! ### a local that is one of some defs -/
abbrev FnL := List (Str × (List D → AH → Res D))
inductive CalL (X : Cx) (n : Nat) : FnL → Prop
  | nil : CalL X n []
  | cons {z : Str} {f : Addr} {fd : FuncData} {k : Nat} {ps : List Str} {g : List D → AH → Res D} {l : FnL} : clsV X.K z = some (.ref f) → FnD X.prog X.w X.K X.mg X.base k f fd ps g → Room k X.A → PySem.W.keepIn X.K (.ref f) = true → Binds X.K fd ps [] → ps.length = n → CalL X n l → CalL X n ((z, g) :: l)
theorem CalL.at {n : Nat} {z : Str} {g : List D → AH → Res D} : ∀ {l : FnL}, CalL X n l → l.lookup z = some g → ∃ f fd k ps, clsV X.K z = some (.ref f) ∧ FnD X.prog X.w X.K X.mg X.base k f fd ps g ∧ Room k X.A ∧ PySem.W.keepIn X.K (.ref f) = true ∧ Binds X.K fd ps [] ∧ ps.length = n
  | _, .nil, h => by cases h
  | _, .cons (z := z') h1 h2 h3 h4 h5 h6 r, h => by
    rw [List.lookup_cons] at h
    by_cases e : z = z'
    · subst e
      rw [beq_self_eq_true] at h
      cases h
      exact ⟨_, _, _, _, h1, h2, h3, h4, h5, h6⟩
    · rw [beq_eq_false_iff_ne.mpr e] at h
      exact r.at h
end
end DM
end
section
set_option maxHeartbeats 2000000
namespace DM
open PySem PySem.Spec PyProof.Rows L2
section
variable {X : Cx} {W : WX} {a b c e e2 o tg : Expr} {es elts : List Expr} {ma mb mc me mv mo : ME} {mt mu : MT} {ms : MA} {pos pos' p p2 p3 tpos apos cpos : Pos} {kk : Nat} {C f : Str} {ca : Addr}
/-! ### xs.index(x), data of any depth -/
/-! ### a < b of whole numbers and of texts -/
theorem t_ltX (ha : DE X W a ma) (hb : DE X W b mb) (hm : behindInMarks .Lt b = false := by first | exact nomark _ | rfl) : DT X W (.Compare a [.Lt] [b] pos) (mTst (mOp fLtX ma mb)) := t_cmp op_ltX fLtX_ok ha hb hm
end
end DM
end
section
set_option maxHeartbeats 1000000
namespace DM
open PySem PySem.Spec PyProof.Rows L2
/-! ### a module's own tuple, of tuples, whole numbers, texts -/
mutual
inductive ConD (K : PySem.W.Frag) : D → V → Prop
  | non : ConD K .non .non
  | int (i : Int) : ConD K (.int i) (.int i)
  | str (x : Str) : ConD K (.str x) (.str x)
  | tup {a : Addr} {o : Obj} {its : Array Value} {n : Nat} {vs : List V} {ds : List D} : K.lookup a = some o → o.cls = .type "tuple" → o.dict = none → o.data = .seq its n → its.size ≤ sizeLine → Vals vs its.toList → ConDs K ds vs → ConD K (.tup ds) (.ref a)
inductive ConDs (K : PySem.W.Frag) : List D → List V → Prop
  | nil : ConDs K [] []
  | cons {d : D} {v : V} {ds : List D} {vs : List V} : ConD K d v → ConDs K ds vs → ConDs K (d :: ds) (v :: vs)
end
section
variable {K : PySem.W.Frag}
mutual
theorem ConD.rd : ∀ {d : D} {v : V}, ConD K d v → ∀ (m : Mp) (H : Hp), RD K m H d v
  | _, _, .non, m, H => .non
  | _, _, .int i, m, H => .int i
  | _, _, .str x, m, H => .str x
  | _, _, .tup h1 h2 h3 h4 h5 h6 h7, m, H => .tup (.inr ⟨_, _, _, h1, h2, h3, h4, h5, h6⟩) (ConDs.rd h7 m H)
theorem ConDs.rd : ∀ {ds : List D} {vs : List V}, ConDs K ds vs → ∀ (m : Mp) (H : Hp), RDs K m H ds vs
  | _, _, .nil, m, H => .nil
  | _, _, .cons h1 h2, m, H => .cons (ConD.rd h1 m H) (ConDs.rd h2 m H)
end
structure ConC (K : PySem.W.Frag) (mg : Str → Option Value) (nm : Str) (d : D) : Prop where
  ex : ∃ (v : V) (u : Value), mg nm = some u ∧ RelV v u ∧ ConD K d v
end
section
variable {X : Cx} {W : WX} {nm : Str} {d : D} {pos : Pos}
theorem d_con (C : ConC X.K X.mg nm d) (hg : Gl X nm := by rfl) (hd : (nm == ("__debug__" : Str)) = false := by decide) : DE X W (.Name nm pos) (mK d) := by
  obtain ⟨v, u, h1, h2, h3⟩ := C.ex
  exact d_glob hg h1 h2 (fun m H => h3.rd m H) hd
end
end DM
end
section
set_option maxHeartbeats 1000000
namespace DM
open PySem PySem.Spec PyProof.Rows L2
section
variable {X : Cx} {W : WX} {o i : Expr} {mo mi : ME} {pos tpos : Pos}
/-! ### del d[k], d a dict of whole numbers or texts -/
def mDDel (mo mi : ME) : MS := fun ρ A => lift (mo ρ A) ρ fun d A1 => match d with
  | .ref n => (match A1[n]? with
    | some (.dk _) => lift (mi ρ A1) ρ fun e A2 => (match A2[n]?, keyOf e with
      | some (.dk kvs), some k => (match valD kvs k with
        | some _ => .nx ρ (A2.set n (.dk (dropKD kvs k)))
        | none => .no)
      | _, _ => .no)
    | _ => .no)
  | _ => .no
theorem s_ddel (ho : DE X W o mo) (hi : DE X W i mi) : DS X W (.Delete [.Subscript o i tpos] pos) (mDDel mo mi) :=
  PSi (ps_ddel ho hi) fun D0 σ H ⟨m, A, ρ, R, E, h⟩ => tE.lift R E h fun m1 A1 d v H1 e1 R1 E1 r1 h1 => by
    split at h1
    · rename_i n
      split at h1
      · rename_i kvs0 hA0
        cases r1 with
        | ref hm =>
          rename_i q0
          refine tE.lift R1 E1 h1 fun m2 A2 i u H2 e2 R2 E2 r2 h2 => ?_
          split at h2
          · rename_i kvs k hA hk
            split at h2
            · rename_i x hx
              have hm2 := e2.get hm
              obtain ⟨q, g1, ws, ⟨g2, g3⟩, g4⟩ := R2.obj _ _ hA
              rw [hm2] at g1; cases g1
              obtain ⟨v, w1, w2⟩ := val_rd g3 g4 hx
              let ⟨R4, e4⟩ := R2.write (H' := upd H2 q0 (.dK (dropK ws k))) (o := .dk (dropKD kvs k)) hm2 (fun p u hp z => by rw [upd_ne hp]; exact z) fun ex => by
                obtain ⟨w1, w2⟩ := drop_rdK (k := k) g3 (RDs.mono ex _ _ g4)
                exact ⟨_, ⟨upd_same, w1⟩, w2⟩
              refine ⟨q0, ws, k, rfl, g2, key_rd hk r2, by rw [w1]; rfl, ?_⟩
              exact h2 _ _ _ e4 R4 (E2.mono e4)
            · exact h2.elim
          · exact h2.elim
      · exact h1.elim
    · exact h1.elim
/-! ### d.pop(k, x) -/
def mDPop2 (mo me mf : ME) : ME := fun ρ A => (mo ρ A).bind fun d A1 => match d with
  | .ref n => match A1[n]? with
    | some (.dk _) => (me ρ A1).bind fun e A2 => (mf ρ A2).bind fun y A3 => match A3[n]?, keyOf e with
      | some (.dk kvs), some k => (match valD kvs k with
        | some x => .ok x (A3.set n (.dk (dropKD kvs k)))
        | none => .ok y A3)
      | _, _ => .no
    | _ => .no
  | _ => .no
theorem d_dpop2 {a e f : Expr} {me mf : ME} {apos cpos : Pos} (ho : DE X W a mo) (he : DE X W e me) (hf : DE X W f mf) (m : M2 X a "pop" apos e f cpos) : DE X W (.Call (.Attribute a "pop" apos) [e, f] [] cpos) (mDPop2 mo me mf) :=
  PEi (pe_dpop2 ho he hf m) fun σ H Q ⟨m, A, ρ, R, E, h⟩ => tE.bind R E h fun m1 A1 d v H1 e1 R1 E1 r1 h1 => by
    split at h1
    · rename_i n
      split at h1
      · rename_i kvs0 hA0
        cases r1 with
        | ref hm =>
          rename_i q0
          obtain ⟨q, g1, ws0, ⟨g2, _⟩, _⟩ := R1.obj _ _ hA0
          rw [hm] at g1; cases g1
          refine ⟨_, rfl, .inl ⟨ws0, .inl g2⟩, tE.bind R1 E1 h1 fun m2 A2 i u H2 e2 R2 E2 r2 h2 => tE.bind R2 E2 h2 fun m3 A3 y w H3 e3 R3 E3 r3 h3 => ?_⟩
          split at h3
          · rename_i kvs k hA hk
            have hm3 := e3.get (e2.get hm)
            obtain ⟨q, g1, ws, ⟨g2, g3⟩, g4⟩ := R3.obj _ _ hA
            rw [hm3] at g1; cases g1
            refine ⟨ws, k, g2, key_rd hk r2, fun v hv => ?_, fun hv => ?_⟩
            · cases hx : valD kvs k with
              | none =>
                have z := valD_some (k := k) g3
                rw [hx, hv] at z
                cases z
              | some x =>
                rw [hx] at h3
                obtain ⟨v', w1, w2⟩ := val_rd g3 g4 hx
                rw [hv] at w1; cases w1
                let ⟨R4, e4⟩ := R3.write (H' := upd H3 q0 (.dK (dropK ws k))) (o := .dk (dropKD kvs k)) hm3 (fun p u hp z => by rw [upd_ne hp]; exact z) fun ex => by
                  obtain ⟨w1, w2⟩ := drop_rdK (k := k) g3 (RDs.mono ex _ _ g4)
                  exact ⟨_, ⟨upd_same, w1⟩, w2⟩
                exact h3 _ _ _ e4 R4 (RD.mono e4 _ _ w2)
            · cases hx : valD kvs k with
              | none =>
                rw [hx] at h3
                exact Post.here R3 r3 h3
              | some x =>
                obtain ⟨v', w1, w2⟩ := val_rd g3 g4 hx
                rw [hv] at w1; cases w1
          · exact h3.elim
      · exact h1.elim
    · exact h1.elim
/-! ### str(i) -/
def fStrI : List D → AH → Res D := fun ds A => match ds with
  | [.int i] => if i.natAbs.log2 < 1920 then .ok (.str (toString i)) A else .no
  | _ => .no
theorem fStrI_ok {K : PySem.W.Frag} : CallD K fStrI (fun xs H Q => ∃ i, xs = [.int i] ∧ i.natAbs.log2 < 1920 ∧ Q (.str (toString i)) H) := by
  intro W σ m A H xs ds Q R hx h
  unfold fStrI at h
  split at h
  · obtain ⟨v, rfl, r⟩ := hx.one
    cases r
    split at h
    · rename_i hi
      exact ⟨_, rfl, hi, Post.here R (.str _) h⟩
    · exact h.elim
  · exact h.elim
theorem d_strf {e : Expr} {ms : MA} {p : Pos} (hm : X.mg "str" = none) (ha : DA X W [e] ms) (hg : Gl X "str" := by rfl) (he : starEach [e] X.env = (false, eval e X.env) :: starEach [] X.env := by rfl) (hpl : (backTo pos (starEach [] X.env)).any (·.1) = false := by rfl) :
    DE X W (.Call (.Name "str" p) [e] [] pos) (mCall fStrI ms) := d_callTy call_str_int fStrI_ok hg hm (by decide +kernel) ha (by decide) (by decide) he hpl
end
end DM
end
section
set_option maxHeartbeats 2000000
namespace DM
open PySem PySem.Spec PyProof.Rows L2 LamX NdefX
/-! ### a lambda that captures nothing, as a value -/
theorem lamO_at {P : Program} {w : World} {H : Hp} {h : Heap} {f c : Addr} {F : LF} (hok : HOk P w H h) (e : H f = some (LamO f c F)) : ∃ (pm ctv : Value), h.get? f = some (PySem.W.kla_obj "<lambda>" F.qual F.params F.body F.scope [] pm c ctv) := by
  obtain ⟨z, _, _⟩ := hok f _ e
  exact z
section
variable {X : Cx} {pins : List (Addr × Obj)} {σ : L2.St} {H : Hp} {s : Shared} {m : Mp} {A : AH}
end
open Classical in
noncomputable def mLamV (n : Nat) (P : Addr) (F : LF) : ME := fun _ A => match A[n]? with
  | some (.tab P' q') => if P' = P ∧ q' = F.qual then .ok (.fno F) A else .no
  | _ => .no
/-! ### its promise -/
structure LmD (P : Program) (w : World) (K : PySem.W.Frag) (mg : Str → Option Value) (base : Heap) (k : Nat) (F : LF) (n : Nat) (g : List D → AH → Res D) : Prop where
  run : ∀ (A : Around) (outer : List PySem.Env) (s : Shared) (H : Hp) (f c : Addr) (us : List Value) (vs : List V) (Q : VK) (E : XK), Room k A → A.guards = some [] → Env0 P w K mg base A outer s H → H f = some (LamO f c F) → H c = some (CodeO c F.qual) → Vals vs us →
    spD K n g vs H Q E → codeAny (model P w) A (.call (.ref f) ⟨us, []⟩) (CR (L2.CX P w) outer P w H s Q E) s
def mLb (me : ME) : List D → AH → Res D := fun ds A => me (ds.map some) A
section
variable {P : Program} {w : World} {K : PySem.W.Frag} {mg : Str → Option Value} {base : Heap} {F : LF} {ps : List Str} {k : Nat} {me : ME}
theorem LmD.of (S : NScope ps ps [] F.scope) (hb : ∀ (pm cv ctv : Value) (us : List Value), us.length = ps.length → bindArgs (PySem.W.kla_fn "<lambda>" F.qual F.params F.body F.scope [] pm cv ctv) ⟨us, []⟩ = pure (ps.zip us))
    (hbody : ∀ (A : Around) (outer : List PySem.Env) (s : Shared) (H : Hp) (E : XK) (f c : Addr), Room k (A.deeper (envF (F.nf c) f s.heap.objs.size)) → (A.deeper (envF (F.nf c) f s.heap.objs.size)).guards = some [] → Takes (ncx (L2.CX P w) P w K mg base ps (F.nf c) f A outer s H E) (fun c d _ H' => E c d H') →
      DE (ncx (L2.CX P w) P w K mg base ps (F.nf c) f A outer s H E) (fun c d _ H' => E c d H') F.body me) {n : Nat} (hn : ps.length = n := by rfl) : LmD P w K mg base (k + 1) F n (mLb me) := by
  subst hn
  refine ⟨fun A outer s H f c us vs Q E hr gd e0 hf hc r hsp => ?_⟩
  obtain ⟨hl, m, AA, ds, R, rds, post⟩ := hsp
  have lim : s.heap.NoLimit := e0.mod.nolimit.keeps fun b o e => (e0.bs b o e).1
  obtain ⟨pm, ctv, ho⟩ := lamO_at e0.hok hf
  refine PySem.W.kla_callFunE hr.depth ho rfl S.co S.gen rfl (codeO_at e0.hok hc) ?_
  rw [hb pm _ ctv us (by rw [← r.length]; exact hl)]
  refine wpAny_pure (wpAny_newFunctionEnv S.nocell (fun ⟨n, _⟩ hy => S.par n (List.of_mem_zip hy).1) (fun h₁ hns hsb => ⟨lim.fresh _ hsb, ?_⟩) S.kind)
  show codeAny _ _ (.expr F.body (envF (F.nf c) f s.heap.objs.size)) _ _
  have kp : ∀ b o, s.heap.get? b = some o → h₁.get? b = some o := fun b o e => hsb.extBut b o (Nat.ne_of_lt (Heap.lt_size e)) (Heap.get?_push_of_some _ e)
  have C : CellsAt (F.nf c).cl [] [] s.heap H := ⟨rfl, fun y c e => (nomatch e), fun x y c e => (nomatch e), fun i y e => (nomatch e)⟩
  have I : Inv (ncx (L2.CX P w) P w K mg base ps (F.nf c) f A outer s H E) [] (startF ps vs []) H { s with heap := h₁, toks := s.toks + (ps.zip us).length } := inv_startN S hr.hd e0 hl r C hns kp
  have body := hbody A outer s H E f c (hr.deeper _) gd (takes_of rfl rfl rfl rfl)
  have es : startF ps vs [] = vs.map some := by
    unfold startF
    rw [hl, Nat.sub_self]
    simp
  have want : tE K (fun c d _ H' => E c d H') me (startF ps vs []) H Q := by
    refine ⟨m, AA, ds.map some, R, ?_, ?_⟩
    · have q := start_rel (N := ps) rds
      have e1 : L2.start ps vs = vs.map some := by
        unfold L2.start
        rw [hl, Nat.sub_self]
        simp
      rw [e1, rds.length, hl, Nat.sub_self] at q
      rw [es]
      simpa using q
    · unfold mLb at post
      cases hr2 : me (ds.map some) AA with
      | ok d A1 => rw [hr2] at post; exact post
      | exc C fs A1 => rw [hr2] at post; exact post
      | no => rw [hr2] at post; exact post
  refine PySem.W.kla_codeExpr (wpAny_mono (body.run [] _ _ H Q I want) (fun v s' hq => ?_) fun e s' hq => hq)
  obtain ⟨w', H', J', rv, q⟩ := hq
  exact ⟨w', H', J'.os, J'.bare, J'.base, J'.hok, rv, q⟩
theorem LmD.up {j n : Nat} {g : List D → AH → Res D} (L : LmD P w K mg base j F n g) (h : j ≤ k) : LmD P w K mg base k F n g := ⟨fun A outer s H f c us vs Q E hr => L.run A outer s H f c us vs Q E (hr.mono h)⟩
end
/-! ### a local that is one of some lambdas -/
abbrev LmT := List (LF × (List D → AH → Res D))
open Classical in
noncomputable def lookF : LmT → LF → Option (List D → AH → Res D)
  | [], _ => none
  | (G, g) :: l, F => if F = G then some g else lookF l F
theorem lookF_hit {F : LF} {g : List D → AH → Res D} {l : LmT} : lookF ((F, g) :: l) F = some g := if_pos rfl
inductive LmL (X : Cx) (n : Nat) : LmT → Prop
  | nil : LmL X n []
  | cons {F : LF} {k : Nat} {g : List D → AH → Res D} {l : LmT} : LmD X.prog X.w X.K X.mg X.base k F n g → Room k X.A → LmL X n l → LmL X n ((F, g) :: l)
theorem LmL.at {X : Cx} {n : Nat} {F : LF} {g : List D → AH → Res D} : ∀ {l : LmT}, LmL X n l → lookF l F = some g → ∃ k, LmD X.prog X.w X.K X.mg X.base k F n g ∧ Room k X.A
  | _, .nil, h => by cases h
  | _, .cons (F := G) h1 h2 r, h => by
    by_cases e : F = G
    · subst e
      rw [lookF_hit] at h
      cases h
      exact ⟨_, h1, h2⟩
    · unfold lookF at h
      rw [if_neg e] at h
      exact r.at h
section
variable {X : Cx} {W : WX} {e : Expr} {es : List Expr} {ms : MA} {p pos : Pos}
/-! ### a def's name as a value -/
end
/-- a def of which nothing is told -/
theorem FnD.none {P : Program} {w : World} {K : PySem.W.Frag} {mg : Str → Option Value} {base : Heap} {k : Nat} {f : Addr} {fd : FuncData} {ps : List Str} : FnD P w K mg base k f fd ps (fun _ _ => .no) :=
  ⟨fun A outer s H args us vs Q E hr gd en bi rel hsp => by
    obtain ⟨_, m, A1, ds, R, r, h⟩ := hsp
    exact h.elim⟩
/-! ### where a lambda stands in the text -/
end DM
end
section
set_option maxHeartbeats 2000000
/-! ### sorted of tuples of ints of any lengths -/
namespace SrtO
open PySem PyProof.Rows TS
section
variable {prog : Program} {w : World} {A : Around} {E : Value → Shared → Prop} {s : Shared} {Q : Bool → Shared → Prop}
end
end SrtO
namespace DM
open PySem PySem.Spec PyProof.Rows L2 SrtO
section
variable {X : Cx}
end
/-! ### as a mirror -/
section
variable {X : Cx} {W : WX} {e : Expr} {ms : MA} {p pos : Pos}
end
end DM
end
section
set_option maxHeartbeats 2000000
namespace DM
open PySem PySem.Spec PyProof.Rows L2
/-! ### enumerate(text) -/
def Ites (x : Str) : It := ⟨fun i _ => i < x.cps.size, fun i H v H' => ∃ T c, v = .ref T ∧ H T = none ∧ x.cps[i]? = some c ∧ H' = upd H T (.tup [.int (i : Nat), .str ⟨#[c]⟩]), fun i _ => x.cps.size ≤ i⟩
theorem turn_enumS {P : Program} {w : World} {K : PySem.W.Frag} {elts : List Expr} {kk : Nat} {tpos : Pos} (x : Str) (t : Tok) (ty : String) (hty : ty = "str_ascii_iterator" ∨ ty = "str_iterator") (e it : Addr) :
    Turn P w K (.Tuple elts kk tpos) (Ites x) [e, it] e (fun i h => (∃ old, IsEnum h e it ((i : Nat) : Int) old) ∧ h.IsStrIter it ty x t i ∧ e ≠ it ∧ i ≤ x.cps.size) where
  mem := by simp
  obj := fun i h st b hb => by
    obtain ⟨⟨old, he⟩, ⟨o, ho, hc, hd⟩, _, _⟩ := st
    have e' : b = e ∨ b = it := by simpa using hb
    rcases e' with z | z
    · rw [z]; exact ⟨_, he, fun v q => nomatch q⟩
    · rw [z]; exact ⟨o, ho, fun v q => by rw [hd] at q; cases q⟩
  keep := fun i h h' st k => let ⟨⟨old, he⟩, ⟨o, ho, r⟩, hne, hle⟩ := st; ⟨⟨old, k e (by simp) _ he⟩, ⟨o, k it (by simp) o ho, r⟩, hne, hle⟩
  item := by
    intro X hP hw hK hc i pins s σ H E I hf st hg
    subst hP hw hK
    obtain ⟨⟨old, he⟩, hit, hne, hle⟩ := st
    have D : Draws X.prog X.w X.A.in1 it [it] x.cps.size (fun i v => ∃ c u, x.cps[i]? = some c ∧ v = .str ⟨#[c]⟩ u) (fun i h => h.IsStrIter it ty x t i) := by
      rcases hty with q | q
      · rw [q]; exact Draws.strAscii (A := X.A.in1) (show X.A.in1.handled = none from I.ok.hd hc) it x t
      · rw [q]; exact Draws.strWide (A := X.A.in1) (show X.A.in1.handled = none from I.ok.hd hc) it x t
    have hel : e < s.heap.objs.size := Heap.lt_size he
    have hil : it < s.heap.objs.size := by obtain ⟨_, q, _⟩ := hit; exact Heap.lt_size q
    refine wpAny_pyNext_enum_itemD D he hit hg hne (by simpa using hne) fun v h' tk hv ho hit' hT hsz hk => ?_
    obtain ⟨c, u, hcx, rfl⟩ := hv
    refine ⟨_, rfl, wpAny_letOwnedTupleGo_enum (s := { s with heap := h', toks := tk + 1 }) ho fun h'' he' sb => ?_⟩
    have hT2 : h''.get? s.heap.objs.size = some { cls := .type "tuple", data := .seq #[.int i tk, .str ⟨#[c]⟩ u] } := (sb.2 _ (Nat.ne_of_gt hel)).trans hT
    have new : ObjOk X.prog X.w (upd H s.heap.objs.size (.tup [.int (i : Nat), .str ⟨#[c]⟩])) h'' s.heap.objs.size (.tup [.int (i : Nat), .str ⟨#[c]⟩]) :=
      ⟨by show 2 ≤ sizeLine; decide, [.int i tk, .str ⟨#[c]⟩ u], .cons ⟨_, rfl⟩ (.cons ⟨_, rfl⟩ .nil), ⟨_, hT2, rfl, _, rfl⟩⟩
    have I1 : Inv X pins σ (upd H s.heap.objs.size (.tup [.int (i : Nat), .str ⟨#[c]⟩])) { s with heap := h'', toks := tk + 1 } :=
      I.turnedNew (ch := [e, it]) (fun b ob hb q => (sb.2 b (fun z => hb (by simp [z]))).trans (hk b ob (fun z => hb (by simp [z])) (fun z => hb (by simp [z])) q)) hf (Nat.le_refl _) new
    refine ⟨.ref s.heap.objs.size, _, I1, rfl, ⟨_, c, rfl, I.hok.fresh (Nat.le_refl _), hcx, rfl⟩, ⟨⟨.str ⟨#[c]⟩ u, ?_⟩, ?_, hne, hg⟩, fun b hb => ?_⟩
    · have e1 : ((i + 1 : Nat) : Int) = (i : Int) + 1 := by omega
      rw [e1]; exact he'
    · obtain ⟨o, q, r⟩ := hit'
      exact ⟨o, (sb.2 it (Ne.symm hne)).trans q, r⟩
    · have hb' : b < s.heap.objs.size := by
        have e' : b = e ∨ b = it := by simpa using hb
        rcases e' with z | z
        · rw [z]; exact hel
        · rw [z]; exact hil
      rw [upd_ne (Nat.ne_of_lt hb')]
      exact (hf b hb).1
  done := by
    intro X hP hw hK hc i pins s σ H E I hf st hg
    subst hP hw hK
    obtain ⟨⟨old, he⟩, hit, hne, hle⟩ := st
    have D : Draws X.prog X.w X.A.in1 it [it] x.cps.size (fun i v => ∃ c u, x.cps[i]? = some c ∧ v = .str ⟨#[c]⟩ u) (fun i h => h.IsStrIter it ty x t i) := by
      rcases hty with q | q
      · rw [q]; exact Draws.strAscii (A := X.A.in1) (show X.A.in1.handled = none from I.ok.hd hc) it x t
      · rw [q]; exact Draws.strWide (A := X.A.in1) (show X.A.in1.handled = none from I.ok.hd hc) it x t
    obtain ⟨f0, f1, f2, f3, f4, f5⟩ := hf it (by simp)
    have hg : x.cps.size ≤ i := hg
    have hi : i = x.cps.size := Nat.le_antisymm hle hg
    subst hi
    exact wpAny_pyNext_enum_endD D he hit fun h' eb => ⟨rfl, I.turned (t' := s.toks) (fun b o hb q => eb b o hb q) f0 f1 f3 f4 f5⟩
  self := fun A i s Q E st h => let ⟨⟨_, he⟩, _⟩ := st; wpAny_pyIter_enum he h
def iEnumS (ta : TA) : TI := fun σ H R => ta σ H fun vs H1 => ∃ x, vs = [.str x] ∧ R (Ites x) H1
theorem pi_enumS {X : Cx} {e : Expr} {ta : TA} {p pos tpos : Pos} {elts : List Expr} {kk : Nat} (hg : Gl X "enumerate") (hm : X.mg "enumerate" = none) (ha : PA X [e] ta) (hs : starEach [e] X.env = [(false, eval e X.env)] := by rfl) :
    PI X (.Tuple elts kk tpos) (.Call (.Name "enumerate" p) [e] [] pos) (iEnumS ta) := by
  refine ⟨fun pins s σ H R I h => ?_⟩
  refine Call_ (ld_blt I hg hm boot_enumerate (PyProof.Rows.callWith_type1 (thn (ha.run pos pins s σ H _ I h) fun us s1 ⟨vs, H1, I1, r1, q1⟩ => ?_) hs rfl))
  obtain ⟨x, ex, q⟩ := q1
  subst ex
  cases r1 with
  | cons r rr =>
    cases rr
    obtain ⟨t, rfl⟩ := r
    refine call_enumerate_str fun h' he hit hsz hk => wpAny_pyIter_enum he ?_
    have I2 : Inv X pins σ H1 { s1 with heap := h' } := I1.kept (t' := s1.toks) hk
    have hty : strIterType x = "str_ascii_iterator" ∨ strIterType x = "str_iterator" := by
      unfold strIterType
      split
      · exact .inl rfl
      · exact .inr rfl
    refine ⟨s1.heap.objs.size + 1, [s1.heap.objs.size + 1, s1.heap.objs.size], _, _, H1, rfl, I2, turn_enumS x t _ hty (s1.heap.objs.size + 1) s1.heap.objs.size, ⟨⟨.none, he⟩, hit, Nat.succ_ne_self _, Nat.zero_le _⟩, fun b hb => ?_, q⟩
    have e' : b = s1.heap.objs.size + 1 ∨ b = s1.heap.objs.size := by simpa using hb
    have hle : s1.heap.objs.size ≤ b := by
      rcases e' with z | z
      · rw [z]; exact Nat.le_add_right _ _
      · rw [z]; exact Nat.le_refl _
    exact I1.fpOk hle (I1.hok.fresh hle)
theorem iter_enumS {K : PySem.W.Frag} {m : Mp} {H : Hp} {x : Str} : Iter K (Ites x) m H (.en (.lst (charsD x))) := by
  have hl : (charsD x).length = x.cps.size := by unfold charsD; simp
  refine ⟨fun m' A' H' all i d e R hs hi => ?_, fun m' A' H' all i e R hs hl2 => ?_⟩
  · have hs : some (enumD 0 (charsD x)) = some all := hs
    cases hs
    rw [enum_at] at hi
    obtain ⟨x0, hx0, rfl⟩ := Option.map_eq_some_iff.mp hi
    have hlt := (List.getElem?_eq_some_iff.mp hx0).1
    refine ⟨by show i < x.cps.size; omega, fun y H'' hy => ?_⟩
    obtain ⟨T, c, rfl, hT, hc, rfl⟩ := hy
    obtain ⟨R1, e1⟩ := R.new hT (.tup [.int (i : Nat), .str ⟨#[c]⟩])
    refine ⟨R1, e1, ?_⟩
    rw [Nat.zero_add]
    have e0 : x0 = .str ⟨#[c]⟩ := by
      unfold charsD at hx0
      simp [hc] at hx0
      exact hx0.symm
    rw [e0]
    exact .qtup (.inl upd_same) (R.out hT) (.cons (.int _) (.cons (.str _) .nil))
  · have hs : some (enumD 0 (charsD x)) = some all := hs
    cases hs
    rw [enum_length, hl] at hl2
    exact hl2
/-- enumerate(text) -/
def mEnS (ms : MA) : MI := fun ρ A => (ms ρ A).bind fun ds A1 => match ds with
  | [.str x] => .ok (.en (.lst (charsD x))) A1
  | _ => .no
section
variable {X : Cx} {W : WX} {e : Expr} {ms : MA} {p pos : Pos}
theorem i_enS {elts : List Expr} {kk : Nat} {tpos : Pos} (hm : X.mg "enumerate" = none) (ha : DA X W [e] ms) (hg : Gl X "enumerate" := by rfl) (hs : starEach [e] X.env = [(false, eval e X.env)] := by rfl) : DI X W (.Tuple elts kk tpos) (.Call (.Name "enumerate" p) [e] [] pos) (mEnS ms) :=
  PIi (pi_enumS hg hm ha hs) fun σ H Q ⟨m, A, ρ, R, E, h⟩ => tA.bind R E h fun m1 A1 ds vs H1 e1 R1 E1 r1 h1 => by
    split at h1
    · rename_i x
      obtain ⟨v, rfl, r⟩ := r1.one
      cases r
      exact ⟨x, rfl, Post.here R1 iter_enumS h1⟩
    · exact h1.elim
/-! ### text > text -/
def fGtX : D → D → AH → Res D := fun d e A => match d, e with
  | .int i, .int j => .ok (.bl (decide (j < i))) A
  | .str i, .str j => .ok (.bl (decide (sLt j i))) A
  | _, _ => .no
theorem fGtX_ok {K : PySem.W.Frag} : OpD K fGtX (fun x y H Q => rI0 (fun i j => .bl (decide (j < i))) x y H Q ∨ ∃ i j, x = .str i ∧ y = .str j ∧ Q (.bl (decide (j.cps.toList < i.cps.toList))) H) := by
  intro W σ m A H x y d e Q R hx hy h
  unfold fGtX at h
  split at h
  · cases hx; cases hy
    exact .inl ⟨_, _, rfl, rfl, Post.here R (.bl _) h⟩
  · cases hx; cases hy
    exact .inr ⟨_, _, rfl, rfl, Post.here R (.bl _) h⟩
  · exact h.elim
theorem op_gtX : OpR X (compareOp .Gt) (fun x y H Q => rI0 (fun i j => .bl (decide (j < i))) x y H Q ∨ ∃ i j, x = .str i ∧ y = .str j ∧ Q (.bl (decide (j.cps.toList < i.cps.toList))) H) := op_gt.or op_gt_str
theorem t_gtX {a b : Expr} {ma mb : ME} (ha : DE X W a ma) (hb : DE X W b mb) (hm : behindInMarks .Gt b = false := by first | exact nomark _ | rfl) : DT X W (.Compare a [.Gt] [b] pos) (mTst (mOp fGtX ma mb)) := t_cmp op_gtX fGtX_ok ha hb hm
/-! ### what is not a bool, as a test -/
def truD (A : AH) (d : D) : Option Bool := match d with
  | .non => some false
  | .bl k => some k
  | .int i => some (i != 0)
  | d => (seqOf A d).map fun xs => !xs.isEmpty
def mTru (me : ME) : MT := fun ρ A => (me ρ A).bind fun d A1 => match truD A1 d with
  | some k => .ok k A1
  | none => .no
theorem empty_rds {K : PySem.W.Frag} {m : Mp} {H : Hp} {xs : List D} {vs : List V} (r : RDs K m H xs vs) : vs.isEmpty = xs.isEmpty := by cases r <;> rfl
theorem t_tru {a : Expr} {ma : ME} (ha : DE X W a ma) (he : ∀ whole, isTrue a X.env whole = (do let v ← whole; standAt a.pos; holding [v] (truthy v)) := by intro _; rfl) : DT X W a (mTru ma) :=
  PTi (pt_truth ha he) fun σ H Q ⟨m, A, ρ, R, E, h⟩ => tE.bind R E h fun m1 A1 d v H1 e1 R1 E1 r1 h1 => by
    split at h1
    rotate_left
    · exact h1.elim
    rename_i k hk
    refine ⟨k, ?_, Post.here R1 rfl h1⟩
    unfold truD at hk
    split at hk
    · cases r1; cases hk; rfl
    · cases r1; cases hk; rfl
    · cases r1; cases hk; rfl
    · obtain ⟨xs, hs, rfl⟩ := Option.map_eq_some_iff.mp hk
      obtain ⟨a, vs, rfl, rs, z⟩ := seqOf_is R1 r1 hs
      rcases z with ⟨_, z⟩ | ⟨_, z⟩
      · exact .inr (.inl ⟨vs, z, by rw [empty_rds rs]⟩)
      · exact .inl ⟨vs, z, by rw [empty_rds rs]⟩
/-! ### a if c else b, as a test -/
def mIfT (mc ma mb : MT) : MT := fun ρ A => (mc ρ A).bind fun k A1 => if k = true then ma ρ A1 else mb ρ A1
theorem pt_ifx {c a b : Expr} {tC tA' tB : TT} {pos : Pos} (hc : PT X c tC) (ha : PT X a tA') (hb : PT X b tB) : PT X (.IfExp c a b pos) (fun σ H Q => tC σ H fun k H1 => if k = true then tA' σ H1 Q else tB σ H1 Q) := by
  refine ⟨fun pins s σ H Q I h => isTrue_IfExp (thn (hc.run pins s σ H _ I h) fun k s1 ⟨H1, I1, q1⟩ => ?_)⟩
  cases k with
  | true => exact ha.run pins s1 σ H1 Q I1 q1
  | false => exact hb.run pins s1 σ H1 Q I1 q1
theorem t_ifx {c a b : Expr} {mc ma mb : MT} {pos : Pos} (hc : DT X W c mc) (ha : DT X W a ma) (hb : DT X W b mb) : DT X W (.IfExp c a b pos) (mIfT mc ma mb) :=
  PTi (pt_ifx hc ha hb) fun σ H Q ⟨m, A, ρ, R, E, h⟩ => tT.bind R E h fun m1 A1 k H1 e1 R1 E1 h1 => by
    cases k with
    | true => exact ⟨m1, A1, ρ, R1, E1, h1⟩
    | false => exact ⟨m1, A1, ρ, R1, E1, h1⟩
/-! ### a sign in a text -/
def fInC (neg : Bool) : D → D → AH → Res D := fun d e A => match d, e with
  | .str ⟨⟨[c]⟩⟩, .str z => .ok (.bl (if neg then !decide (c ∈ z.cps.toList) else decide (c ∈ z.cps.toList))) A
  | _, _ => .no
theorem fInC_ok {K : PySem.W.Frag} (neg : Bool) : OpD K (fInC neg) (fun x y H Q => ∃ (c : Nat) (z : Str), x = .str ⟨#[c]⟩ ∧ y = .str z ∧ Q (.bl (if neg then !decide (c ∈ z.cps.toList) else decide (c ∈ z.cps.toList))) H) := by
  intro W σ m A H x y d e Q R hx hy h
  unfold fInC at h
  split at h
  · cases hx; cases hy
    exact ⟨_, _, rfl, rfl, Post.here R (.bl _) h⟩
  · exact h.elim
theorem t_ninC {a b : Expr} {ma mb : ME} (ha : DE X W a ma) (hb : DE X W b mb) (hm : behindInMarks .NotIn b = false := by first | exact nomark _ | rfl) : DT X W (.Compare a [.NotIn] [b] pos) (mTst (mOp (fInC true) ma mb)) := t_cmp op_notIn_sign (fInC_ok true) ha hb hm
end
end DM
end
section
set_option maxHeartbeats 2000000
namespace DM
open PySem PySem.Spec PyProof.Rows L2
/-! ### text[lo:hi] -/
section
variable {X : Cx} {W : WX} {e : Expr} {me : ME} {pos p2 : Pos}
def fSlX : D → Option Int → Option Int → AH → Res D := fun d lo hi A => match d with
  | .str z => if z.length ≤ 16777216 then .ok (.str (cutS z lo hi)) A else .no
  | _ => .no
def mSlX (me : ME) (ml mh : MO) : ME := fun ρ A => (me ρ A).bind fun d A1 => (ml ρ A1).bind fun lo A2 => (mh ρ A2).bind fun hi A3 => fSlX d lo hi A3
theorem d_slx {lo hi : Option Expr} {ml mh : MO} (he : DE X W e me) (hl : DO X W lo ml) (hh : DO X W hi mh) : DE X W (.Subscript e (.Slice lo hi none p2) pos) (mSlX me ml mh) :=
  PEi (pe_slice sl_str he hl.go hh.go) fun σ H Q ⟨m, A, ρ, R, E, h⟩ => tE.bind R E h fun m1 A1 d v H1 e1 R1 E1 r1 h1 => tO.bind R1 E1 h1 fun m2 A2 l H2 e2 R2 E2 h2 => tO.bind R2 E2 h2 fun m3 A3 u H3 e3 R3 E3 h3 => by
    have r3 := RD.mono (e2.trans e3) _ _ r1
    unfold fSlX at h3
    split at h3
    · rename_i z
      cases r3
      split at h3
      · rename_i hz
        exact ⟨z, rfl, hz, Post.here R3 (.str _) h3⟩
      · exact h3.elim
    · exact h3.elim
end
end DM
end
section
set_option maxHeartbeats 4000000
namespace K12
open PySem PySem.Spec PyProof.Rows L2 DM NdefX
/-! ### the text -/
def stAt (i : Nat) : Stmt := PySem.Challenge.pw_spelledways_k12_whole_steps_through_a_tr.main.body.getD i (.Pass ⟨0, 0, 0, 0⟩)
abbrev x_Tree : Stmt := stAt 49
abbrev x_is_integer : Stmt := stAt 6
abbrev nm_is_integer : List Str := ["value"]
theorem sc_is_integer : FnScope nm_is_integer ["value"] (defScope x_is_integer) := ⟨rfl, rfl, rfl, by decide +kernel, rfl, by decide +kernel, by decide +kernel⟩
abbrev x_is_text : Stmt := stAt 7
abbrev nm_is_text : List Str := ["value"]
theorem sc_is_text : FnScope nm_is_text ["value"] (defScope x_is_text) := ⟨rfl, rfl, rfl, by decide +kernel, rfl, by decide +kernel, by decide +kernel⟩
abbrev x_wrong_sign : Stmt := stAt 11
abbrev nm_wrong_sign : List Str := ["text", "signs", "most", "at", "sign"]
theorem sc_wrong_sign : FnScope nm_wrong_sign ["text", "signs", "most"] (defScope x_wrong_sign) := ⟨rfl, rfl, rfl, by decide +kernel, rfl, by decide +kernel, by decide +kernel⟩
abbrev x_key_fault : Stmt := stAt 12
abbrev nm_key_fault : List Str := ["value"]
theorem sc_key_fault : FnScope nm_key_fault ["value"] (defScope x_key_fault) := ⟨rfl, rfl, rfl, by decide +kernel, rfl, by decide +kernel, by decide +kernel⟩
abbrev x_is_key : Stmt := stAt 13
abbrev nm_is_key : List Str := ["value"]
theorem sc_is_key : FnScope nm_is_key ["value"] (defScope x_is_key) := ⟨rfl, rfl, rfl, by decide +kernel, rfl, by decide +kernel, by decide +kernel⟩
abbrev x_need_key : Stmt := stAt 14
abbrev nm_need_key : List Str := ["value", "at"]
theorem sc_need_key : FnScope nm_need_key ["value"] (defScope x_need_key) := ⟨rfl, rfl, rfl, by decide +kernel, rfl, by decide +kernel, by decide +kernel⟩
abbrev x_need_most : Stmt := stAt 21
abbrev nm_need_most : List Str := ["most"]
theorem sc_need_most : FnScope nm_need_most ["most"] (defScope x_need_most) := ⟨rfl, rfl, rfl, by decide +kernel, rfl, by decide +kernel, by decide +kernel⟩
abbrev x_half_of : Stmt := stAt 22
abbrev nm_half_of : List Str := ["most"]
theorem sc_half_of : FnScope nm_half_of ["most"] (defScope x_half_of) := ⟨rfl, rfl, rfl, by decide +kernel, rfl, by decide +kernel, by decide +kernel⟩
abbrev x_is_leaf : Stmt := stAt 23
abbrev nm_is_leaf : List Str := ["page"]
theorem sc_is_leaf : FnScope nm_is_leaf ["page"] (defScope x_is_leaf) := ⟨rfl, rfl, rfl, by decide +kernel, rfl, by decide +kernel, by decide +kernel⟩
abbrev x_things_on : Stmt := stAt 24
abbrev nm_things_on : List Str := ["page"]
theorem sc_things_on : FnScope nm_things_on ["page"] (defScope x_things_on) := ⟨rfl, rfl, rfl, by decide +kernel, rfl, by decide +kernel, by decide +kernel⟩
abbrev x_child_number : Stmt := stAt 25
abbrev nm_child_number : List Str := ["keys", "key", "low", "high", "middle"]
theorem sc_child_number : FnScope nm_child_number ["keys", "key"] (defScope x_child_number) := ⟨rfl, rfl, rfl, by decide +kernel, rfl, by decide +kernel, by decide +kernel⟩
abbrev x_entry_number : Stmt := stAt 26
abbrev nm_entry_number : List Str := ["entries", "key", "low", "high", "middle"]
theorem sc_entry_number : FnScope nm_entry_number ["entries", "key"] (defScope x_entry_number) := ⟨rfl, rfl, rfl, by decide +kernel, rfl, by decide +kernel, by decide +kernel⟩
abbrev x_leaf_for : Stmt := stAt 27
abbrev nm_leaf_for : List Str := ["page", "key"]
theorem sc_leaf_for : FnScope nm_leaf_for ["page", "key"] (defScope x_leaf_for) := ⟨rfl, rfl, rfl, by decide +kernel, rfl, by decide +kernel, by decide +kernel⟩
abbrev x_entry_of : Stmt := stAt 28
abbrev nm_entry_of : List Str := ["page", "key", "row", "at"]
theorem sc_entry_of : FnScope nm_entry_of ["page", "key"] (defScope x_entry_of) := ⟨rfl, rfl, rfl, by decide +kernel, rfl, by decide +kernel, by decide +kernel⟩
abbrev x_has : Stmt := stAt 29
abbrev nm_has : List Str := ["page", "key"]
theorem sc_has : FnScope nm_has ["page", "key"] (defScope x_has) := ⟨rfl, rfl, rfl, by decide +kernel, rfl, by decide +kernel, by decide +kernel⟩
abbrev x_packed_leaf : Stmt := stAt 32
abbrev nm_packed_leaf : List Str := ["most", "row", "cut"]
theorem sc_packed_leaf : FnScope nm_packed_leaf ["most", "row"] (defScope x_packed_leaf) := ⟨rfl, rfl, rfl, by decide +kernel, rfl, by decide +kernel, by decide +kernel⟩
abbrev x_packed_branch : Stmt := stAt 33
abbrev nm_packed_branch : List Str := ["most", "keys", "pages", "cut"]
theorem sc_packed_branch : FnScope nm_packed_branch ["most", "keys", "pages"] (defScope x_packed_branch) := ⟨rfl, rfl, rfl, by decide +kernel, rfl, by decide +kernel, by decide +kernel⟩
abbrev x_root_of : Stmt := stAt 34
abbrev nm_root_of : List Str := ["pieces", "pages", "keys", "page"]
theorem sc_root_of : FnScope nm_root_of ["pieces"] (defScope x_root_of) := ⟨rfl, rfl, rfl, by decide +kernel, rfl, by decide +kernel, by decide +kernel⟩
abbrev x_spliced : Stmt := stAt 35
abbrev nm_spliced : List Str := ["most", "page", "begin", "end", "pieces", "pages", "keys"]
theorem sc_spliced : FnScope nm_spliced ["most", "page", "begin", "end", "pieces"] (defScope x_spliced) := ⟨rfl, rfl, rfl, by decide +kernel, rfl, by decide +kernel, by decide +kernel⟩
abbrev x_fused : Stmt := stAt 36
abbrev nm_fused : List Str := ["most", "left", "key", "right"]
theorem sc_fused : FnScope nm_fused ["most", "left", "key", "right"] (defScope x_fused) := ⟨rfl, rfl, rfl, by decide +kernel, rfl, by decide +kernel, by decide +kernel⟩
abbrev x_put_pieces : Stmt := stAt 37
abbrev nm_put_pieces : List Str := ["most", "page", "key", "thing", "at", "row", "rest"]
theorem sc_put_pieces : FnScope nm_put_pieces ["most", "page", "key", "thing"] (defScope x_put_pieces) := ⟨rfl, rfl, rfl, by decide +kernel, rfl, by decide +kernel, by decide +kernel⟩
abbrev x_with_entry : Stmt := stAt 38
abbrev nm_with_entry : List Str := ["most", "page", "key", "thing"]
theorem sc_with_entry : FnScope nm_with_entry ["most", "page", "key", "thing"] (defScope x_with_entry) := ⟨rfl, rfl, rfl, by decide +kernel, rfl, by decide +kernel, by decide +kernel⟩
abbrev x_less_page : Stmt := stAt 39
abbrev nm_less_page : List Str := ["most", "page", "key", "at", "inner", "low", "pair"]
theorem sc_less_page : FnScope nm_less_page ["most", "page", "key"] (defScope x_less_page) := ⟨rfl, rfl, rfl, by decide +kernel, rfl, by decide +kernel, by decide +kernel⟩
abbrev x_without_entry : Stmt := stAt 40
abbrev nm_without_entry : List Str := ["most", "page", "key"]
theorem sc_without_entry : FnScope nm_without_entry ["most", "page", "key"] (defScope x_without_entry) := ⟨rfl, rfl, rfl, by decide +kernel, rfl, by decide +kernel, by decide +kernel⟩
abbrev x_first_key : Stmt := stAt 41
abbrev nm_first_key : List Str := ["page"]
theorem sc_first_key : FnScope nm_first_key ["page"] (defScope x_first_key) := ⟨rfl, rfl, rfl, by decide +kernel, rfl, by decide +kernel, by decide +kernel⟩
abbrev x_behind_of : Stmt := stAt 42
abbrev nm_behind_of : List Str := ["page", "key", "entry", "found", "at"]
theorem sc_behind_of : FnScope nm_behind_of ["page", "key"] (defScope x_behind_of) := ⟨rfl, rfl, rfl, by decide +kernel, rfl, by decide +kernel, by decide +kernel⟩
abbrev x_first : Stmt := stAt 44
abbrev nm_first : List Str := ["page"]
theorem sc_first : FnScope nm_first ["page"] (defScope x_first) := ⟨rfl, rfl, rfl, by decide +kernel, rfl, by decide +kernel, by decide +kernel⟩
abbrev x_last : Stmt := stAt 45
abbrev nm_last : List Str := ["page"]
theorem sc_last : FnScope nm_last ["page"] (defScope x_last) := ⟨rfl, rfl, rfl, by decide +kernel, rfl, by decide +kernel, by decide +kernel⟩
abbrev x_after : Stmt := stAt 46
abbrev nm_after : List Str := ["page", "key", "found"]
theorem sc_after : FnScope nm_after ["page", "key"] (defScope x_after) := ⟨rfl, rfl, rfl, by decide +kernel, rfl, by decide +kernel, by decide +kernel⟩
abbrev x_before : Stmt := stAt 47
abbrev nm_before : List Str := ["page", "key", "row", "at", "found", "number"]
theorem sc_before : FnScope nm_before ["page", "key"] (defScope x_before) := ⟨rfl, rfl, rfl, by decide +kernel, rfl, by decide +kernel, by decide +kernel⟩
abbrev x_Tree__init : Stmt := methAt x_Tree 0
abbrev nm_Tree__init : List Str := ["self", "most"]
theorem sc_Tree__init : FnScope nm_Tree__init ["self", "most"] (defScope x_Tree__init) := ⟨rfl, rfl, rfl, by decide +kernel, rfl, by decide +kernel, by decide +kernel⟩
abbrev x_Tree____len__ : Stmt := methAt x_Tree 1
abbrev nm_Tree____len__ : List Str := ["self"]
theorem sc_Tree____len__ : FnScope nm_Tree____len__ ["self"] (defScope x_Tree____len__) := ⟨rfl, rfl, rfl, by decide +kernel, rfl, by decide +kernel, by decide +kernel⟩
abbrev x_Tree____contains__ : Stmt := methAt x_Tree 2
abbrev nm_Tree____contains__ : List Str := ["self", "key"]
theorem sc_Tree____contains__ : FnScope nm_Tree____contains__ ["self", "key"] (defScope x_Tree____contains__) := ⟨rfl, rfl, rfl, by decide +kernel, rfl, by decide +kernel, by decide +kernel⟩
abbrev x_Tree__root : Stmt := methAt x_Tree 3
abbrev nm_Tree__root : List Str := ["self"]
theorem sc_Tree__root : FnScope nm_Tree__root ["self"] (defScope x_Tree__root) := ⟨rfl, rfl, rfl, by decide +kernel, rfl, by decide +kernel, by decide +kernel⟩
abbrev x_Tree__put : Stmt := methAt x_Tree 4
abbrev nm_Tree__put : List Str := ["self", "key", "thing", "is_new"]
theorem sc_Tree__put : FnScope nm_Tree__put ["self", "key", "thing"] (defScope x_Tree__put) := ⟨rfl, rfl, rfl, by decide +kernel, rfl, by decide +kernel, by decide +kernel⟩
abbrev x_Tree__take : Stmt := methAt x_Tree 5
abbrev nm_Tree__take : List Str := ["self", "key"]
theorem sc_Tree__take : FnScope nm_Tree__take ["self", "key"] (defScope x_Tree__take) := ⟨rfl, rfl, rfl, by decide +kernel, rfl, by decide +kernel, by decide +kernel⟩
abbrev x_Tree__has : Stmt := methAt x_Tree 7
abbrev nm_Tree__has : List Str := ["self", "key"]
theorem sc_Tree__has : FnScope nm_Tree__has ["self", "key"] (defScope x_Tree__has) := ⟨rfl, rfl, rfl, by decide +kernel, rfl, by decide +kernel, by decide +kernel⟩
abbrev x__law_deal : Stmt := stAt 51
abbrev nm__law_deal : List Str := ["_law_script", "_law_base", "_law_cells", "_law_mix", "_law_cell"]
theorem sc__law_deal : FnScope nm__law_deal ["_law_script", "_law_base"] (defScope x__law_deal) := ⟨rfl, rfl, rfl, by decide +kernel, rfl, by decide +kernel, by decide +kernel⟩
abbrev x__law_any : Stmt := stAt 52
abbrev nm__law_any : List Str := ["_law_deal_here", "_law_bound", "_law_rest"]
theorem sc__law_any : FnScope nm__law_any ["_law_deal_here", "_law_bound"] (defScope x__law_any) := ⟨rfl, rfl, rfl, by decide +kernel, rfl, by decide +kernel, by decide +kernel⟩
abbrev x__law_of : Stmt := stAt 53
abbrev nm__law_of : List Str := ["_law_deal_here", "_law_some"]
theorem sc__law_of : FnScope nm__law_of ["_law_deal_here", "_law_some"] (defScope x__law_of) := ⟨rfl, rfl, rfl, by decide +kernel, rfl, by decide +kernel, by decide +kernel⟩
abbrev x__law_keys : Stmt := stAt 54
abbrev nm__law_keys : List Str := ["_law_deal_here", "_law_many", "_law_signs", "_law_found", "_law_stem", "_law_turn", "_law_size", "_law_key", "_law_at"]
theorem sc__law_keys : FnScope nm__law_keys ["_law_deal_here", "_law_many"] (defScope x__law_keys) := ⟨rfl, rfl, rfl, by decide +kernel, rfl, by decide +kernel, by decide +kernel⟩
abbrev x__law_thing : Stmt := stAt 55
abbrev nm__law_thing : List Str := ["_law_deal_here", "_law_number"]
theorem sc__law_thing : FnScope nm__law_thing ["_law_deal_here"] (defScope x__law_thing) := ⟨rfl, rfl, rfl, by decide +kernel, rfl, by decide +kernel, by decide +kernel⟩
abbrev x__law_next : Stmt := stAt 56
abbrev nm__law_next : List Str := ["_law_rows", "_law_key", "_law_is_up", "_law_some", "_law_found", "_law_one"]
theorem sc__law_next : FnScope nm__law_next ["_law_rows", "_law_key", "_law_is_up"] (defScope x__law_next) := ⟨rfl, rfl, rfl, by decide +kernel, rfl, by decide +kernel, by decide +kernel⟩
abbrev x__law_wrong : Stmt := stAt 57
abbrev nm__law_wrong : List Str := ["_law_page", "_law_value", "_law_found", "e"]
theorem sc__law_wrong : FnScope nm__law_wrong ["_law_page", "_law_value"] (defScope x__law_wrong) := ⟨rfl, rfl, rfl, by decide +kernel, rfl, by decide +kernel, by decide +kernel⟩
abbrev x__law_changed : Stmt := stAt 58
abbrev nm__law_changed : List Str := ["_law_deal_here", "_law_tree", "_law_rows", "_law_keys_here", "_law_turn", "_law_key"]
theorem sc__law_changed : FnScope nm__law_changed ["_law_deal_here", "_law_tree", "_law_rows", "_law_keys_here"] (defScope x__law_changed) := ⟨rfl, rfl, rfl, by decide +kernel, rfl, by decide +kernel, by decide +kernel⟩
abbrev x_law : Stmt := stAt 59
abbrev nm_law : List Str := ["_law_script", "_law_deal_here", "_law_keys_here", "_law_rows", "_law_tree", "_law_is_up", "_law_key", "_law_stay", "_law_met", "_law_is_done", "_law_turn", "_law_value", "_law_due", "_law_page", "_law_beside", "_law_both", "_law_now", "_law_told", "_law_one"]
theorem sc_law : FnScope nm_law ["_law_script"] (defScope x_law) := ⟨rfl, rfl, rfl, by decide +kernel, rfl, by decide +kernel, by decide +kernel⟩
abbrev x_InvalidKey : Stmt := stAt 3
abbrev x_InvalidSize : Stmt := stAt 4
/-! ### what the top has written -/
structure Tx (P : Program) (w : World) (K : PySem.W.Frag) (mg : Str → Option Value) (ad : Nat → Addr) (fd : Nat → FuncData) (tb : Nat → Addr × Addr) : Prop where
  g_is_integer : mg "is_integer" = some (.ref (ad 0))
  F_is_integer : Fun K "is_integer" "is_integer" x_is_integer (ad 0) (fd 0)
  b_is_integer : Binds K (fd 0) ["value"] []
  g_is_text : mg "is_text" = some (.ref (ad 1))
  F_is_text : Fun K "is_text" "is_text" x_is_text (ad 1) (fd 1)
  b_is_text : Binds K (fd 1) ["value"] []
  g_wrong_sign : mg "wrong_sign" = some (.ref (ad 2))
  F_wrong_sign : Fun K "wrong_sign" "wrong_sign" x_wrong_sign (ad 2) (fd 2)
  b_wrong_sign : Binds K (fd 2) ["text", "signs", "most"] []
  g_key_fault : mg "key_fault" = some (.ref (ad 3))
  F_key_fault : Fun K "key_fault" "key_fault" x_key_fault (ad 3) (fd 3)
  b_key_fault : Binds K (fd 3) ["value"] []
  g_is_key : mg "is_key" = some (.ref (ad 4))
  F_is_key : Fun K "is_key" "is_key" x_is_key (ad 4) (fd 4)
  b_is_key : Binds K (fd 4) ["value"] []
  g_need_key : mg "need_key" = some (.ref (ad 5))
  F_need_key : Fun K "need_key" "need_key" x_need_key (ad 5) (fd 5)
  b_need_key : Binds K (fd 5) ["value"] []
  g_need_most : mg "need_most" = some (.ref (ad 6))
  F_need_most : Fun K "need_most" "need_most" x_need_most (ad 6) (fd 6)
  b_need_most : Binds K (fd 6) ["most"] []
  g_half_of : mg "half_of" = some (.ref (ad 7))
  F_half_of : Fun K "half_of" "half_of" x_half_of (ad 7) (fd 7)
  b_half_of : Binds K (fd 7) ["most"] []
  g_is_leaf : mg "is_leaf" = some (.ref (ad 8))
  F_is_leaf : Fun K "is_leaf" "is_leaf" x_is_leaf (ad 8) (fd 8)
  b_is_leaf : Binds K (fd 8) ["page"] []
  g_things_on : mg "things_on" = some (.ref (ad 9))
  F_things_on : Fun K "things_on" "things_on" x_things_on (ad 9) (fd 9)
  b_things_on : Binds K (fd 9) ["page"] []
  g_child_number : mg "child_number" = some (.ref (ad 10))
  F_child_number : Fun K "child_number" "child_number" x_child_number (ad 10) (fd 10)
  b_child_number : Binds K (fd 10) ["keys", "key"] []
  g_entry_number : mg "entry_number" = some (.ref (ad 11))
  F_entry_number : Fun K "entry_number" "entry_number" x_entry_number (ad 11) (fd 11)
  b_entry_number : Binds K (fd 11) ["entries", "key"] []
  g_leaf_for : mg "leaf_for" = some (.ref (ad 12))
  F_leaf_for : Fun K "leaf_for" "leaf_for" x_leaf_for (ad 12) (fd 12)
  b_leaf_for : Binds K (fd 12) ["page", "key"] []
  g_entry_of : mg "entry_of" = some (.ref (ad 13))
  F_entry_of : Fun K "entry_of" "entry_of" x_entry_of (ad 13) (fd 13)
  b_entry_of : Binds K (fd 13) ["page", "key"] []
  g_has : mg "has" = some (.ref (ad 14))
  F_has : Fun K "has" "has" x_has (ad 14) (fd 14)
  b_has : Binds K (fd 14) ["page", "key"] []
  g_packed_leaf : mg "packed_leaf" = some (.ref (ad 15))
  F_packed_leaf : Fun K "packed_leaf" "packed_leaf" x_packed_leaf (ad 15) (fd 15)
  b_packed_leaf : Binds K (fd 15) ["most", "row"] []
  g_packed_branch : mg "packed_branch" = some (.ref (ad 16))
  F_packed_branch : Fun K "packed_branch" "packed_branch" x_packed_branch (ad 16) (fd 16)
  b_packed_branch : Binds K (fd 16) ["most", "keys", "pages"] []
  g_root_of : mg "root_of" = some (.ref (ad 17))
  F_root_of : Fun K "root_of" "root_of" x_root_of (ad 17) (fd 17)
  b_root_of : Binds K (fd 17) ["pieces"] []
  g_spliced : mg "spliced" = some (.ref (ad 18))
  F_spliced : Fun K "spliced" "spliced" x_spliced (ad 18) (fd 18)
  b_spliced : Binds K (fd 18) ["most", "page", "begin", "end", "pieces"] []
  g_fused : mg "fused" = some (.ref (ad 19))
  F_fused : Fun K "fused" "fused" x_fused (ad 19) (fd 19)
  b_fused : Binds K (fd 19) ["most", "left", "key", "right"] []
  g_put_pieces : mg "put_pieces" = some (.ref (ad 20))
  F_put_pieces : Fun K "put_pieces" "put_pieces" x_put_pieces (ad 20) (fd 20)
  b_put_pieces : Binds K (fd 20) ["most", "page", "key", "thing"] []
  g_with_entry : mg "with_entry" = some (.ref (ad 21))
  F_with_entry : Fun K "with_entry" "with_entry" x_with_entry (ad 21) (fd 21)
  b_with_entry : Binds K (fd 21) ["most", "page", "key", "thing"] []
  g_less_page : mg "less_page" = some (.ref (ad 22))
  F_less_page : Fun K "less_page" "less_page" x_less_page (ad 22) (fd 22)
  b_less_page : Binds K (fd 22) ["most", "page", "key"] []
  g_without_entry : mg "without_entry" = some (.ref (ad 23))
  F_without_entry : Fun K "without_entry" "without_entry" x_without_entry (ad 23) (fd 23)
  b_without_entry : Binds K (fd 23) ["most", "page", "key"] []
  g_first_key : mg "first_key" = some (.ref (ad 24))
  F_first_key : Fun K "first_key" "first_key" x_first_key (ad 24) (fd 24)
  b_first_key : Binds K (fd 24) ["page"] []
  g_behind_of : mg "behind_of" = some (.ref (ad 25))
  F_behind_of : Fun K "behind_of" "behind_of" x_behind_of (ad 25) (fd 25)
  b_behind_of : Binds K (fd 25) ["page", "key"] []
  g_first : mg "first" = some (.ref (ad 26))
  F_first : Fun K "first" "first" x_first (ad 26) (fd 26)
  b_first : Binds K (fd 26) ["page"] []
  g_last : mg "last" = some (.ref (ad 27))
  F_last : Fun K "last" "last" x_last (ad 27) (fd 27)
  b_last : Binds K (fd 27) ["page"] []
  g_after : mg "after" = some (.ref (ad 28))
  F_after : Fun K "after" "after" x_after (ad 28) (fd 28)
  b_after : Binds K (fd 28) ["page", "key"] []
  g_before : mg "before" = some (.ref (ad 29))
  F_before : Fun K "before" "before" x_before (ad 29) (fd 29)
  b_before : Binds K (fd 29) ["page", "key"] []
  F_Tree__init : Fun K "__init__" "Tree.__init__" x_Tree__init (ad 30) (fd 30)
  b_Tree__init : Binds K (fd 30) ["self", "most"] []
  F_Tree____len__ : Fun K "__len__" "Tree.__len__" x_Tree____len__ (ad 31) (fd 31)
  b_Tree____len__ : Binds K (fd 31) ["self"] []
  F_Tree____contains__ : Fun K "__contains__" "Tree.__contains__" x_Tree____contains__ (ad 32) (fd 32)
  b_Tree____contains__ : Binds K (fd 32) ["self", "key"] []
  m_Tree__root : Meth K (ad 52) "root" (ad 33)
  F_Tree__root : Fun K "root" "Tree.root" x_Tree__root (ad 33) (fd 33)
  b_Tree__root : Binds K (fd 33) ["self"] []
  m_Tree__put : Meth K (ad 52) "put" (ad 34)
  F_Tree__put : Fun K "put" "Tree.put" x_Tree__put (ad 34) (fd 34)
  b_Tree__put : Binds K (fd 34) ["self", "key", "thing"] []
  m_Tree__take : Meth K (ad 52) "take" (ad 35)
  F_Tree__take : Fun K "take" "Tree.take" x_Tree__take (ad 35) (fd 35)
  b_Tree__take : Binds K (fd 35) ["self", "key"] []
  F_Tree__has : Fun K "has" "Tree.has" x_Tree__has (ad 36) (fd 36)
  b_Tree__has : Binds K (fd 36) ["self", "key"] []
  g__law_deal : mg "_law_deal" = some (.ref (ad 37))
  F__law_deal : Fun K "_law_deal" "_law_deal" x__law_deal (ad 37) (fd 37)
  b__law_deal : Binds K (fd 37) ["_law_script", "_law_base"] []
  g__law_any : mg "_law_any" = some (.ref (ad 38))
  F__law_any : Fun K "_law_any" "_law_any" x__law_any (ad 38) (fd 38)
  b__law_any : Binds K (fd 38) ["_law_deal_here", "_law_bound"] []
  g__law_of : mg "_law_of" = some (.ref (ad 39))
  F__law_of : Fun K "_law_of" "_law_of" x__law_of (ad 39) (fd 39)
  b__law_of : Binds K (fd 39) ["_law_deal_here", "_law_some"] []
  g__law_keys : mg "_law_keys" = some (.ref (ad 40))
  F__law_keys : Fun K "_law_keys" "_law_keys" x__law_keys (ad 40) (fd 40)
  b__law_keys : Binds K (fd 40) ["_law_deal_here", "_law_many"] []
  g__law_thing : mg "_law_thing" = some (.ref (ad 41))
  F__law_thing : Fun K "_law_thing" "_law_thing" x__law_thing (ad 41) (fd 41)
  b__law_thing : Binds K (fd 41) ["_law_deal_here"] []
  g__law_next : mg "_law_next" = some (.ref (ad 42))
  F__law_next : Fun K "_law_next" "_law_next" x__law_next (ad 42) (fd 42)
  b__law_next : Binds K (fd 42) ["_law_rows", "_law_key", "_law_is_up"] []
  g__law_wrong : mg "_law_wrong" = some (.ref (ad 43))
  F__law_wrong : Fun K "_law_wrong" "_law_wrong" x__law_wrong (ad 43) (fd 43)
  b__law_wrong : Binds K (fd 43) ["_law_page", "_law_value"] []
  g__law_changed : mg "_law_changed" = some (.ref (ad 44))
  F__law_changed : Fun K "_law_changed" "_law_changed" x__law_changed (ad 44) (fd 44)
  b__law_changed : Binds K (fd 44) ["_law_deal_here", "_law_tree", "_law_rows", "_law_keys_here"] []
  g_law : mg "law" = some (.ref (ad 45))
  F_law : Fun K "law" "law" x_law (ad 45) (fd 45)
  b_law : Binds K (fd 45) ["_law_script"] []
  g_Tree : mg "Tree" = some (.ref (ad 52))
  K_Tree : ClsI K "Tree" (ad 52)
  M_Tree : Mk K (ad 52) (ad 30)
  n_Tree__known : NoAttr K (ad 52) "_known"
  n_Tree__page : NoAttr K (ad 52) "_page"
  n_Tree_most : NoAttr K (ad 52) "most"
  g_StoreError : mg "StoreError" = some (.ref (ad 46))
  K_StoreError : ExcK K "StoreError" (ad 46)
  g_InvalidKey : mg "InvalidKey" = some (.ref (ad 47))
  K_InvalidKey : ExcK K "InvalidKey" (ad 47)
  E_InvalidKey : ErE.ErrC P K "Exception" "Exception.__new__" "Exception.__init__" [.type "Exception", .type "BaseException", .type "object"] (ad 47) (ad 50) "at"
  g_InvalidSize : mg "InvalidSize" = some (.ref (ad 48))
  K_InvalidSize : ExcK K "InvalidSize" (ad 48)
  E_InvalidSize : ErE.ErrC P K "Exception" "Exception.__new__" "Exception.__init__" [.type "Exception", .type "BaseException", .type "object"] (ad 48) (ad 51) "word"
  n_InvalidKey_at : PySem.W.findIn K (.ref (ad 47)) "at" = some none
  n_InvalidSize_word : PySem.W.findIn K (.ref (ad 48)) "word" = some none
  u_InvalidKey_InvalidKey : PySem.W.subIn K (.ref (ad 47)) (.ref (ad 47)) = some true
  u_InvalidSize_InvalidKey : PySem.W.subIn K (.ref (ad 48)) (.ref (ad 47)) = some false
  k_after_key_page : KB K (fd 28) ["page", "key"] 0 ["key", "page"] [1, 0]
  k_before_key_page : KB K (fd 29) ["page", "key"] 0 ["key", "page"] [1, 0]
  k_first_page : KB K (fd 26) ["page"] 0 ["page"] [0]
  k_last_page : KB K (fd 27) ["page"] 0 ["page"] [0]
  z_abs : mg "abs" = none
  z_bool : mg "bool" = none
  z_enumerate : mg "enumerate" = none
  z_int : mg "int" = none
  z_isinstance : mg "isinstance" = none
  z_len : mg "len" = none
  z_range : mg "range" = none
  z_repr : mg "repr" = none
  z_sorted : mg "sorted" = none
  z_str : mg "str" = none
  z_super : mg "super" = none
  z_tuple : mg "tuple" = none
  c_KEY_SIGNS : ∃ t, mg "KEY_SIGNS" = some (.str "0123456789_abcdefghijklmnopqrstuvwxyz" t)
  c_LONGEST_KEY : ∃ t, mg "LONGEST_KEY" = some (.int 16 t)
  c_LEAST_MOST : ∃ t, mg "LEAST_MOST" = some (.int 3 t)
  c_GREATEST_MOST : ∃ t, mg "GREATEST_MOST" = some (.int 16 t)
  c_LEAF : ∃ t, mg "LEAF" = some (.str "leaf" t)
  c_BRANCH : ∃ t, mg "BRANCH" = some (.str "branch" t)
  al_has_pages : mg "has_pages" = some (.ref (ad 14))
  e_EMPTY : ConC K mg "EMPTY" (.tup [.str "leaf", .tup []])
/-! ### the defs -/
noncomputable def m_is_integer : List D → AH → Res D := mFun 1 (mRet (mAndV (mCall fIsi (mCons (mVar 0) (mCons (mK (.ty "int")) (mNil)))) (mNotV (mCall fIsi (mCons (mVar 0) (mCons (mK (.ty "bool"))
    (mNil)))))))
theorem w_is_integer {P : Program} {w : World} {K : PySem.W.Frag} {mg : Str → Option Value} {base : Heap} {ad : Nat → Addr} {fd : Nat → FuncData} {tb : Nat → Addr × Addr} (T : Tx P w K mg ad fd tb) :
    FnD P w K mg base 1 (ad 0) (fd 0) ["value"] (m_is_integer) :=
  have nd := sc_is_integer.nd
FnD.of T.F_is_integer sc_is_integer fun cdv hcd A outer s H E hr gd tk hp => s_one (s_ret (d_andV (d_isi T.z_isinstance (a_cons (d_var 0) (a_cons (d_ty T.z_int PyProof.Rows.Boot.«int») (a_nil))))
    (d_one (d_notV (d_isi T.z_isinstance (a_cons (d_var 0) (a_cons (d_ty T.z_bool PyProof.Rows.Boot.«bool») (a_nil))))))))
noncomputable def m_is_text : List D → AH → Res D := mFun 1 (mRet (mCall fIsi (mCons (mVar 0) (mCons (mK (.ty "str")) (mNil)))))
theorem w_is_text {P : Program} {w : World} {K : PySem.W.Frag} {mg : Str → Option Value} {base : Heap} {ad : Nat → Addr} {fd : Nat → FuncData} {tb : Nat → Addr × Addr} (T : Tx P w K mg ad fd tb) :
    FnD P w K mg base 1 (ad 1) (fd 1) ["value"] (m_is_text) :=
  have nd := sc_is_text.nd
FnD.of T.F_is_text sc_is_text fun cdv hcd A outer s H E hr gd tk hp => s_one (s_ret (d_isi T.z_isinstance (a_cons (d_var 0) (a_cons (d_ty T.z_str PyProof.Rows.Boot.«str») (a_nil)))))
noncomputable def m_wrong_sign : List D → AH → Res D := mFun 5 (mSeq (mFor (mEnS (mCons (mVar 0) (mNil))) (.tp [.nm 3, .nm 4]) (mIfS (mOr (mTst (mOp (fEq false) (mVar 3) (mVar 2))) (mTst (mOp (fInC
    true) (mVar 4) (mVar 1)))) (mRet (mVar 3)) (mNext))) (mRet (mK .non)))
theorem w_wrong_sign {P : Program} {w : World} {K : PySem.W.Frag} {mg : Str → Option Value} {base : Heap} {ad : Nat → Addr} {fd : Nat → FuncData} {tb : Nat → Addr × Addr} (T : Tx P w K mg ad fd tb) :
    FnD P w K mg base 1 (ad 2) (fd 2) ["text", "signs", "most"] (m_wrong_sign) :=
  have nd := sc_wrong_sign.nd
FnD.of T.F_wrong_sign sc_wrong_sign fun cdv hcd A outer s H E hr gd tk hp => s_cons (s_for hp rfl (i_enS T.z_enumerate (a_cons (d_var 0) (a_nil))) (tg_tp (ts := [.nm 3, .nm 4]) rfl (tgs_cons (tg_nm (i
    := 3) nd) (tgs_cons (tg_nm (i := 4) nd) (tgs_nil)))) (s_one (s_if (PW.pt (w_or (t_eq hr.units (d_var 3) (d_var 2)) (w_or1 (t_ninC (d_var 4) (d_var 1))))) (s_one (s_ret (d_var 3))) (s_nil)))) (s_one
    (s_ret (d_non)))
noncomputable def m_key_fault (c_wrong_sign : List D → AH → Res D) (c_is_text : List D → AH → Res D) : List D → AH → Res D := mFun 1 (mSeq (mIfS (mOr (mNot (mTst (mCallF 1 c_is_text (mCons (mVar 0)
    (mNil))))) (mTst (mOp (fEq false) (mVar 0) (mK (.str ""))))) (mRet (mNeg (mK (.int 1)))) (mNext)) (mRet (mCallF 3 c_wrong_sign (mCons (mVar 0) (mCons (mK (.str
    "0123456789_abcdefghijklmnopqrstuvwxyz")) (mCons (mK (.int 16)) (mNil)))))))
theorem w_key_fault {P : Program} {w : World} {K : PySem.W.Frag} {mg : Str → Option Value} {base : Heap} {ad : Nat → Addr} {fd : Nat → FuncData} {tb : Nat → Addr × Addr} (T : Tx P w K mg ad fd tb)
    {c_wrong_sign : List D → AH → Res D} (G_wrong_sign : FnD P w K mg base 1 (ad 2) (fd 2) ["text", "signs", "most"] c_wrong_sign) {c_is_text : List D → AH → Res D} (G_is_text : FnD P w K mg base 1 (ad
    1) (fd 1) ["value"] c_is_text) :
    FnD P w K mg base 2 (ad 3) (fd 3) ["value"] (m_key_fault c_wrong_sign c_is_text) :=
  have nd := sc_key_fault.nd
FnD.of T.F_key_fault sc_key_fault fun cdv hcd A outer s H E hr gd tk hp => s_cons (s_if (PW.pt (w_or (t_not (t_val (d_call G_is_text (hr.mono (by decide)) gd tk T.g_is_text T.F_is_text.kp T.b_is_text
    (a_cons (d_var 0) (a_nil))))) (w_or1 (t_eq hr.units (d_var 0) (d_str))))) (s_one (s_ret (d_neg (d_int)))) (s_nil)) (s_one (s_ret (d_call G_wrong_sign (hr.mono (by decide)) gd tk T.g_wrong_sign
    T.F_wrong_sign.kp T.b_wrong_sign (a_cons (d_var 0) (a_cons (d_gstr T.c_KEY_SIGNS) (a_cons (d_gint T.c_LONGEST_KEY.choose_spec) (a_nil)))))))
noncomputable def m_is_key (c_key_fault : List D → AH → Res D) : List D → AH → Res D := mFun 1 (mRet (mOp (fIsN false) (mCallF 1 c_key_fault (mCons (mVar 0) (mNil))) (mK .non)))
theorem w_is_key {P : Program} {w : World} {K : PySem.W.Frag} {mg : Str → Option Value} {base : Heap} {ad : Nat → Addr} {fd : Nat → FuncData} {tb : Nat → Addr × Addr} (T : Tx P w K mg ad fd tb)
    {c_key_fault : List D → AH → Res D} (G_key_fault : FnD P w K mg base 2 (ad 3) (fd 3) ["value"] c_key_fault) :
    FnD P w K mg base 3 (ad 4) (fd 4) ["value"] (m_is_key c_key_fault) :=
  have nd := sc_is_key.nd
FnD.of T.F_is_key sc_is_key fun cdv hcd A outer s H E hr gd tk hp => s_one (s_ret (d_is (d_call G_key_fault (hr.mono (by decide)) gd tk T.g_key_fault T.F_key_fault.kp T.b_key_fault (a_cons (d_var 0)
    (a_nil))) (d_non)))
noncomputable def m_need_key (c_key_fault : List D → AH → Res D) : List D → AH → Res D := mFun 2 (mSeq (mSet 1 (mCallF 1 c_key_fault (mCons (mVar 0) (mNil)))) (mIfS (mTst (mOp (fIsN true) (mVar 1) (mK
    .non))) (mRaise "InvalidKey" "at" (mVar 1)) (mNext)))
theorem w_need_key {P : Program} {w : World} {K : PySem.W.Frag} {mg : Str → Option Value} {base : Heap} {ad : Nat → Addr} {fd : Nat → FuncData} {tb : Nat → Addr × Addr} (T : Tx P w K mg ad fd tb)
    {c_key_fault : List D → AH → Res D} (G_key_fault : FnD P w K mg base 2 (ad 3) (fd 3) ["value"] c_key_fault) :
    FnD P w K mg base 3 (ad 5) (fd 5) ["value"] (m_need_key c_key_fault) :=
  have nd := sc_need_key.nd
FnD.of T.F_need_key sc_need_key fun cdv hcd A outer s H E hr gd tk hp => s_cons (s_set (i := 1) nd (d_call G_key_fault (hr.mono (by decide)) gd tk T.g_key_fault T.F_key_fault.kp T.b_key_fault (a_cons
    (d_var 0) (a_nil)))) (s_one (s_if (t_isnt (d_var 1) (d_non)) (s_one (s_raise rfl tk T.E_InvalidKey (hr.mono (by decide)) T.g_InvalidKey T.K_InvalidKey.nm T.K_InvalidKey.kp T.K_InvalidKey.ec.hs
    T.K_InvalidKey.ty T.z_super (d_var 1))) (s_nil)))
noncomputable def m_need_most (c_is_integer : List D → AH → Res D) : List D → AH → Res D := mFun 1 (mIfS (mOr (mNot (mTst (mCallF 1 c_is_integer (mCons (mVar 0) (mNil))))) (mNot (mTst (mChn fLe fLe (mK
    (.int 3)) (mVar 0) (mK (.int 16)))))) (mRaise "InvalidSize" "word" (mK (.str "most"))) (mNext))
theorem w_need_most {P : Program} {w : World} {K : PySem.W.Frag} {mg : Str → Option Value} {base : Heap} {ad : Nat → Addr} {fd : Nat → FuncData} {tb : Nat → Addr × Addr} (T : Tx P w K mg ad fd tb)
    {c_is_integer : List D → AH → Res D} (G_is_integer : FnD P w K mg base 1 (ad 0) (fd 0) ["value"] c_is_integer) :
    FnD P w K mg base 2 (ad 6) (fd 6) ["most"] (m_need_most c_is_integer) :=
  have nd := sc_need_most.nd
FnD.of T.F_need_most sc_need_most fun cdv hcd A outer s H E hr gd tk hp => s_one (s_if (PW.pt (w_or (t_not (t_val (d_call G_is_integer (hr.mono (by decide)) gd tk T.g_is_integer T.F_is_integer.kp
    T.b_is_integer (a_cons (d_var 0) (a_nil))))) (w_or1 (t_not (t_chn op_le op_le fCmp_ok fCmp_ok (d_gint T.c_LEAST_MOST.choose_spec) (d_var 0) (d_gint T.c_GREATEST_MOST.choose_spec)))))) (s_one
    (s_raise rfl tk T.E_InvalidSize (hr.mono (by decide)) T.g_InvalidSize T.K_InvalidSize.nm T.K_InvalidSize.kp T.K_InvalidSize.ec.hs T.K_InvalidSize.ty T.z_super (d_str))) (s_nil))
noncomputable def m_half_of (c_need_most : List D → AH → Res D) : List D → AH → Res D := mFun 1 (mSeq (mDrop (mCallF 1 c_need_most (mCons (mVar 0) (mNil)))) (mRet (mOp fDiv (mOp fAdd (mVar 0) (mK (.int
    1))) (mK (.int 2)))))
theorem w_half_of {P : Program} {w : World} {K : PySem.W.Frag} {mg : Str → Option Value} {base : Heap} {ad : Nat → Addr} {fd : Nat → FuncData} {tb : Nat → Addr × Addr} (T : Tx P w K mg ad fd tb)
    {c_need_most : List D → AH → Res D} (G_need_most : FnD P w K mg base 2 (ad 6) (fd 6) ["most"] c_need_most) :
    FnD P w K mg base 3 (ad 7) (fd 7) ["most"] (m_half_of c_need_most) :=
  have nd := sc_half_of.nd
FnD.of T.F_half_of sc_half_of fun cdv hcd A outer s H E hr gd tk hp => s_cons (s_expr (d_call G_need_most (hr.mono (by decide)) gd tk T.g_need_most T.F_need_most.kp T.b_need_most (a_cons (d_var 0)
    (a_nil)))) (s_one (s_ret (d_div (d_add (d_var 0) (d_int)) (d_int))))
noncomputable def m_is_leaf : List D → AH → Res D := mFun 1 (mRet (mOp (fEq false) (mOp fIx (mVar 0) (mK (.int 0))) (mK (.str "leaf"))))
theorem w_is_leaf {P : Program} {w : World} {K : PySem.W.Frag} {mg : Str → Option Value} {base : Heap} {ad : Nat → Addr} {fd : Nat → FuncData} {tb : Nat → Addr × Addr} (T : Tx P w K mg ad fd tb) :
    FnD P w K mg base 1 (ad 8) (fd 8) ["page"] (m_is_leaf) :=
  have nd := sc_is_leaf.nd
FnD.of T.F_is_leaf sc_is_leaf fun cdv hcd A outer s H E hr gd tk hp => s_one (s_ret (d_eq hr.units (d_ix (d_var 0) (d_int)) (d_gstr T.c_LEAF)))
noncomputable def m_things_on : List D → AH → Res D := mFun 1 (mRet (mOp fIx (mVar 0) (mNeg (mK (.int 1)))))
theorem w_things_on {P : Program} {w : World} {K : PySem.W.Frag} {mg : Str → Option Value} {base : Heap} {ad : Nat → Addr} {fd : Nat → FuncData} {tb : Nat → Addr × Addr} (T : Tx P w K mg ad fd tb) :
    FnD P w K mg base 1 (ad 9) (fd 9) ["page"] (m_things_on) :=
  have nd := sc_things_on.nd
FnD.of T.F_things_on sc_things_on fun cdv hcd A outer s H E hr gd tk hp => s_one (s_ret (d_ix (d_var 0) (d_neg (d_int))))
noncomputable def m_child_number : List D → AH → Res D := mFun 5 (mSeq (mPar2 2 3 (mCons (mK (.int 0)) (mCons (mCall fLen (mCons (mVar 0) (mNil))) (mNil)))) (mSeq (mWhile (mTst (mOp fLt (mVar 2) (mVar
    3))) (mSeq (mSet 4 (mOp fDiv (mOp fAdd (mVar 2) (mVar 3)) (mK (.int 2)))) (mIfS (mTst (mOp fLeX (mOp fIx (mVar 0) (mVar 4)) (mVar 1))) (mSet 2 (mOp fAdd (mVar 4) (mK (.int 1)))) (mSet 3 (mVar
    4))))) (mRet (mVar 2))))
theorem w_child_number {P : Program} {w : World} {K : PySem.W.Frag} {mg : Str → Option Value} {base : Heap} {ad : Nat → Addr} {fd : Nat → FuncData} {tb : Nat → Addr × Addr} (T : Tx P w K mg ad fd tb) :
    FnD P w K mg base 1 (ad 10) (fd 10) ["keys", "key"] (m_child_number) :=
  have nd := sc_child_number.nd
FnD.of T.F_child_number sc_child_number fun cdv hcd A outer s H E hr gd tk hp => s_cons (s_par2 (i := 2) (j := 3) rfl nd rfl rfl (by decide) rfl rfl (a_cons (d_int) (a_cons (d_len T.z_len (a_cons
    (d_var 0) (a_nil))) (a_nil))) (by rfl)) (s_cons (s_while hp (t_lt (d_var 2) (d_var 3)) (s_cons (s_set (i := 4) nd (d_div (d_add (d_var 2) (d_var 3)) (d_int))) (s_one (s_if (t_leX (d_ix (d_var 0)
    (d_var 4)) (d_var 1)) (s_one (s_set (i := 2) nd (d_add (d_var 4) (d_int)))) (s_one (s_set (i := 3) nd (d_var 4))))))) (s_one (s_ret (d_var 2))))
noncomputable def m_entry_number : List D → AH → Res D := mFun 5 (mSeq (mPar2 2 3 (mCons (mK (.int 0)) (mCons (mCall fLen (mCons (mVar 0) (mNil))) (mNil)))) (mSeq (mWhile (mTst (mOp fLt (mVar 2) (mVar
    3))) (mSeq (mSet 4 (mOp fDiv (mOp fAdd (mVar 2) (mVar 3)) (mK (.int 2)))) (mIfS (mTst (mOp fLtX (mOp fIx (mOp fIx (mVar 0) (mVar 4)) (mK (.int 0))) (mVar 1))) (mSet 2 (mOp fAdd (mVar 4) (mK (.int
    1)))) (mSet 3 (mVar 4))))) (mRet (mVar 2))))
theorem w_entry_number {P : Program} {w : World} {K : PySem.W.Frag} {mg : Str → Option Value} {base : Heap} {ad : Nat → Addr} {fd : Nat → FuncData} {tb : Nat → Addr × Addr} (T : Tx P w K mg ad fd tb) :
    FnD P w K mg base 1 (ad 11) (fd 11) ["entries", "key"] (m_entry_number) :=
  have nd := sc_entry_number.nd
FnD.of T.F_entry_number sc_entry_number fun cdv hcd A outer s H E hr gd tk hp => s_cons (s_par2 (i := 2) (j := 3) rfl nd rfl rfl (by decide) rfl rfl (a_cons (d_int) (a_cons (d_len T.z_len (a_cons
    (d_var 0) (a_nil))) (a_nil))) (by rfl)) (s_cons (s_while hp (t_lt (d_var 2) (d_var 3)) (s_cons (s_set (i := 4) nd (d_div (d_add (d_var 2) (d_var 3)) (d_int))) (s_one (s_if (t_ltX (d_ix (d_ix (d_var
    0) (d_var 4)) (d_int)) (d_var 1)) (s_one (s_set (i := 2) nd (d_add (d_var 4) (d_int)))) (s_one (s_set (i := 3) nd (d_var 4))))))) (s_one (s_ret (d_var 2))))
noncomputable def m_leaf_for (c_is_leaf : List D → AH → Res D) (c_child_number : List D → AH → Res D) : List D → AH → Res D := mFun 2 (mSeq (mWhile (mNot (mTst (mCallF 1 c_is_leaf (mCons (mVar 0)
    (mNil))))) (mSet 0 (mOp fIx (mOp fIx (mVar 0) (mK (.int 2))) (mCallF 2 c_child_number (mCons (mOp fIx (mVar 0) (mK (.int 1))) (mCons (mVar 1) (mNil))))))) (mRet (mVar 0)))
theorem w_leaf_for {P : Program} {w : World} {K : PySem.W.Frag} {mg : Str → Option Value} {base : Heap} {ad : Nat → Addr} {fd : Nat → FuncData} {tb : Nat → Addr × Addr} (T : Tx P w K mg ad fd tb)
    {c_is_leaf : List D → AH → Res D} (G_is_leaf : FnD P w K mg base 1 (ad 8) (fd 8) ["page"] c_is_leaf) {c_child_number : List D → AH → Res D} (G_child_number : FnD P w K mg base 1 (ad 10) (fd 10)
    ["keys", "key"] c_child_number) :
    FnD P w K mg base 2 (ad 12) (fd 12) ["page", "key"] (m_leaf_for c_is_leaf c_child_number) :=
  have nd := sc_leaf_for.nd
FnD.of T.F_leaf_for sc_leaf_for fun cdv hcd A outer s H E hr gd tk hp => s_cons (s_while hp (t_not (t_val (d_call G_is_leaf (hr.mono (by decide)) gd tk T.g_is_leaf T.F_is_leaf.kp T.b_is_leaf (a_cons
    (d_var 0) (a_nil))))) (s_one (s_set (i := 0) nd (d_ix (d_ix (d_var 0) (d_int)) (d_call G_child_number (hr.mono (by decide)) gd tk T.g_child_number T.F_child_number.kp T.b_child_number (a_cons (d_ix
    (d_var 0) (d_int)) (a_cons (d_var 1) (a_nil)))))))) (s_one (s_ret (d_var 0)))
noncomputable def m_entry_of (c_entry_number : List D → AH → Res D) (c_leaf_for : List D → AH → Res D) : List D → AH → Res D := mFun 4 (mSeq (mSet 2 (mOp fIx (mCallF 2 c_leaf_for (mCons (mVar 0) (mCons
    (mVar 1) (mNil)))) (mK (.int 1)))) (mSeq (mSet 3 (mCallF 2 c_entry_number (mCons (mVar 2) (mCons (mVar 1) (mNil))))) (mRet (mIf (mAnd (mTst (mOp fLt (mVar 3) (mCall fLen (mCons (mVar 2) (mNil)))))
    (mTst (mOp (fEq false) (mOp fIx (mOp fIx (mVar 2) (mVar 3)) (mK (.int 0))) (mVar 1)))) (mOp fIx (mVar 2) (mVar 3)) (mK .non)))))
theorem w_entry_of {P : Program} {w : World} {K : PySem.W.Frag} {mg : Str → Option Value} {base : Heap} {ad : Nat → Addr} {fd : Nat → FuncData} {tb : Nat → Addr × Addr} (T : Tx P w K mg ad fd tb)
    {c_entry_number : List D → AH → Res D} (G_entry_number : FnD P w K mg base 1 (ad 11) (fd 11) ["entries", "key"] c_entry_number) {c_leaf_for : List D → AH → Res D} (G_leaf_for : FnD P w K mg base 2
    (ad 12) (fd 12) ["page", "key"] c_leaf_for) :
    FnD P w K mg base 3 (ad 13) (fd 13) ["page", "key"] (m_entry_of c_entry_number c_leaf_for) :=
  have nd := sc_entry_of.nd
FnD.of T.F_entry_of sc_entry_of fun cdv hcd A outer s H E hr gd tk hp => s_cons (s_set (i := 2) nd (d_ix (d_call G_leaf_for (hr.mono (by decide)) gd tk T.g_leaf_for T.F_leaf_for.kp T.b_leaf_for (a_cons
    (d_var 0) (a_cons (d_var 1) (a_nil)))) (d_int))) (s_cons (s_set (i := 3) nd (d_call G_entry_number (hr.mono (by decide)) gd tk T.g_entry_number T.F_entry_number.kp T.b_entry_number (a_cons (d_var
    2) (a_cons (d_var 1) (a_nil))))) (s_one (s_ret (d_if (PW.pt (w_and (t_lt (d_var 3) (d_len T.z_len (a_cons (d_var 2) (a_nil)))) (w_and1 (t_eq hr.units (d_ix (d_ix (d_var 2) (d_var 3)) (d_int))
    (d_var 1))))) (d_ix (d_var 2) (d_var 3)) (d_non)))))
noncomputable def m_has (c_entry_of : List D → AH → Res D) : List D → AH → Res D := mFun 2 (mRet (mOp (fIsN true) (mCallF 2 c_entry_of (mCons (mVar 0) (mCons (mVar 1) (mNil)))) (mK .non)))
theorem w_has {P : Program} {w : World} {K : PySem.W.Frag} {mg : Str → Option Value} {base : Heap} {ad : Nat → Addr} {fd : Nat → FuncData} {tb : Nat → Addr × Addr} (T : Tx P w K mg ad fd tb)
    {c_entry_of : List D → AH → Res D} (G_entry_of : FnD P w K mg base 3 (ad 13) (fd 13) ["page", "key"] c_entry_of) :
    FnD P w K mg base 4 (ad 14) (fd 14) ["page", "key"] (m_has c_entry_of) :=
  have nd := sc_has.nd
FnD.of T.F_has sc_has fun cdv hcd A outer s H E hr gd tk hp => s_one (s_ret (d_isnt (d_call G_entry_of (hr.mono (by decide)) gd tk T.g_entry_of T.F_entry_of.kp T.b_entry_of (a_cons (d_var 0) (a_cons
    (d_var 1) (a_nil)))) (d_non)))
noncomputable def m_packed_leaf : List D → AH → Res D := mFun 3 (mSeq (mIfS (mTst (mOp fLe (mCall fLen (mCons (mVar 1) (mNil))) (mVar 0))) (mRet (mTup (mCons (mLst (mCons (mTup (mCons (mK (.str
    "leaf")) (mCons (mVar 1) (mNil)))) (mNil))) (mCons (mLst (mNil)) (mNil))))) (mNext)) (mSeq (mSet 2 (mOp fDiv (mCall fLen (mCons (mVar 1) (mNil))) (mK (.int 2)))) (mRet (mTup (mCons (mLst (mCons
    (mTup (mCons (mK (.str "leaf")) (mCons (mSl (mVar 1) (mNone) (mSome (mVar 2))) (mNil)))) (mCons (mTup (mCons (mK (.str "leaf")) (mCons (mSl (mVar 1) (mSome (mVar 2)) (mNone)) (mNil)))) (mNil))))
    (mCons (mLst (mCons (mOp fIx (mOp fIx (mVar 1) (mVar 2)) (mK (.int 0))) (mNil))) (mNil)))))))
theorem w_packed_leaf {P : Program} {w : World} {K : PySem.W.Frag} {mg : Str → Option Value} {base : Heap} {ad : Nat → Addr} {fd : Nat → FuncData} {tb : Nat → Addr × Addr} (T : Tx P w K mg ad fd tb) :
    FnD P w K mg base 1 (ad 15) (fd 15) ["most", "row"] (m_packed_leaf) :=
  have nd := sc_packed_leaf.nd
FnD.of T.F_packed_leaf sc_packed_leaf fun cdv hcd A outer s H E hr gd tk hp => s_cons (s_if (t_le (d_len T.z_len (a_cons (d_var 1) (a_nil))) (d_var 0)) (s_one (s_ret (d_tup (a_cons (d_lst (a_cons
    (d_tup (a_cons (d_gstr T.c_LEAF) (a_cons (d_var 1) (a_nil)))) (a_nil))) (a_cons (d_lst (a_nil)) (a_nil)))))) (s_nil)) (s_cons (s_set (i := 2) nd (d_div (d_len T.z_len (a_cons (d_var 1) (a_nil)))
    (d_int))) (s_one (s_ret (d_tup (a_cons (d_lst (a_cons (d_tup (a_cons (d_gstr T.c_LEAF) (a_cons (d_sl (d_var 1) (o_none) (o_some (d_var 2))) (a_nil)))) (a_cons (d_tup (a_cons (d_gstr T.c_LEAF)
    (a_cons (d_sl (d_var 1) (o_some (d_var 2)) (o_none)) (a_nil)))) (a_nil)))) (a_cons (d_lst (a_cons (d_ix (d_ix (d_var 1) (d_var 2)) (d_int)) (a_nil))) (a_nil)))))))
noncomputable def m_packed_branch : List D → AH → Res D := mFun 4 (mSeq (mIfS (mTst (mOp fLe (mCall fLen (mCons (mVar 2) (mNil))) (mVar 0))) (mRet (mTup (mCons (mLst (mCons (mTup (mCons (mK (.str
    "branch")) (mCons (mVar 1) (mCons (mVar 2) (mNil))))) (mNil))) (mCons (mLst (mNil)) (mNil))))) (mNext)) (mSeq (mSet 3 (mOp fDiv (mCall fLen (mCons (mVar 2) (mNil))) (mK (.int 2)))) (mRet (mTup
    (mCons (mLst (mCons (mTup (mCons (mK (.str "branch")) (mCons (mSl (mVar 1) (mNone) (mSome (mOp fSub (mVar 3) (mK (.int 1))))) (mCons (mSl (mVar 2) (mNone) (mSome (mVar 3))) (mNil))))) (mCons (mTup
    (mCons (mK (.str "branch")) (mCons (mSl (mVar 1) (mSome (mVar 3)) (mNone)) (mCons (mSl (mVar 2) (mSome (mVar 3)) (mNone)) (mNil))))) (mNil)))) (mCons (mLst (mCons (mOp fIx (mVar 1) (mOp fSub (mVar
    3) (mK (.int 1)))) (mNil))) (mNil)))))))
theorem w_packed_branch {P : Program} {w : World} {K : PySem.W.Frag} {mg : Str → Option Value} {base : Heap} {ad : Nat → Addr} {fd : Nat → FuncData} {tb : Nat → Addr × Addr} (T : Tx P w K mg ad fd tb)
    :
    FnD P w K mg base 1 (ad 16) (fd 16) ["most", "keys", "pages"] (m_packed_branch) :=
  have nd := sc_packed_branch.nd
FnD.of T.F_packed_branch sc_packed_branch fun cdv hcd A outer s H E hr gd tk hp => s_cons (s_if (t_le (d_len T.z_len (a_cons (d_var 2) (a_nil))) (d_var 0)) (s_one (s_ret (d_tup (a_cons (d_lst (a_cons
    (d_tup (a_cons (d_gstr T.c_BRANCH) (a_cons (d_var 1) (a_cons (d_var 2) (a_nil))))) (a_nil))) (a_cons (d_lst (a_nil)) (a_nil)))))) (s_nil)) (s_cons (s_set (i := 3) nd (d_div (d_len T.z_len (a_cons
    (d_var 2) (a_nil))) (d_int))) (s_one (s_ret (d_tup (a_cons (d_lst (a_cons (d_tup (a_cons (d_gstr T.c_BRANCH) (a_cons (d_sl (d_var 1) (o_none) (o_some (d_sub (d_var 3) (d_int)))) (a_cons (d_sl
    (d_var 2) (o_none) (o_some (d_var 3))) (a_nil))))) (a_cons (d_tup (a_cons (d_gstr T.c_BRANCH) (a_cons (d_sl (d_var 1) (o_some (d_var 3)) (o_none)) (a_cons (d_sl (d_var 2) (o_some (d_var 3))
    (o_none)) (a_nil))))) (a_nil)))) (a_cons (d_lst (a_cons (d_ix (d_var 1) (d_sub (d_var 3) (d_int))) (a_nil))) (a_nil)))))))
noncomputable def m_root_of (c_is_leaf : List D → AH → Res D) : List D → AH → Res D := mFun 4 (mSeq (mAsg (.tp [.nm 1, .nm 2]) (mVar 0)) (mSeq (mSet 3 (mIf (mTst (mOp (fEq false) (mCall fLen (mCons
    (mVar 1) (mNil))) (mK (.int 1)))) (mOp fIx (mVar 1) (mK (.int 0))) (mTup (mCons (mK (.str "branch")) (mCons (mCall fTup (mCons (mVar 2) (mNil))) (mCons (mCall fTup (mCons (mVar 1) (mNil)))
    (mNil))))))) (mRet (mIf (mAnd (mNot (mTst (mCallF 1 c_is_leaf (mCons (mVar 3) (mNil))))) (mTst (mOp (fEq false) (mCall fLen (mCons (mOp fIx (mVar 3) (mK (.int 2))) (mNil))) (mK (.int 1))))) (mOp
    fIx (mOp fIx (mVar 3) (mK (.int 2))) (mK (.int 0))) (mVar 3)))))
theorem w_root_of {P : Program} {w : World} {K : PySem.W.Frag} {mg : Str → Option Value} {base : Heap} {ad : Nat → Addr} {fd : Nat → FuncData} {tb : Nat → Addr × Addr} (T : Tx P w K mg ad fd tb)
    {c_is_leaf : List D → AH → Res D} (G_is_leaf : FnD P w K mg base 1 (ad 8) (fd 8) ["page"] c_is_leaf) :
    FnD P w K mg base 2 (ad 17) (fd 17) ["pieces"] (m_root_of c_is_leaf) :=
  have nd := sc_root_of.nd
FnD.of T.F_root_of sc_root_of fun cdv hcd A outer s H E hr gd tk hp => s_cons (s_asg (t := .tp [.nm 1, .nm 2]) (d_var 0) (tg_tp (ts := [.nm 1, .nm 2]) rfl (tgs_cons (tg_nm (i := 1) nd) (tgs_cons (tg_nm
    (i := 2) nd) (tgs_nil))))) (s_cons (s_set (i := 3) nd (d_if (t_eq hr.units (d_len T.z_len (a_cons (d_var 1) (a_nil))) (d_int)) (d_ix (d_var 1) (d_int)) (d_tup (a_cons (d_gstr T.c_BRANCH) (a_cons
    (d_tuple T.z_tuple (a_cons (d_var 2) (a_nil))) (a_cons (d_tuple T.z_tuple (a_cons (d_var 1) (a_nil))) (a_nil))))))) (s_one (s_ret (d_if (PW.pt (w_and (t_not (t_val (d_call G_is_leaf (hr.mono
    (by decide)) gd tk T.g_is_leaf T.F_is_leaf.kp T.b_is_leaf (a_cons (d_var 3) (a_nil))))) (w_and1 (t_eq hr.units (d_len T.z_len (a_cons (d_ix (d_var 3) (d_int)) (a_nil))) (d_int))))) (d_ix (d_ix
    (d_var 3) (d_int)) (d_int)) (d_var 3)))))
noncomputable def m_spliced (c_packed_branch : List D → AH → Res D) : List D → AH → Res D := mFun 7 (mSeq (mSet 5 (mOp fAdd (mOp fAdd (mSl (mOp fIx (mVar 1) (mK (.int 2))) (mNone) (mSome (mVar 2)))
    (mCall fTup (mCons (mOp fIx (mVar 4) (mK (.int 0))) (mNil)))) (mSl (mOp fIx (mVar 1) (mK (.int 2))) (mSome (mVar 3)) (mNone)))) (mSeq (mSet 6 (mOp fAdd (mOp fAdd (mSl (mOp fIx (mVar 1) (mK (.int
    1))) (mNone) (mSome (mVar 2))) (mCall fTup (mCons (mOp fIx (mVar 4) (mK (.int 1))) (mNil)))) (mSl (mOp fIx (mVar 1) (mK (.int 1))) (mSome (mOp fSub (mVar 3) (mK (.int 1)))) (mNone)))) (mRet (mCallF
    3 c_packed_branch (mCons (mVar 0) (mCons (mVar 6) (mCons (mVar 5) (mNil))))))))
theorem w_spliced {P : Program} {w : World} {K : PySem.W.Frag} {mg : Str → Option Value} {base : Heap} {ad : Nat → Addr} {fd : Nat → FuncData} {tb : Nat → Addr × Addr} (T : Tx P w K mg ad fd tb)
    {c_packed_branch : List D → AH → Res D} (G_packed_branch : FnD P w K mg base 1 (ad 16) (fd 16) ["most", "keys", "pages"] c_packed_branch) :
    FnD P w K mg base 2 (ad 18) (fd 18) ["most", "page", "begin", "end", "pieces"] (m_spliced c_packed_branch) :=
  have nd := sc_spliced.nd
FnD.of T.F_spliced sc_spliced fun cdv hcd A outer s H E hr gd tk hp => s_cons (s_set (i := 5) nd (d_add (d_add (d_sl (d_ix (d_var 1) (d_int)) (o_none) (o_some (d_var 2))) (d_tuple T.z_tuple (a_cons
    (d_ix (d_var 4) (d_int)) (a_nil)))) (d_sl (d_ix (d_var 1) (d_int)) (o_some (d_var 3)) (o_none)))) (s_cons (s_set (i := 6) nd (d_add (d_add (d_sl (d_ix (d_var 1) (d_int)) (o_none) (o_some (d_var
    2))) (d_tuple T.z_tuple (a_cons (d_ix (d_var 4) (d_int)) (a_nil)))) (d_sl (d_ix (d_var 1) (d_int)) (o_some (d_sub (d_var 3) (d_int))) (o_none)))) (s_one (s_ret (d_call G_packed_branch (hr.mono
    (by decide)) gd tk T.g_packed_branch T.F_packed_branch.kp T.b_packed_branch (a_cons (d_var 0) (a_cons (d_var 6) (a_cons (d_var 5) (a_nil))))))))
noncomputable def m_fused (c_is_leaf : List D → AH → Res D) (c_packed_branch : List D → AH → Res D) (c_packed_leaf : List D → AH → Res D) : List D → AH → Res D := mFun 4 (mSeq (mIfS (mTst (mCallF 1
    c_is_leaf (mCons (mVar 1) (mNil)))) (mRet (mCallF 2 c_packed_leaf (mCons (mVar 0) (mCons (mOp fAdd (mOp fIx (mVar 1) (mK (.int 1))) (mOp fIx (mVar 3) (mK (.int 1)))) (mNil))))) (mNext)) (mRet
    (mCallF 3 c_packed_branch (mCons (mVar 0) (mCons (mOp fAdd (mOp fAdd (mOp fIx (mVar 1) (mK (.int 1))) (mTup (mCons (mVar 2) (mNil)))) (mOp fIx (mVar 3) (mK (.int 1)))) (mCons (mOp fAdd (mOp fIx
    (mVar 1) (mK (.int 2))) (mOp fIx (mVar 3) (mK (.int 2)))) (mNil)))))))
theorem w_fused {P : Program} {w : World} {K : PySem.W.Frag} {mg : Str → Option Value} {base : Heap} {ad : Nat → Addr} {fd : Nat → FuncData} {tb : Nat → Addr × Addr} (T : Tx P w K mg ad fd tb)
    {c_is_leaf : List D → AH → Res D} (G_is_leaf : FnD P w K mg base 1 (ad 8) (fd 8) ["page"] c_is_leaf) {c_packed_branch : List D → AH → Res D} (G_packed_branch : FnD P w K mg base 1 (ad 16) (fd 16)
    ["most", "keys", "pages"] c_packed_branch) {c_packed_leaf : List D → AH → Res D} (G_packed_leaf : FnD P w K mg base 1 (ad 15) (fd 15) ["most", "row"] c_packed_leaf) :
    FnD P w K mg base 2 (ad 19) (fd 19) ["most", "left", "key", "right"] (m_fused c_is_leaf c_packed_branch c_packed_leaf) :=
  have nd := sc_fused.nd
FnD.of T.F_fused sc_fused fun cdv hcd A outer s H E hr gd tk hp => s_cons (s_if (t_val (d_call G_is_leaf (hr.mono (by decide)) gd tk T.g_is_leaf T.F_is_leaf.kp T.b_is_leaf (a_cons (d_var 1) (a_nil))))
    (s_one (s_ret (d_call G_packed_leaf (hr.mono (by decide)) gd tk T.g_packed_leaf T.F_packed_leaf.kp T.b_packed_leaf (a_cons (d_var 0) (a_cons (d_add (d_ix (d_var 1) (d_int)) (d_ix (d_var 3)
    (d_int))) (a_nil)))))) (s_nil)) (s_one (s_ret (d_call G_packed_branch (hr.mono (by decide)) gd tk T.g_packed_branch T.F_packed_branch.kp T.b_packed_branch (a_cons (d_var 0) (a_cons (d_add (d_add
    (d_ix (d_var 1) (d_int)) (d_tup (a_cons (d_var 2) (a_nil)))) (d_ix (d_var 3) (d_int))) (a_cons (d_add (d_ix (d_var 1) (d_int)) (d_ix (d_var 3) (d_int))) (a_nil)))))))
noncomputable def m_put_pieces (c_is_leaf : List D → AH → Res D) (c_child_number : List D → AH → Res D) (c_spliced : List D → AH → Res D) (c_entry_number : List D → AH → Res D) (c_packed_leaf : List D
    → AH → Res D) (c_put_pieces : List D → AH → Res D) : List D → AH → Res D := mFun 7 (mSeq (mIfS (mTst (mCallF 1 c_is_leaf (mCons (mVar 1) (mNil)))) (mSeq (mSet 5 (mOp fIx (mVar 1) (mK (.int 1))))
    (mSeq (mSet 4 (mCallF 2 c_entry_number (mCons (mVar 5) (mCons (mVar 2) (mNil))))) (mSeq (mSet 6 (mIf (mAnd (mTst (mOp fLt (mVar 4) (mCall fLen (mCons (mVar 5) (mNil))))) (mTst (mOp (fEq false) (mOp
    fIx (mOp fIx (mVar 5) (mVar 4)) (mK (.int 0))) (mVar 2)))) (mSl (mVar 5) (mSome (mOp fAdd (mVar 4) (mK (.int 1)))) (mNone)) (mSl (mVar 5) (mSome (mVar 4)) (mNone)))) (mRet (mCallF 2 c_packed_leaf
    (mCons (mVar 0) (mCons (mOp fAdd (mOp fAdd (mSl (mVar 5) (mNone) (mSome (mVar 4))) (mTup (mCons (mTup (mCons (mVar 2) (mCons (mVar 3) (mNil)))) (mNil)))) (mVar 6)) (mNil)))))))) (mNext)) (mSeq
    (mSet 4 (mCallF 2 c_child_number (mCons (mOp fIx (mVar 1) (mK (.int 1))) (mCons (mVar 2) (mNil))))) (mRet (mCallF 5 c_spliced (mCons (mVar 0) (mCons (mVar 1) (mCons (mVar 4) (mCons (mOp fAdd (mVar
    4) (mK (.int 1))) (mCons (mCallF 4 c_put_pieces (mCons (mVar 0) (mCons (mOp fIx (mOp fIx (mVar 1) (mK (.int 2))) (mVar 4)) (mCons (mVar 2) (mCons (mVar 3) (mNil)))))) (mNil))))))))))
noncomputable def r_put_pieces (c_is_leaf : List D → AH → Res D) (c_child_number : List D → AH → Res D) (c_spliced : List D → AH → Res D) (c_entry_number : List D → AH → Res D) (c_packed_leaf : List D
    → AH → Res D) : Nat → List D → AH → Res D
  | 0 => fun _ _ => .no
  | n + 1 => m_put_pieces c_is_leaf c_child_number c_spliced c_entry_number c_packed_leaf (r_put_pieces c_is_leaf c_child_number c_spliced c_entry_number c_packed_leaf n)
theorem ws_put_pieces {P : Program} {w : World} {K : PySem.W.Frag} {mg : Str → Option Value} {base : Heap} {ad : Nat → Addr} {fd : Nat → FuncData} {tb : Nat → Addr × Addr} (T : Tx P w K mg ad fd tb)
    {c_is_leaf : List D → AH → Res D} (G_is_leaf : FnD P w K mg base 1 (ad 8) (fd 8) ["page"] c_is_leaf) {c_child_number : List D → AH → Res D} (G_child_number : FnD P w K mg base 1 (ad 10) (fd 10)
    ["keys", "key"] c_child_number) {c_spliced : List D → AH → Res D} (G_spliced : FnD P w K mg base 2 (ad 18) (fd 18) ["most", "page", "begin", "end", "pieces"] c_spliced) {c_entry_number : List D →
    AH → Res D} (G_entry_number : FnD P w K mg base 1 (ad 11) (fd 11) ["entries", "key"] c_entry_number) {c_packed_leaf : List D → AH → Res D} (G_packed_leaf : FnD P w K mg base 1 (ad 15) (fd 15)
    ["most", "row"] c_packed_leaf) {j : Nat} {c_put_pieces : List D → AH → Res D} (G_put_pieces : FnD P w K mg base (2 + j) (ad 20) (fd 20) ["most", "page", "key", "thing"] c_put_pieces) :
    FnD P w K mg base (2 + j + 1) (ad 20) (fd 20) ["most", "page", "key", "thing"] (m_put_pieces c_is_leaf c_child_number c_spliced c_entry_number c_packed_leaf c_put_pieces) :=
  have nd := sc_put_pieces.nd
FnD.of T.F_put_pieces sc_put_pieces fun cdv hcd A outer s H E hr gd tk hp => s_cons (s_if (t_val (d_call G_is_leaf (hr.mono (by omega)) gd tk T.g_is_leaf T.F_is_leaf.kp T.b_is_leaf (a_cons (d_var 1)
    (a_nil)))) (s_cons (s_set (i := 5) nd (d_ix (d_var 1) (d_int))) (s_cons (s_set (i := 4) nd (d_call G_entry_number (hr.mono (by omega)) gd tk T.g_entry_number T.F_entry_number.kp T.b_entry_number
    (a_cons (d_var 5) (a_cons (d_var 2) (a_nil))))) (s_cons (s_set (i := 6) nd (d_if (PW.pt (w_and (t_lt (d_var 4) (d_len T.z_len (a_cons (d_var 5) (a_nil)))) (w_and1 (t_eq hr.units (d_ix (d_ix (d_var
    5) (d_var 4)) (d_int)) (d_var 2))))) (d_sl (d_var 5) (o_some (d_add (d_var 4) (d_int))) (o_none)) (d_sl (d_var 5) (o_some (d_var 4)) (o_none)))) (s_one (s_ret (d_call G_packed_leaf (hr.mono (by
    omega)) gd tk T.g_packed_leaf T.F_packed_leaf.kp T.b_packed_leaf (a_cons (d_var 0) (a_cons (d_add (d_add (d_sl (d_var 5) (o_none) (o_some (d_var 4))) (d_tup (a_cons (d_tup (a_cons (d_var 2) (a_cons
    (d_var 3) (a_nil)))) (a_nil)))) (d_var 6)) (a_nil))))))))) (s_nil)) (s_cons (s_set (i := 4) nd (d_call G_child_number (hr.mono (by omega)) gd tk T.g_child_number T.F_child_number.kp
    T.b_child_number (a_cons (d_ix (d_var 1) (d_int)) (a_cons (d_var 2) (a_nil))))) (s_one (s_ret (d_call G_spliced (hr.mono (by omega)) gd tk T.g_spliced T.F_spliced.kp T.b_spliced (a_cons (d_var 0)
    (a_cons (d_var 1) (a_cons (d_var 4) (a_cons (d_add (d_var 4) (d_int)) (a_cons (d_call G_put_pieces (hr.mono (by omega)) gd tk T.g_put_pieces T.F_put_pieces.kp T.b_put_pieces (a_cons (d_var 0)
    (a_cons (d_ix (d_ix (d_var 1) (d_int)) (d_var 4)) (a_cons (d_var 2) (a_cons (d_var 3) (a_nil)))))) (a_nil))))))))))
theorem wn_put_pieces {P : Program} {w : World} {K : PySem.W.Frag} {mg : Str → Option Value} {base : Heap} {ad : Nat → Addr} {fd : Nat → FuncData} {tb : Nat → Addr × Addr} (T : Tx P w K mg ad fd tb)
    {c_is_leaf : List D → AH → Res D} (G_is_leaf : FnD P w K mg base 1 (ad 8) (fd 8) ["page"] c_is_leaf) {c_child_number : List D → AH → Res D} (G_child_number : FnD P w K mg base 1 (ad 10) (fd 10)
    ["keys", "key"] c_child_number) {c_spliced : List D → AH → Res D} (G_spliced : FnD P w K mg base 2 (ad 18) (fd 18) ["most", "page", "begin", "end", "pieces"] c_spliced) {c_entry_number : List D →
    AH → Res D} (G_entry_number : FnD P w K mg base 1 (ad 11) (fd 11) ["entries", "key"] c_entry_number) {c_packed_leaf : List D → AH → Res D} (G_packed_leaf : FnD P w K mg base 1 (ad 15) (fd 15)
    ["most", "row"] c_packed_leaf) :
    ∀ n, FnD P w K mg base (2 + n) (ad 20) (fd 20) ["most", "page", "key", "thing"] (r_put_pieces c_is_leaf c_child_number c_spliced c_entry_number c_packed_leaf n)
  | 0 => FnD.none
  | n + 1 => ws_put_pieces T G_is_leaf G_child_number G_spliced G_entry_number G_packed_leaf (wn_put_pieces T G_is_leaf G_child_number G_spliced G_entry_number G_packed_leaf n)
theorem w_put_pieces {P : Program} {w : World} {K : PySem.W.Frag} {mg : Str → Option Value} {base : Heap} {ad : Nat → Addr} {fd : Nat → FuncData} {tb : Nat → Addr × Addr} (T : Tx P w K mg ad fd tb)
    {c_is_leaf : List D → AH → Res D} (G_is_leaf : FnD P w K mg base 1 (ad 8) (fd 8) ["page"] c_is_leaf) {c_child_number : List D → AH → Res D} (G_child_number : FnD P w K mg base 1 (ad 10) (fd 10)
    ["keys", "key"] c_child_number) {c_spliced : List D → AH → Res D} (G_spliced : FnD P w K mg base 2 (ad 18) (fd 18) ["most", "page", "begin", "end", "pieces"] c_spliced) {c_entry_number : List D →
    AH → Res D} (G_entry_number : FnD P w K mg base 1 (ad 11) (fd 11) ["entries", "key"] c_entry_number) {c_packed_leaf : List D → AH → Res D} (G_packed_leaf : FnD P w K mg base 1 (ad 15) (fd 15)
    ["most", "row"] c_packed_leaf) :
    FnD P w K mg base 11 (ad 20) (fd 20) ["most", "page", "key", "thing"] (r_put_pieces c_is_leaf c_child_number c_spliced c_entry_number c_packed_leaf 9) := wn_put_pieces T G_is_leaf G_child_number G_spliced G_entry_number G_packed_leaf 9
noncomputable def m_with_entry (c_root_of : List D → AH → Res D) (c_put_pieces : List D → AH → Res D) : List D → AH → Res D := mFun 4 (mRet (mCallF 1 c_root_of (mCons (mCallF 4 c_put_pieces (mCons
    (mVar 0) (mCons (mVar 1) (mCons (mVar 2) (mCons (mVar 3) (mNil)))))) (mNil))))
theorem w_with_entry {P : Program} {w : World} {K : PySem.W.Frag} {mg : Str → Option Value} {base : Heap} {ad : Nat → Addr} {fd : Nat → FuncData} {tb : Nat → Addr × Addr} (T : Tx P w K mg ad fd tb)
    {c_root_of : List D → AH → Res D} (G_root_of : FnD P w K mg base 2 (ad 17) (fd 17) ["pieces"] c_root_of) {c_put_pieces : List D → AH → Res D} (G_put_pieces : FnD P w K mg base 11 (ad 20) (fd 20)
    ["most", "page", "key", "thing"] c_put_pieces) :
    FnD P w K mg base 12 (ad 21) (fd 21) ["most", "page", "key", "thing"] (m_with_entry c_root_of c_put_pieces) :=
  have nd := sc_with_entry.nd
FnD.of T.F_with_entry sc_with_entry fun cdv hcd A outer s H E hr gd tk hp => s_one (s_ret (d_call G_root_of (hr.mono (by decide)) gd tk T.g_root_of T.F_root_of.kp T.b_root_of (a_cons (d_call
    G_put_pieces (hr.mono (by decide)) gd tk T.g_put_pieces T.F_put_pieces.kp T.b_put_pieces (a_cons (d_var 0) (a_cons (d_var 1) (a_cons (d_var 2) (a_cons (d_var 3) (a_nil)))))) (a_nil))))
noncomputable def m_less_page (c_is_leaf : List D → AH → Res D) (c_child_number : List D → AH → Res D) (c_less_page : List D → AH → Res D) (c_entry_number : List D → AH → Res D) (c_half_of : List D →
    AH → Res D) (c_things_on : List D → AH → Res D) (c_spliced : List D → AH → Res D) (c_fused : List D → AH → Res D) : List D → AH → Res D := mFun 7 (mSeq (mIfS (mTst (mCallF 1 c_is_leaf (mCons (mVar
    1) (mNil)))) (mSeq (mSet 3 (mCallF 2 c_entry_number (mCons (mOp fIx (mVar 1) (mK (.int 1))) (mCons (mVar 2) (mNil))))) (mRet (mTup (mCons (mK (.str "leaf")) (mCons (mOp fAdd (mSl (mOp fIx (mVar 1)
    (mK (.int 1))) (mNone) (mSome (mVar 3))) (mSl (mOp fIx (mVar 1) (mK (.int 1))) (mSome (mOp fAdd (mVar 3) (mK (.int 1)))) (mNone))) (mNil)))))) (mNext)) (mSeq (mSet 3 (mCallF 2 c_child_number (mCons
    (mOp fIx (mVar 1) (mK (.int 1))) (mCons (mVar 2) (mNil))))) (mSeq (mSet 4 (mCallF 3 c_less_page (mCons (mVar 0) (mCons (mOp fIx (mOp fIx (mVar 1) (mK (.int 2))) (mVar 3)) (mCons (mVar 2)
    (mNil)))))) (mSeq (mIfS (mTst (mOp fGe (mCall fLen (mCons (mCallF 1 c_things_on (mCons (mVar 4) (mNil))) (mNil))) (mCallF 1 c_half_of (mCons (mVar 0) (mNil))))) (mRet (mOp fIx (mOp fIx (mCallF 5
    c_spliced (mCons (mVar 0) (mCons (mVar 1) (mCons (mVar 3) (mCons (mOp fAdd (mVar 3) (mK (.int 1))) (mCons (mTup (mCons (mLst (mCons (mVar 4) (mNil))) (mCons (mLst (mNil)) (mNil)))) (mNil))))))) (mK
    (.int 0))) (mK (.int 0)))) (mNext)) (mSeq (mSet 5 (mIf (mTst (mOp fGt (mVar 3) (mK (.int 0)))) (mOp fSub (mVar 3) (mK (.int 1))) (mK (.int 0)))) (mSeq (mSet 6 (mIf (mTst (mOp fGt (mVar 3) (mK (.int
    0)))) (mTup (mCons (mOp fIx (mOp fIx (mVar 1) (mK (.int 2))) (mVar 5)) (mCons (mVar 4) (mNil)))) (mTup (mCons (mVar 4) (mCons (mOp fIx (mOp fIx (mVar 1) (mK (.int 2))) (mK (.int 1))) (mNil))))))
    (mRet (mOp fIx (mOp fIx (mCallF 5 c_spliced (mCons (mVar 0) (mCons (mVar 1) (mCons (mVar 5) (mCons (mOp fAdd (mVar 5) (mK (.int 2))) (mCons (mCallF 4 c_fused (mCons (mVar 0) (mCons (mOp fIx (mVar
    6) (mK (.int 0))) (mCons (mOp fIx (mOp fIx (mVar 1) (mK (.int 1))) (mVar 5)) (mCons (mOp fIx (mVar 6) (mK (.int 1))) (mNil)))))) (mNil))))))) (mK (.int 0))) (mK (.int 0))))))))))
noncomputable def r_less_page (c_is_leaf : List D → AH → Res D) (c_child_number : List D → AH → Res D) (c_entry_number : List D → AH → Res D) (c_half_of : List D → AH → Res D) (c_things_on : List D →
    AH → Res D) (c_spliced : List D → AH → Res D) (c_fused : List D → AH → Res D) : Nat → List D → AH → Res D
  | 0 => fun _ _ => .no
  | n + 1 => m_less_page c_is_leaf c_child_number (r_less_page c_is_leaf c_child_number c_entry_number c_half_of c_things_on c_spliced c_fused n) c_entry_number c_half_of c_things_on c_spliced c_fused
theorem ws_less_page {P : Program} {w : World} {K : PySem.W.Frag} {mg : Str → Option Value} {base : Heap} {ad : Nat → Addr} {fd : Nat → FuncData} {tb : Nat → Addr × Addr} (T : Tx P w K mg ad fd tb)
    {c_is_leaf : List D → AH → Res D} (G_is_leaf : FnD P w K mg base 1 (ad 8) (fd 8) ["page"] c_is_leaf) {c_child_number : List D → AH → Res D} (G_child_number : FnD P w K mg base 1 (ad 10) (fd 10)
    ["keys", "key"] c_child_number) {c_entry_number : List D → AH → Res D} (G_entry_number : FnD P w K mg base 1 (ad 11) (fd 11) ["entries", "key"] c_entry_number) {c_half_of : List D → AH → Res D}
    (G_half_of : FnD P w K mg base 3 (ad 7) (fd 7) ["most"] c_half_of) {c_things_on : List D → AH → Res D} (G_things_on : FnD P w K mg base 1 (ad 9) (fd 9) ["page"] c_things_on) {c_spliced : List D →
    AH → Res D} (G_spliced : FnD P w K mg base 2 (ad 18) (fd 18) ["most", "page", "begin", "end", "pieces"] c_spliced) {c_fused : List D → AH → Res D} (G_fused : FnD P w K mg base 2 (ad 19) (fd 19)
    ["most", "left", "key", "right"] c_fused) {j : Nat} {c_less_page : List D → AH → Res D} (G_less_page : FnD P w K mg base (3 + j) (ad 22) (fd 22) ["most", "page", "key"] c_less_page) :
    FnD P w K mg base (3 + j + 1) (ad 22) (fd 22) ["most", "page", "key"] (m_less_page c_is_leaf c_child_number c_less_page c_entry_number c_half_of c_things_on c_spliced c_fused) :=
  have nd := sc_less_page.nd
FnD.of T.F_less_page sc_less_page fun cdv hcd A outer s H E hr gd tk hp => s_cons (s_if (t_val (d_call G_is_leaf (hr.mono (by omega)) gd tk T.g_is_leaf T.F_is_leaf.kp T.b_is_leaf (a_cons (d_var 1)
    (a_nil)))) (s_cons (s_set (i := 3) nd (d_call G_entry_number (hr.mono (by omega)) gd tk T.g_entry_number T.F_entry_number.kp T.b_entry_number (a_cons (d_ix (d_var 1) (d_int)) (a_cons (d_var 2)
    (a_nil))))) (s_one (s_ret (d_tup (a_cons (d_gstr T.c_LEAF) (a_cons (d_add (d_sl (d_ix (d_var 1) (d_int)) (o_none) (o_some (d_var 3))) (d_sl (d_ix (d_var 1) (d_int)) (o_some (d_add (d_var 3)
    (d_int))) (o_none))) (a_nil))))))) (s_nil)) (s_cons (s_set (i := 3) nd (d_call G_child_number (hr.mono (by omega)) gd tk T.g_child_number T.F_child_number.kp T.b_child_number (a_cons (d_ix (d_var
    1) (d_int)) (a_cons (d_var 2) (a_nil))))) (s_cons (s_set (i := 4) nd (d_call G_less_page (hr.mono (by omega)) gd tk T.g_less_page T.F_less_page.kp T.b_less_page (a_cons (d_var 0) (a_cons (d_ix
    (d_ix (d_var 1) (d_int)) (d_var 3)) (a_cons (d_var 2) (a_nil)))))) (s_cons (s_if (t_ge (d_len T.z_len (a_cons (d_call G_things_on (hr.mono (by omega)) gd tk T.g_things_on T.F_things_on.kp
    T.b_things_on (a_cons (d_var 4) (a_nil))) (a_nil))) (d_call G_half_of (hr.mono (by omega)) gd tk T.g_half_of T.F_half_of.kp T.b_half_of (a_cons (d_var 0) (a_nil)))) (s_one (s_ret (d_ix (d_ix
    (d_call G_spliced (hr.mono (by omega)) gd tk T.g_spliced T.F_spliced.kp T.b_spliced (a_cons (d_var 0) (a_cons (d_var 1) (a_cons (d_var 3) (a_cons (d_add (d_var 3) (d_int)) (a_cons (d_tup (a_cons
    (d_lst (a_cons (d_var 4) (a_nil))) (a_cons (d_lst (a_nil)) (a_nil)))) (a_nil))))))) (d_int)) (d_int)))) (s_nil)) (s_cons (s_set (i := 5) nd (d_if (t_gt (d_var 3) (d_int)) (d_sub (d_var 3) (d_int))
    (d_int))) (s_cons (s_set (i := 6) nd (d_if (t_gt (d_var 3) (d_int)) (d_tup (a_cons (d_ix (d_ix (d_var 1) (d_int)) (d_var 5)) (a_cons (d_var 4) (a_nil)))) (d_tup (a_cons (d_var 4) (a_cons (d_ix
    (d_ix (d_var 1) (d_int)) (d_int)) (a_nil)))))) (s_one (s_ret (d_ix (d_ix (d_call G_spliced (hr.mono (by omega)) gd tk T.g_spliced T.F_spliced.kp T.b_spliced (a_cons (d_var 0) (a_cons (d_var 1)
    (a_cons (d_var 5) (a_cons (d_add (d_var 5) (d_int)) (a_cons (d_call G_fused (hr.mono (by omega)) gd tk T.g_fused T.F_fused.kp T.b_fused (a_cons (d_var 0) (a_cons (d_ix (d_var 6) (d_int)) (a_cons
    (d_ix (d_ix (d_var 1) (d_int)) (d_var 5)) (a_cons (d_ix (d_var 6) (d_int)) (a_nil)))))) (a_nil))))))) (d_int)) (d_int)))))))))
theorem wn_less_page {P : Program} {w : World} {K : PySem.W.Frag} {mg : Str → Option Value} {base : Heap} {ad : Nat → Addr} {fd : Nat → FuncData} {tb : Nat → Addr × Addr} (T : Tx P w K mg ad fd tb)
    {c_is_leaf : List D → AH → Res D} (G_is_leaf : FnD P w K mg base 1 (ad 8) (fd 8) ["page"] c_is_leaf) {c_child_number : List D → AH → Res D} (G_child_number : FnD P w K mg base 1 (ad 10) (fd 10)
    ["keys", "key"] c_child_number) {c_entry_number : List D → AH → Res D} (G_entry_number : FnD P w K mg base 1 (ad 11) (fd 11) ["entries", "key"] c_entry_number) {c_half_of : List D → AH → Res D}
    (G_half_of : FnD P w K mg base 3 (ad 7) (fd 7) ["most"] c_half_of) {c_things_on : List D → AH → Res D} (G_things_on : FnD P w K mg base 1 (ad 9) (fd 9) ["page"] c_things_on) {c_spliced : List D →
    AH → Res D} (G_spliced : FnD P w K mg base 2 (ad 18) (fd 18) ["most", "page", "begin", "end", "pieces"] c_spliced) {c_fused : List D → AH → Res D} (G_fused : FnD P w K mg base 2 (ad 19) (fd 19)
    ["most", "left", "key", "right"] c_fused) :
    ∀ n, FnD P w K mg base (3 + n) (ad 22) (fd 22) ["most", "page", "key"] (r_less_page c_is_leaf c_child_number c_entry_number c_half_of c_things_on c_spliced c_fused n)
  | 0 => FnD.none
  | n + 1 => ws_less_page T G_is_leaf G_child_number G_entry_number G_half_of G_things_on G_spliced G_fused (wn_less_page T G_is_leaf G_child_number G_entry_number G_half_of G_things_on G_spliced G_fused n)
theorem w_less_page {P : Program} {w : World} {K : PySem.W.Frag} {mg : Str → Option Value} {base : Heap} {ad : Nat → Addr} {fd : Nat → FuncData} {tb : Nat → Addr × Addr} (T : Tx P w K mg ad fd tb)
    {c_is_leaf : List D → AH → Res D} (G_is_leaf : FnD P w K mg base 1 (ad 8) (fd 8) ["page"] c_is_leaf) {c_child_number : List D → AH → Res D} (G_child_number : FnD P w K mg base 1 (ad 10) (fd 10)
    ["keys", "key"] c_child_number) {c_entry_number : List D → AH → Res D} (G_entry_number : FnD P w K mg base 1 (ad 11) (fd 11) ["entries", "key"] c_entry_number) {c_half_of : List D → AH → Res D}
    (G_half_of : FnD P w K mg base 3 (ad 7) (fd 7) ["most"] c_half_of) {c_things_on : List D → AH → Res D} (G_things_on : FnD P w K mg base 1 (ad 9) (fd 9) ["page"] c_things_on) {c_spliced : List D →
    AH → Res D} (G_spliced : FnD P w K mg base 2 (ad 18) (fd 18) ["most", "page", "begin", "end", "pieces"] c_spliced) {c_fused : List D → AH → Res D} (G_fused : FnD P w K mg base 2 (ad 19) (fd 19)
    ["most", "left", "key", "right"] c_fused) :
    FnD P w K mg base 12 (ad 22) (fd 22) ["most", "page", "key"] (r_less_page c_is_leaf c_child_number c_entry_number c_half_of c_things_on c_spliced c_fused 9) := wn_less_page T G_is_leaf G_child_number G_entry_number G_half_of G_things_on G_spliced G_fused 9
noncomputable def m_without_entry (c_root_of : List D → AH → Res D) (c_less_page : List D → AH → Res D) : List D → AH → Res D := mFun 3 (mRet (mCallF 1 c_root_of (mCons (mTup (mCons (mLst (mCons
    (mCallF 3 c_less_page (mCons (mVar 0) (mCons (mVar 1) (mCons (mVar 2) (mNil))))) (mNil))) (mCons (mLst (mNil)) (mNil)))) (mNil))))
theorem w_without_entry {P : Program} {w : World} {K : PySem.W.Frag} {mg : Str → Option Value} {base : Heap} {ad : Nat → Addr} {fd : Nat → FuncData} {tb : Nat → Addr × Addr} (T : Tx P w K mg ad fd tb)
    {c_root_of : List D → AH → Res D} (G_root_of : FnD P w K mg base 2 (ad 17) (fd 17) ["pieces"] c_root_of) {c_less_page : List D → AH → Res D} (G_less_page : FnD P w K mg base 12 (ad 22) (fd 22)
    ["most", "page", "key"] c_less_page) :
    FnD P w K mg base 13 (ad 23) (fd 23) ["most", "page", "key"] (m_without_entry c_root_of c_less_page) :=
  have nd := sc_without_entry.nd
FnD.of T.F_without_entry sc_without_entry fun cdv hcd A outer s H E hr gd tk hp => s_one (s_ret (d_call G_root_of (hr.mono (by decide)) gd tk T.g_root_of T.F_root_of.kp T.b_root_of (a_cons (d_tup
    (a_cons (d_lst (a_cons (d_call G_less_page (hr.mono (by decide)) gd tk T.g_less_page T.F_less_page.kp T.b_less_page (a_cons (d_var 0) (a_cons (d_var 1) (a_cons (d_var 2) (a_nil))))) (a_nil)))
    (a_cons (d_lst (a_nil)) (a_nil)))) (a_nil))))
noncomputable def m_first_key (c_is_leaf : List D → AH → Res D) : List D → AH → Res D := mFun 1 (mSeq (mWhile (mNot (mTst (mCallF 1 c_is_leaf (mCons (mVar 0) (mNil))))) (mSet 0 (mOp fIx (mOp fIx (mVar
    0) (mK (.int 2))) (mK (.int 0))))) (mRet (mOp fIx (mOp fIx (mOp fIx (mVar 0) (mK (.int 1))) (mK (.int 0))) (mK (.int 0)))))
theorem w_first_key {P : Program} {w : World} {K : PySem.W.Frag} {mg : Str → Option Value} {base : Heap} {ad : Nat → Addr} {fd : Nat → FuncData} {tb : Nat → Addr × Addr} (T : Tx P w K mg ad fd tb)
    {c_is_leaf : List D → AH → Res D} (G_is_leaf : FnD P w K mg base 1 (ad 8) (fd 8) ["page"] c_is_leaf) :
    FnD P w K mg base 2 (ad 24) (fd 24) ["page"] (m_first_key c_is_leaf) :=
  have nd := sc_first_key.nd
FnD.of T.F_first_key sc_first_key fun cdv hcd A outer s H E hr gd tk hp => s_cons (s_while hp (t_not (t_val (d_call G_is_leaf (hr.mono (by decide)) gd tk T.g_is_leaf T.F_is_leaf.kp T.b_is_leaf (a_cons
    (d_var 0) (a_nil))))) (s_one (s_set (i := 0) nd (d_ix (d_ix (d_var 0) (d_int)) (d_int))))) (s_one (s_ret (d_ix (d_ix (d_ix (d_var 0) (d_int)) (d_int)) (d_int))))
noncomputable def m_behind_of (c_leaf_for : List D → AH → Res D) (c_is_leaf : List D → AH → Res D) (c_child_number : List D → AH → Res D) (c_first_key : List D → AH → Res D) : List D → AH → Res D :=
    mFun 5 (mSeq (mFor (mSq (mOp fIx (mCallF 2 c_leaf_for (mCons (mVar 0) (mCons (mVar 1) (mNil)))) (mK (.int 1)))) (.nm 2) (mIfS (mTst (mOp fGtX (mOp fIx (mVar 2) (mK (.int 0))) (mVar 1))) (mRet (mOp
    fIx (mVar 2) (mK (.int 0)))) (mNext))) (mSeq (mSet 3 (mK .non)) (mSeq (mWhile (mNot (mTst (mCallF 1 c_is_leaf (mCons (mVar 0) (mNil))))) (mSeq (mSet 4 (mCallF 2 c_child_number (mCons (mOp fIx (mVar
    0) (mK (.int 1))) (mCons (mVar 1) (mNil))))) (mSeq (mIfS (mTst (mOp fLt (mVar 4) (mCall fLen (mCons (mOp fIx (mVar 0) (mK (.int 1))) (mNil))))) (mSet 3 (mOp fIx (mOp fIx (mVar 0) (mK (.int 2)))
    (mOp fAdd (mVar 4) (mK (.int 1))))) (mNext)) (mSet 0 (mOp fIx (mOp fIx (mVar 0) (mK (.int 2))) (mVar 4)))))) (mRet (mIf (mTst (mOp (fIsN false) (mVar 3) (mK .non))) (mK .non) (mCallF 1 c_first_key
    (mCons (mVar 3) (mNil))))))))
theorem w_behind_of {P : Program} {w : World} {K : PySem.W.Frag} {mg : Str → Option Value} {base : Heap} {ad : Nat → Addr} {fd : Nat → FuncData} {tb : Nat → Addr × Addr} (T : Tx P w K mg ad fd tb)
    {c_leaf_for : List D → AH → Res D} (G_leaf_for : FnD P w K mg base 2 (ad 12) (fd 12) ["page", "key"] c_leaf_for) {c_is_leaf : List D → AH → Res D} (G_is_leaf : FnD P w K mg base 1 (ad 8) (fd 8)
    ["page"] c_is_leaf) {c_child_number : List D → AH → Res D} (G_child_number : FnD P w K mg base 1 (ad 10) (fd 10) ["keys", "key"] c_child_number) {c_first_key : List D → AH → Res D} (G_first_key :
    FnD P w K mg base 2 (ad 24) (fd 24) ["page"] c_first_key) :
    FnD P w K mg base 3 (ad 25) (fd 25) ["page", "key"] (m_behind_of c_leaf_for c_is_leaf c_child_number c_first_key) :=
  have nd := sc_behind_of.nd
FnD.of T.F_behind_of sc_behind_of fun cdv hcd A outer s H E hr gd tk hp => s_cons (s_for hp rfl (i_sq (d_ix (d_call G_leaf_for (hr.mono (by decide)) gd tk T.g_leaf_for T.F_leaf_for.kp T.b_leaf_for
    (a_cons (d_var 0) (a_cons (d_var 1) (a_nil)))) (d_int))) (tg_nm (i := 2) nd) (s_one (s_if (t_gtX (d_ix (d_var 2) (d_int)) (d_var 1)) (s_one (s_ret (d_ix (d_var 2) (d_int)))) (s_nil)))) (s_cons
    (s_set (i := 3) nd (d_non)) (s_cons (s_while hp (t_not (t_val (d_call G_is_leaf (hr.mono (by decide)) gd tk T.g_is_leaf T.F_is_leaf.kp T.b_is_leaf (a_cons (d_var 0) (a_nil))))) (s_cons (s_set (i :=
    4) nd (d_call G_child_number (hr.mono (by decide)) gd tk T.g_child_number T.F_child_number.kp T.b_child_number (a_cons (d_ix (d_var 0) (d_int)) (a_cons (d_var 1) (a_nil))))) (s_cons (s_if (t_lt
    (d_var 4) (d_len T.z_len (a_cons (d_ix (d_var 0) (d_int)) (a_nil)))) (s_one (s_set (i := 3) nd (d_ix (d_ix (d_var 0) (d_int)) (d_add (d_var 4) (d_int))))) (s_nil)) (s_one (s_set (i := 0) nd (d_ix
    (d_ix (d_var 0) (d_int)) (d_var 4))))))) (s_one (s_ret (d_if (t_is (d_var 3) (d_non)) (d_non) (d_call G_first_key (hr.mono (by decide)) gd tk T.g_first_key T.F_first_key.kp T.b_first_key (a_cons
    (d_var 3) (a_nil))))))))
noncomputable def m_first (c_is_leaf : List D → AH → Res D) : List D → AH → Res D := mFun 1 (mSeq (mWhile (mNot (mTst (mCallF 1 c_is_leaf (mCons (mVar 0) (mNil))))) (mSet 0 (mOp fIx (mOp fIx (mVar 0)
    (mK (.int 2))) (mK (.int 0))))) (mRet (mIf (mTru (mOp fIx (mVar 0) (mK (.int 1)))) (mOp fIx (mOp fIx (mVar 0) (mK (.int 1))) (mK (.int 0))) (mK .non))))
theorem w_first {P : Program} {w : World} {K : PySem.W.Frag} {mg : Str → Option Value} {base : Heap} {ad : Nat → Addr} {fd : Nat → FuncData} {tb : Nat → Addr × Addr} (T : Tx P w K mg ad fd tb)
    {c_is_leaf : List D → AH → Res D} (G_is_leaf : FnD P w K mg base 1 (ad 8) (fd 8) ["page"] c_is_leaf) :
    FnD P w K mg base 2 (ad 26) (fd 26) ["page"] (m_first c_is_leaf) :=
  have nd := sc_first.nd
FnD.of T.F_first sc_first fun cdv hcd A outer s H E hr gd tk hp => s_cons (s_while hp (t_not (t_val (d_call G_is_leaf (hr.mono (by decide)) gd tk T.g_is_leaf T.F_is_leaf.kp T.b_is_leaf (a_cons (d_var
    0) (a_nil))))) (s_one (s_set (i := 0) nd (d_ix (d_ix (d_var 0) (d_int)) (d_int))))) (s_one (s_ret (d_if (t_tru (d_ix (d_var 0) (d_int))) (d_ix (d_ix (d_var 0) (d_int)) (d_int)) (d_non))))
noncomputable def m_last (c_is_leaf : List D → AH → Res D) : List D → AH → Res D := mFun 1 (mSeq (mWhile (mNot (mTst (mCallF 1 c_is_leaf (mCons (mVar 0) (mNil))))) (mSet 0 (mOp fIx (mOp fIx (mVar 0)
    (mK (.int 2))) (mNeg (mK (.int 1)))))) (mRet (mIf (mTru (mOp fIx (mVar 0) (mK (.int 1)))) (mOp fIx (mOp fIx (mVar 0) (mK (.int 1))) (mNeg (mK (.int 1)))) (mK .non))))
theorem w_last {P : Program} {w : World} {K : PySem.W.Frag} {mg : Str → Option Value} {base : Heap} {ad : Nat → Addr} {fd : Nat → FuncData} {tb : Nat → Addr × Addr} (T : Tx P w K mg ad fd tb)
    {c_is_leaf : List D → AH → Res D} (G_is_leaf : FnD P w K mg base 1 (ad 8) (fd 8) ["page"] c_is_leaf) :
    FnD P w K mg base 2 (ad 27) (fd 27) ["page"] (m_last c_is_leaf) :=
  have nd := sc_last.nd
FnD.of T.F_last sc_last fun cdv hcd A outer s H E hr gd tk hp => s_cons (s_while hp (t_not (t_val (d_call G_is_leaf (hr.mono (by decide)) gd tk T.g_is_leaf T.F_is_leaf.kp T.b_is_leaf (a_cons (d_var 0)
    (a_nil))))) (s_one (s_set (i := 0) nd (d_ix (d_ix (d_var 0) (d_int)) (d_neg (d_int)))))) (s_one (s_ret (d_if (t_tru (d_ix (d_var 0) (d_int))) (d_ix (d_ix (d_var 0) (d_int)) (d_neg (d_int)))
    (d_non))))
noncomputable def m_after (c_need_key : List D → AH → Res D) (c_behind_of : List D → AH → Res D) (c_entry_of : List D → AH → Res D) : List D → AH → Res D := mFun 3 (mSeq (mDrop (mCallF 1 c_need_key
    (mCons (mVar 1) (mNil)))) (mSeq (mSet 2 (mCallF 2 c_behind_of (mCons (mVar 0) (mCons (mVar 1) (mNil))))) (mRet (mIf (mTst (mOp (fIsN false) (mVar 2) (mK .non))) (mK .non) (mCallF 2 c_entry_of
    (mCons (mVar 0) (mCons (mVar 2) (mNil))))))))
theorem w_after {P : Program} {w : World} {K : PySem.W.Frag} {mg : Str → Option Value} {base : Heap} {ad : Nat → Addr} {fd : Nat → FuncData} {tb : Nat → Addr × Addr} (T : Tx P w K mg ad fd tb)
    {c_need_key : List D → AH → Res D} (G_need_key : FnD P w K mg base 3 (ad 5) (fd 5) ["value"] c_need_key) {c_behind_of : List D → AH → Res D} (G_behind_of : FnD P w K mg base 3 (ad 25) (fd 25)
    ["page", "key"] c_behind_of) {c_entry_of : List D → AH → Res D} (G_entry_of : FnD P w K mg base 3 (ad 13) (fd 13) ["page", "key"] c_entry_of) :
    FnD P w K mg base 4 (ad 28) (fd 28) ["page", "key"] (m_after c_need_key c_behind_of c_entry_of) :=
  have nd := sc_after.nd
FnD.of T.F_after sc_after fun cdv hcd A outer s H E hr gd tk hp => s_cons (s_expr (d_call G_need_key (hr.mono (by decide)) gd tk T.g_need_key T.F_need_key.kp T.b_need_key (a_cons (d_var 1) (a_nil))))
    (s_cons (s_set (i := 2) nd (d_call G_behind_of (hr.mono (by decide)) gd tk T.g_behind_of T.F_behind_of.kp T.b_behind_of (a_cons (d_var 0) (a_cons (d_var 1) (a_nil))))) (s_one (s_ret (d_if (t_is
    (d_var 2) (d_non)) (d_non) (d_call G_entry_of (hr.mono (by decide)) gd tk T.g_entry_of T.F_entry_of.kp T.b_entry_of (a_cons (d_var 0) (a_cons (d_var 2) (a_nil))))))))
noncomputable def m_before (c_need_key : List D → AH → Res D) (c_entry_number : List D → AH → Res D) (c_last : List D → AH → Res D) (c_leaf_for : List D → AH → Res D) (c_is_leaf : List D → AH → Res D)
    (c_child_number : List D → AH → Res D) : List D → AH → Res D := mFun 6 (mSeq (mDrop (mCallF 1 c_need_key (mCons (mVar 1) (mNil)))) (mSeq (mSet 2 (mOp fIx (mCallF 2 c_leaf_for (mCons (mVar 0) (mCons
    (mVar 1) (mNil)))) (mK (.int 1)))) (mSeq (mSet 3 (mCallF 2 c_entry_number (mCons (mVar 2) (mCons (mVar 1) (mNil))))) (mSeq (mIfS (mTst (mOp fGt (mVar 3) (mK (.int 0)))) (mRet (mOp fIx (mVar 2) (mOp
    fSub (mVar 3) (mK (.int 1))))) (mNext)) (mSeq (mSet 4 (mK (.tup [.str "leaf", .tup []]))) (mSeq (mWhile (mNot (mTst (mCallF 1 c_is_leaf (mCons (mVar 0) (mNil))))) (mSeq (mSet 5 (mCallF 2
    c_child_number (mCons (mOp fIx (mVar 0) (mK (.int 1))) (mCons (mVar 1) (mNil))))) (mSeq (mIfS (mTst (mOp fGt (mVar 5) (mK (.int 0)))) (mSet 4 (mOp fIx (mOp fIx (mVar 0) (mK (.int 2))) (mOp fSub
    (mVar 5) (mK (.int 1))))) (mNext)) (mSet 0 (mOp fIx (mOp fIx (mVar 0) (mK (.int 2))) (mVar 5)))))) (mRet (mCallF 1 c_last (mCons (mVar 4) (mNil))))))))))
theorem w_before {P : Program} {w : World} {K : PySem.W.Frag} {mg : Str → Option Value} {base : Heap} {ad : Nat → Addr} {fd : Nat → FuncData} {tb : Nat → Addr × Addr} (T : Tx P w K mg ad fd tb)
    {c_need_key : List D → AH → Res D} (G_need_key : FnD P w K mg base 3 (ad 5) (fd 5) ["value"] c_need_key) {c_entry_number : List D → AH → Res D} (G_entry_number : FnD P w K mg base 1 (ad 11) (fd 11)
    ["entries", "key"] c_entry_number) {c_last : List D → AH → Res D} (G_last : FnD P w K mg base 2 (ad 27) (fd 27) ["page"] c_last) {c_leaf_for : List D → AH → Res D} (G_leaf_for : FnD P w K mg base 2
    (ad 12) (fd 12) ["page", "key"] c_leaf_for) {c_is_leaf : List D → AH → Res D} (G_is_leaf : FnD P w K mg base 1 (ad 8) (fd 8) ["page"] c_is_leaf) {c_child_number : List D → AH → Res D}
    (G_child_number : FnD P w K mg base 1 (ad 10) (fd 10) ["keys", "key"] c_child_number) :
    FnD P w K mg base 4 (ad 29) (fd 29) ["page", "key"] (m_before c_need_key c_entry_number c_last c_leaf_for c_is_leaf c_child_number) :=
  have nd := sc_before.nd
FnD.of T.F_before sc_before fun cdv hcd A outer s H E hr gd tk hp => s_cons (s_expr (d_call G_need_key (hr.mono (by decide)) gd tk T.g_need_key T.F_need_key.kp T.b_need_key (a_cons (d_var 1) (a_nil))))
    (s_cons (s_set (i := 2) nd (d_ix (d_call G_leaf_for (hr.mono (by decide)) gd tk T.g_leaf_for T.F_leaf_for.kp T.b_leaf_for (a_cons (d_var 0) (a_cons (d_var 1) (a_nil)))) (d_int))) (s_cons (s_set (i
    := 3) nd (d_call G_entry_number (hr.mono (by decide)) gd tk T.g_entry_number T.F_entry_number.kp T.b_entry_number (a_cons (d_var 2) (a_cons (d_var 1) (a_nil))))) (s_cons (s_if (t_gt (d_var 3)
    (d_int)) (s_one (s_ret (d_ix (d_var 2) (d_sub (d_var 3) (d_int))))) (s_nil)) (s_cons (s_set (i := 4) nd (d_con T.e_EMPTY)) (s_cons (s_while hp (t_not (t_val (d_call G_is_leaf (hr.mono (by decide))
    gd tk T.g_is_leaf T.F_is_leaf.kp T.b_is_leaf (a_cons (d_var 0) (a_nil))))) (s_cons (s_set (i := 5) nd (d_call G_child_number (hr.mono (by decide)) gd tk T.g_child_number T.F_child_number.kp
    T.b_child_number (a_cons (d_ix (d_var 0) (d_int)) (a_cons (d_var 1) (a_nil))))) (s_cons (s_if (t_gt (d_var 5) (d_int)) (s_one (s_set (i := 4) nd (d_ix (d_ix (d_var 0) (d_int)) (d_sub (d_var 5)
    (d_int))))) (s_nil)) (s_one (s_set (i := 0) nd (d_ix (d_ix (d_var 0) (d_int)) (d_var 5))))))) (s_one (s_ret (d_call G_last (hr.mono (by decide)) gd tk T.g_last T.F_last.kp T.b_last (a_cons (d_var
    4) (a_nil))))))))))
noncomputable def m_Tree__init (c_need_most : List D → AH → Res D) : List D → AH → Res D := mFun 2 (mSeq (mDrop (mCallF 1 c_need_most (mCons (mVar 1) (mNil)))) (mSeq (mSetF "Tree" "most" (mVar 1) (mVar
    0)) (mSeq (mSetF "Tree" "_page" (mK (.tup [.str "leaf", .tup []])) (mVar 0)) (mSetF "Tree" "_known" (mDict0) (mVar 0)))))
theorem w_Tree__init {P : Program} {w : World} {K : PySem.W.Frag} {mg : Str → Option Value} {base : Heap} {ad : Nat → Addr} {fd : Nat → FuncData} {tb : Nat → Addr × Addr} (T : Tx P w K mg ad fd tb)
    {c_need_most : List D → AH → Res D} (G_need_most : FnD P w K mg base 2 (ad 6) (fd 6) ["most"] c_need_most) :
    FnD P w K mg base 3 (ad 30) (fd 30) ["self", "most"] (m_Tree__init c_need_most) :=
  have nd := sc_Tree__init.nd
FnD.of T.F_Tree__init sc_Tree__init fun cdv hcd A outer s H E hr gd tk hp => s_cons (s_expr (d_call G_need_most (hr.mono (by decide)) gd tk T.g_need_most T.F_need_most.kp T.b_need_most (a_cons (d_var
    1) (a_nil)))) (s_cons (s_fld T.K_Tree T.n_Tree_most (d_var 0) (d_var 1)) (s_cons (s_fld T.K_Tree T.n_Tree__page (d_var 0) (d_con T.e_EMPTY)) (s_one (s_fld T.K_Tree T.n_Tree__known (d_var 0)
    (d_dict0)))))
noncomputable def m_Tree____len__ : List D → AH → Res D := mFun 1 (mRet (mCall fLenD (mCons (mFld "Tree" "_known" (mVar 0)) (mNil))))
theorem w_Tree____len__ {P : Program} {w : World} {K : PySem.W.Frag} {mg : Str → Option Value} {base : Heap} {ad : Nat → Addr} {fd : Nat → FuncData} {tb : Nat → Addr × Addr} (T : Tx P w K mg ad fd tb)
    :
    FnD P w K mg base 1 (ad 31) (fd 31) ["self"] (m_Tree____len__) :=
  have nd := sc_Tree____len__.nd
FnD.of T.F_Tree____len__ sc_Tree____len__ fun cdv hcd A outer s H E hr gd tk hp => s_one (s_ret (d_lenD T.z_len (a_cons (d_fld T.K_Tree T.n_Tree__known (d_var 0)) (a_nil))))
noncomputable def m_Tree____contains__ (c_is_key : List D → AH → Res D) (c_has : List D → AH → Res D) : List D → AH → Res D := mFun 2 (mRet (mAndV (mCallF 1 c_is_key (mCons (mVar 1) (mNil))) (mCallF 2
    c_has (mCons (mFld "Tree" "_page" (mVar 0)) (mCons (mVar 1) (mNil))))))
theorem w_Tree____contains__ {P : Program} {w : World} {K : PySem.W.Frag} {mg : Str → Option Value} {base : Heap} {ad : Nat → Addr} {fd : Nat → FuncData} {tb : Nat → Addr × Addr} (T : Tx P w K mg ad fd
    tb) {c_is_key : List D → AH → Res D} (G_is_key : FnD P w K mg base 3 (ad 4) (fd 4) ["value"] c_is_key) {c_has : List D → AH → Res D} (G_has : FnD P w K mg base 4 (ad 14) (fd 14) ["page", "key"]
    c_has) :
    FnD P w K mg base 5 (ad 32) (fd 32) ["self", "key"] (m_Tree____contains__ c_is_key c_has) :=
  have nd := sc_Tree____contains__.nd
FnD.of T.F_Tree____contains__ sc_Tree____contains__ fun cdv hcd A outer s H E hr gd tk hp => s_one (s_ret (d_andV (d_call G_is_key (hr.mono (by decide)) gd tk T.g_is_key T.F_is_key.kp T.b_is_key
    (a_cons (d_var 1) (a_nil))) (d_one (d_call G_has (hr.mono (by decide)) gd tk T.al_has_pages T.F_has.kp T.b_has (a_cons (d_fld T.K_Tree T.n_Tree__page (d_var 0)) (a_cons (d_var 1) (a_nil)))))))
noncomputable def m_Tree__root : List D → AH → Res D := mFun 1 (mRet (mFld "Tree" "_page" (mVar 0)))
theorem w_Tree__root {P : Program} {w : World} {K : PySem.W.Frag} {mg : Str → Option Value} {base : Heap} {ad : Nat → Addr} {fd : Nat → FuncData} {tb : Nat → Addr × Addr} (T : Tx P w K mg ad fd tb) :
    FnD P w K mg base 1 (ad 33) (fd 33) ["self"] (m_Tree__root) :=
  have nd := sc_Tree__root.nd
FnD.of T.F_Tree__root sc_Tree__root fun cdv hcd A outer s H E hr gd tk hp => s_one (s_ret (d_fld T.K_Tree T.n_Tree__page (d_var 0)))
noncomputable def m_Tree__put (c_need_key : List D → AH → Res D) (c_with_entry : List D → AH → Res D) (c_has : List D → AH → Res D) : List D → AH → Res D := mFun 4 (mSeq (mDrop (mCallF 1 c_need_key
    (mCons (mVar 1) (mNil)))) (mSeq (mSet 3 (mNotV (mCallF 2 c_has (mCons (mFld "Tree" "_page" (mVar 0)) (mCons (mVar 1) (mNil)))))) (mSeq (mSetF "Tree" "_page" (mCallF 4 c_with_entry (mCons (mFld
    "Tree" "most" (mVar 0)) (mCons (mFld "Tree" "_page" (mVar 0)) (mCons (mVar 1) (mCons (mVar 2) (mNil)))))) (mVar 0)) (mSeq (mDPut (mK (.bl true)) (mFld "Tree" "_known" (mVar 0)) (mVar 1)) (mRet
    (mVar 3))))))
theorem w_Tree__put {P : Program} {w : World} {K : PySem.W.Frag} {mg : Str → Option Value} {base : Heap} {ad : Nat → Addr} {fd : Nat → FuncData} {tb : Nat → Addr × Addr} (T : Tx P w K mg ad fd tb)
    {c_need_key : List D → AH → Res D} (G_need_key : FnD P w K mg base 3 (ad 5) (fd 5) ["value"] c_need_key) {c_with_entry : List D → AH → Res D} (G_with_entry : FnD P w K mg base 12 (ad 21) (fd 21)
    ["most", "page", "key", "thing"] c_with_entry) {c_has : List D → AH → Res D} (G_has : FnD P w K mg base 4 (ad 14) (fd 14) ["page", "key"] c_has) :
    FnD P w K mg base 13 (ad 34) (fd 34) ["self", "key", "thing"] (m_Tree__put c_need_key c_with_entry c_has) :=
  have nd := sc_Tree__put.nd
FnD.of T.F_Tree__put sc_Tree__put fun cdv hcd A outer s H E hr gd tk hp => s_cons (s_expr (d_call G_need_key (hr.mono (by decide)) gd tk T.g_need_key T.F_need_key.kp T.b_need_key (a_cons (d_var 1)
    (a_nil)))) (s_cons (s_set (i := 3) nd (d_notV (d_call G_has (hr.mono (by decide)) gd tk T.al_has_pages T.F_has.kp T.b_has (a_cons (d_fld T.K_Tree T.n_Tree__page (d_var 0)) (a_cons (d_var 1)
    (a_nil)))))) (s_cons (s_fld T.K_Tree T.n_Tree__page (d_var 0) (d_call G_with_entry (hr.mono (by decide)) gd tk T.g_with_entry T.F_with_entry.kp T.b_with_entry (a_cons (d_fld T.K_Tree T.n_Tree_most
    (d_var 0)) (a_cons (d_fld T.K_Tree T.n_Tree__page (d_var 0)) (a_cons (d_var 1) (a_cons (d_var 2) (a_nil))))))) (s_cons (s_dput (units64 hr) (d_fld T.K_Tree T.n_Tree__known (d_var 0)) (d_var 1)
    (d_bl)) (s_one (s_ret (d_var 3))))))
noncomputable def m_Tree__take (c_need_key : List D → AH → Res D) (c_without_entry : List D → AH → Res D) (c_has : List D → AH → Res D) : List D → AH → Res D := mFun 2 (mSeq (mDrop (mCallF 1 c_need_key
    (mCons (mVar 1) (mNil)))) (mSeq (mIfS (mNot (mTst (mCallF 2 c_has (mCons (mFld "Tree" "_page" (mVar 0)) (mCons (mVar 1) (mNil)))))) (mRet (mK (.bl false))) (mNext)) (mSeq (mSetF "Tree" "_page"
    (mCallF 3 c_without_entry (mCons (mFld "Tree" "most" (mVar 0)) (mCons (mFld "Tree" "_page" (mVar 0)) (mCons (mVar 1) (mNil))))) (mVar 0)) (mSeq (mDDel (mFld "Tree" "_known" (mVar 0)) (mVar 1))
    (mRet (mK (.bl true)))))))
theorem w_Tree__take {P : Program} {w : World} {K : PySem.W.Frag} {mg : Str → Option Value} {base : Heap} {ad : Nat → Addr} {fd : Nat → FuncData} {tb : Nat → Addr × Addr} (T : Tx P w K mg ad fd tb)
    {c_need_key : List D → AH → Res D} (G_need_key : FnD P w K mg base 3 (ad 5) (fd 5) ["value"] c_need_key) {c_without_entry : List D → AH → Res D} (G_without_entry : FnD P w K mg base 13 (ad 23) (fd
    23) ["most", "page", "key"] c_without_entry) {c_has : List D → AH → Res D} (G_has : FnD P w K mg base 4 (ad 14) (fd 14) ["page", "key"] c_has) :
    FnD P w K mg base 14 (ad 35) (fd 35) ["self", "key"] (m_Tree__take c_need_key c_without_entry c_has) :=
  have nd := sc_Tree__take.nd
FnD.of T.F_Tree__take sc_Tree__take fun cdv hcd A outer s H E hr gd tk hp => s_cons (s_expr (d_call G_need_key (hr.mono (by decide)) gd tk T.g_need_key T.F_need_key.kp T.b_need_key (a_cons (d_var 1)
    (a_nil)))) (s_cons (s_if (t_not (t_val (d_call G_has (hr.mono (by decide)) gd tk T.al_has_pages T.F_has.kp T.b_has (a_cons (d_fld T.K_Tree T.n_Tree__page (d_var 0)) (a_cons (d_var 1) (a_nil))))))
    (s_one (s_ret (d_bl))) (s_nil)) (s_cons (s_fld T.K_Tree T.n_Tree__page (d_var 0) (d_call G_without_entry (hr.mono (by decide)) gd tk T.g_without_entry T.F_without_entry.kp T.b_without_entry (a_cons
    (d_fld T.K_Tree T.n_Tree_most (d_var 0)) (a_cons (d_fld T.K_Tree T.n_Tree__page (d_var 0)) (a_cons (d_var 1) (a_nil)))))) (s_cons (s_ddel (d_fld T.K_Tree T.n_Tree__known (d_var 0)) (d_var 1))
    (s_one (s_ret (d_bl))))))
noncomputable def m_Tree__has (c_need_key : List D → AH → Res D) (c_has : List D → AH → Res D) : List D → AH → Res D := mFun 2 (mSeq (mDrop (mCallF 1 c_need_key (mCons (mVar 1) (mNil)))) (mRet (mCallF
    2 c_has (mCons (mFld "Tree" "_page" (mVar 0)) (mCons (mVar 1) (mNil))))))
theorem w_Tree__has {P : Program} {w : World} {K : PySem.W.Frag} {mg : Str → Option Value} {base : Heap} {ad : Nat → Addr} {fd : Nat → FuncData} {tb : Nat → Addr × Addr} (T : Tx P w K mg ad fd tb)
    {c_need_key : List D → AH → Res D} (G_need_key : FnD P w K mg base 3 (ad 5) (fd 5) ["value"] c_need_key) {c_has : List D → AH → Res D} (G_has : FnD P w K mg base 4 (ad 14) (fd 14) ["page", "key"]
    c_has) :
    FnD P w K mg base 5 (ad 36) (fd 36) ["self", "key"] (m_Tree__has c_need_key c_has) :=
  have nd := sc_Tree__has.nd
FnD.of T.F_Tree__has sc_Tree__has fun cdv hcd A outer s H E hr gd tk hp => s_cons (s_expr (d_call G_need_key (hr.mono (by decide)) gd tk T.g_need_key T.F_need_key.kp T.b_need_key (a_cons (d_var 1)
    (a_nil)))) (s_one (s_ret (d_call G_has (hr.mono (by decide)) gd tk T.al_has_pages T.F_has.kp T.b_has (a_cons (d_fld T.K_Tree T.n_Tree__page (d_var 0)) (a_cons (d_var 1) (a_nil))))))
noncomputable def m__law_deal : List D → AH → Res D := mFun 5 (mSeq (mSet 2 (mLc false (mSq (mSl (mVar 0) (mNone) (mSome (mK (.int 63))))) (.nm 4) (mYes) (mCall fAbs (mCons (mCall fInt (mCons (mVar 4)
    (mNil))) (mNil))) [4])) (mSeq (mSet 3 (mOp fAdd (mOp fMulA (mK (.int 40127)) (mVar 1)) (mK (.int 863)))) (mSeq (mFor (mSq (mVar 2)) (.nm 4) (mSet 3 (mOp fMod (mCall fInt (mCons (mOp fAdd (mOp fAdd
    (mOp fMulA (mVar 3) (mK (.int 48271))) (mOp fMod (mVar 4) (mK (.int 2147483579)))) (mK (.int 61))) (mNil))) (mK (.int 2147483647))))) (mRet (mNew (mCons (mRev true (mLc false (mSq (mVar 2)) (.nm 4)
    (mTst (mOp fGe (mVar 4) (mOp fPow (mK (.int 10)) (mK (.int 18))))) (mVar 4) [4])) (mCons (mVar 3) (mNil))))))))
theorem w__law_deal {P : Program} {w : World} {K : PySem.W.Frag} {mg : Str → Option Value} {base : Heap} {ad : Nat → Addr} {fd : Nat → FuncData} {tb : Nat → Addr × Addr} (T : Tx P w K mg ad fd tb) :
    FnD P w K mg base 1 (ad 37) (fd 37) ["_law_script", "_law_base"] (m__law_deal) :=
  have nd := sc__law_deal.nd
FnD.of T.F__law_deal sc__law_deal fun cdv hcd A outer s H E hr gd tk hp => s_cons (s_setLc (i := 2) (t := .nm 4) false [("_law_cell", 4)] rfl nd rfl rfl (sw_true rfl rfl rfl (by decide +kernel)) (i_sq
    (d_sl (d_var 0) (o_none) (o_some (d_int)))) (blkOk_by (N := nm__law_deal) (sc := defScope x__law_deal) (by decide +kernel)) (fun _ _ _ _ _ => tg_nm (i := 4) nd) (fun _ _ _ _ _ => l_nil) (fun _ _ _
    _ _ => d_abs T.z_abs (a_cons (d_intf T.z_int (a_cons (d_var 4) (a_nil))) (a_nil))) (sl := [4]) (by decide)) (s_cons (s_set (i := 3) nd (d_add (d_mulA (d_int) (d_var 1)) (d_int))) (s_cons (s_for hp
    rfl (i_sq (d_var 2)) (tg_nm (i := 4) nd) (s_one (s_set (i := 3) nd (d_mod (d_intf T.z_int (a_cons (d_add (d_add (d_mulA (d_var 3) (d_int)) (d_mod (d_var 4) (d_int))) (d_int)) (a_nil))) (d_int)))))
    (s_one (s_ret (d_new (a_cons (d_rev true (d_lc (t := .nm 4) false [("_law_cell", 4)] rfl nd (i_sq (d_var 2)) (blkOk_by (N := nm__law_deal) (sc := defScope x__law_deal) (by decide +kernel)) (fun _ _
    _ _ _ => tg_nm (i := 4) nd) (fun _ _ _ _ _ => l_one (t_ge (d_var 4) (d_pow (d_int) (d_int)))) (fun _ _ _ _ _ => d_var 4) (sl := [4]) (by decide))) (a_cons (d_var 3) (a_nil))))))))
noncomputable def m__law_any : List D → AH → Res D := mFun 3 (mSeq (mWhile (mAnd (mTst (mOp (fEq true) (mOp fIx (mVar 0) (mK (.int 0))) (mLst (mNil)))) (mTst (mOp (fEq false) (mOp fIx (mOp fIx (mVar 0)
    (mK (.int 0))) (mNeg (mK (.int 1)))) (mK (.int 0))))) (mDrop (mPop (mOp fIx (mVar 0) (mK (.int 0)))))) (mSeq (mIfS (mTst (mOp (fEq true) (mOp fIx (mVar 0) (mK (.int 0))) (mLst (mNil)))) (mSeq (mSet
    2 (mCall fInt (mCons (mPop (mOp fIx (mVar 0) (mK (.int 0)))) (mNil)))) (mSeq (mDrop (mMet fApp (mOp fIx (mVar 0) (mK (.int 0))) (mCons (mOp fDiv (mVar 2) (mVar 1)) (mNil)))) (mRet (mOp fMod (mVar
    2) (mVar 1))))) (mNext)) (mSeq (mSto (mOp fMod (mCall fInt (mCons (mOp fAdd (mOp fMulA (mOp fIx (mVar 0) (mK (.int 1))) (mK (.int 48271))) (mK (.int 83))) (mNil))) (mK (.int 2147483647))) (mVar 0)
    (mK (.int 1))) (mRet (mOp fMod (mCall fInt (mCons (mOp fDiv (mOp fIx (mVar 0) (mK (.int 1))) (mK (.int 64))) (mNil))) (mVar 1))))))
theorem w__law_any {P : Program} {w : World} {K : PySem.W.Frag} {mg : Str → Option Value} {base : Heap} {ad : Nat → Addr} {fd : Nat → FuncData} {tb : Nat → Addr × Addr} (T : Tx P w K mg ad fd tb) :
    FnD P w K mg base 1 (ad 38) (fd 38) ["_law_deal_here", "_law_bound"] (m__law_any) :=
  have nd := sc__law_any.nd
FnD.of T.F__law_any sc__law_any fun cdv hcd A outer s H E hr gd tk hp => s_cons (s_while hp (PW.pt (w_and (t_ne hr.units (d_ix (d_var 0) (d_int)) (d_lst (a_nil))) (w_and1 (t_eq hr.units (d_ix (d_ix
    (d_var 0) (d_int)) (d_neg (d_int))) (d_int))))) (s_one (s_expr (d_pop (d_ix (d_var 0) (d_int)))))) (s_cons (s_if (t_ne hr.units (d_ix (d_var 0) (d_int)) (d_lst (a_nil))) (s_cons (s_set (i := 2) nd
    (d_intf T.z_int (a_cons (d_pop (d_ix (d_var 0) (d_int))) (a_nil)))) (s_cons (s_expr (d_app (d_ix (d_var 0) (d_int)) (a_cons (d_div (d_var 2) (d_var 1)) (a_nil)))) (s_one (s_ret (d_mod (d_var 2)
    (d_var 1)))))) (s_nil)) (s_cons (s_setI (d_mod (d_intf T.z_int (a_cons (d_add (d_mulA (d_ix (d_var 0) (d_int)) (d_int)) (d_int)) (a_nil))) (d_int)) (pg_sub (d_var 0) (d_int) set_list)) (s_one
    (s_ret (d_mod (d_intf T.z_int (a_cons (d_div (d_ix (d_var 0) (d_int)) (d_int)) (a_nil))) (d_var 1))))))
noncomputable def m__law_of (c__law_any : List D → AH → Res D) : List D → AH → Res D := mFun 2 (mRet (mOp fIx (mVar 1) (mCallF 2 c__law_any (mCons (mVar 0) (mCons (mCall fLen (mCons (mVar 1) (mNil)))
    (mNil))))))
theorem w__law_of {P : Program} {w : World} {K : PySem.W.Frag} {mg : Str → Option Value} {base : Heap} {ad : Nat → Addr} {fd : Nat → FuncData} {tb : Nat → Addr × Addr} (T : Tx P w K mg ad fd tb)
    {c__law_any : List D → AH → Res D} (G__law_any : FnD P w K mg base 1 (ad 38) (fd 38) ["_law_deal_here", "_law_bound"] c__law_any) :
    FnD P w K mg base 2 (ad 39) (fd 39) ["_law_deal_here", "_law_some"] (m__law_of c__law_any) :=
  have nd := sc__law_of.nd
FnD.of T.F__law_of sc__law_of fun cdv hcd A outer s H E hr gd tk hp => s_one (s_ret (d_ix (d_var 1) (d_call G__law_any (hr.mono (by decide)) gd tk T.g__law_any T.F__law_any.kp T.b__law_any (a_cons
    (d_var 0) (a_cons (d_len T.z_len (a_cons (d_var 1) (a_nil))) (a_nil))))))
noncomputable def m__law_keys (c__law_of : List D → AH → Res D) (c__law_any : List D → AH → Res D) : List D → AH → Res D := mFun 9 (mSeq (mAsg (.tp [.nm 2, .nm 3]) (mTup (mCons (mK (.str
    "abcdefghijklmnopqrstuvwxyz0123456789_")) (mCons (mNew (mNil)) (mNil))))) (mSeq (mSet 4 (mJoin (mK (.str "")) (mLc false (mR1 (mCons (mCallF 2 c__law_of (mCons (mVar 0) (mCons (mLst (mCons (mK
    (.int 0)) (mCons (mK (.int 0)) (mCons (mK (.int 1)) (mCons (mK (.int 2)) (mCons (mK (.int 9)) (mCons (mK (.int 13)) (mNil)))))))) (mNil)))) (mNil))) (.nm 5) (mYes) (mOp fIx (mVar 2) (mCallF 2
    c__law_any (mCons (mVar 0) (mCons (mK (.int 37)) (mNil))))) [5]))) (mSeq (mFor (mR1 (mCons (mOp fMulA (mK (.int 3)) (mVar 1)) (mNil))) (.nm 5) (mSeq (mSet 6 (mCallF 2 c__law_of (mCons (mVar 0)
    (mCons (mLst (mCons (mK (.int 1)) (mCons (mK (.int 1)) (mCons (mK (.int 2)) (mCons (mK (.int 2)) (mCons (mK (.int 2)) (mCons (mK (.int 3)) (mNil)))))))) (mNil))))) (mSeq (mSet 7 (mSlX (mOp fAdd
    (mVar 4) (mJoin (mK (.str "")) (mLc false (mR1 (mCons (mVar 6) (mNil))) (.nm 8) (mYes) (mOp fIx (mVar 2) (mCallF 2 c__law_any (mCons (mVar 0) (mCons (mK (.int 37)) (mNil))))) [8]))) (mNone) (mSome
    (mK (.int 16))))) (mSeq (mIfS (mAnd (mTst (mOp (fIn true) (mVar 7) (mVar 3))) (mTst (mOp fLt (mCall fLen (mCons (mVar 3) (mNil))) (mVar 1)))) (mDrop (mMet fApp (mVar 3) (mCons (mVar 7) (mNil))))
    (mNext)) (mIfS (mAnd (mTst (mOp (fEq true) (mVar 4) (mK (.str "")))) (mAnd (mTst (mOp (fIn true) (mVar 4) (mVar 3))) (mAnd (mTst (mOp fLt (mCall fLen (mCons (mVar 3) (mNil))) (mVar 1))) (mTst (mOp
    (fEq false) (mVar 5) (mK (.int 2))))))) (mDrop (mMet fApp (mVar 3) (mCons (mVar 4) (mNil)))) (mNext)))))) (mRet (mCall fSortS (mCons (mVar 3) (mNil)))))))
theorem w__law_keys {P : Program} {w : World} {K : PySem.W.Frag} {mg : Str → Option Value} {base : Heap} {ad : Nat → Addr} {fd : Nat → FuncData} {tb : Nat → Addr × Addr} (T : Tx P w K mg ad fd tb)
    {c__law_of : List D → AH → Res D} (G__law_of : FnD P w K mg base 2 (ad 39) (fd 39) ["_law_deal_here", "_law_some"] c__law_of) {c__law_any : List D → AH → Res D} (G__law_any : FnD P w K mg base 1
    (ad 38) (fd 38) ["_law_deal_here", "_law_bound"] c__law_any) :
    FnD P w K mg base 3 (ad 40) (fd 40) ["_law_deal_here", "_law_many"] (m__law_keys c__law_of c__law_any) :=
  have nd := sc__law_keys.nd
FnD.of T.F__law_keys sc__law_keys fun cdv hcd A outer s H E hr gd tk hp => s_cons (s_asg (t := .tp [.nm 2, .nm 3]) (d_tup (a_cons (d_str) (a_cons (d_new (a_nil)) (a_nil)))) (tg_tp (ts := [.nm 2, .nm
    3]) rfl (tgs_cons (tg_nm (i := 2) nd) (tgs_cons (tg_nm (i := 3) nd) (tgs_nil))))) (s_cons (s_set (i := 4) nd (d_join (d_str) (d_lc (t := .nm 5) false [("_law_turn", 5)] rfl nd (i_r1 T.z_range
    (a_cons (d_call G__law_of (hr.mono (by decide)) gd tk T.g__law_of T.F__law_of.kp T.b__law_of (a_cons (d_var 0) (a_cons (d_lst (a_cons (d_int) (a_cons (d_int) (a_cons (d_int) (a_cons (d_int) (a_cons
    (d_int) (a_cons (d_int) (a_nil)))))))) (a_nil)))) (a_nil))) (blkOk_by (N := nm__law_keys) (sc := defScope x__law_keys) (by decide +kernel)) (fun _ _ _ _ _ => tg_nm (i := 5) nd) (fun _ _ _ _ _ =>
    l_nil) (fun _ _ _ _ _ => d_ix (d_var 2) (d_call G__law_any (hr.mono (by decide)) gd takes0 T.g__law_any T.F__law_any.kp T.b__law_any (a_cons (d_var 0) (a_cons (d_int) (a_nil))))) (sl := [5])
    (by decide)))) (s_cons (s_for hp rfl (i_r1 T.z_range (a_cons (d_mulA (d_int) (d_var 1)) (a_nil))) (tg_nm (i := 5) nd) (s_cons (s_set (i := 6) nd (d_call G__law_of (hr.mono (by decide)) gd tk
    T.g__law_of T.F__law_of.kp T.b__law_of (a_cons (d_var 0) (a_cons (d_lst (a_cons (d_int) (a_cons (d_int) (a_cons (d_int) (a_cons (d_int) (a_cons (d_int) (a_cons (d_int) (a_nil)))))))) (a_nil)))))
    (s_cons (s_set (i := 7) nd (d_slx (d_add (d_var 4) (d_join (d_str) (d_lc (t := .nm 8) false [("_law_at", 8)] rfl nd (i_r1 T.z_range (a_cons (d_var 6) (a_nil))) (blkOk_by (N := nm__law_keys) (sc :=
    defScope x__law_keys) (by decide +kernel)) (fun _ _ _ _ _ => tg_nm (i := 8) nd) (fun _ _ _ _ _ => l_nil) (fun _ _ _ _ _ => d_ix (d_var 2) (d_call G__law_any (hr.mono (by decide)) gd takes0
    T.g__law_any T.F__law_any.kp T.b__law_any (a_cons (d_var 0) (a_cons (d_int) (a_nil))))) (sl := [8]) (by decide)))) (o_none) (o_some (d_int)))) (s_cons (s_if (PW.pt (w_and (t_nin (d_var 7) (d_var
    3)) (w_and1 (t_lt (d_len T.z_len (a_cons (d_var 3) (a_nil))) (d_var 1))))) (s_one (s_expr (d_app (d_var 3) (a_cons (d_var 7) (a_nil))))) (s_nil)) (s_one (s_if (PW.pt (w_and (t_ne hr.units (d_var 4)
    (d_str)) (w_and (t_nin (d_var 4) (d_var 3)) (w_and (t_lt (d_len T.z_len (a_cons (d_var 3) (a_nil))) (d_var 1)) (w_and1 (t_eq hr.units (d_var 5) (d_int))))))) (s_one (s_expr (d_app (d_var 3) (a_cons
    (d_var 4) (a_nil))))) (s_nil))))))) (s_one (s_ret (d_sortS T.z_sorted (a_cons (d_var 3) (a_nil)))))))
noncomputable def m__law_thing (c__law_of : List D → AH → Res D) (c__law_any : List D → AH → Res D) : List D → AH → Res D := mFun 2 (mSeq (mSet 1 (mOp fSub (mCallF 2 c__law_any (mCons (mVar 0) (mCons
    (mK (.int 1000)) (mNil)))) (mK (.int 300)))) (mRet (mCallF 2 c__law_of (mCons (mVar 0) (mCons (mLst (mCons (mVar 1) (mCons (mVar 1) (mCons (mK .non) (mCons (mK (.bl true)) (mCons (mK (.bl false))
    (mCons (mK (.int 0)) (mCons (mK (.int 1)) (mCons (mK (.str "")) (mCons (mOp fAdd (mK (.str "x")) (mCall fStrI (mCons (mVar 1) (mNil)))) (mCons (mTup (mCons (mVar 1) (mCons (mK (.str "a")) (mNil))))
    (mCons (mTup (mCons (mTup (mNil)) (mCons (mTup (mCons (mK .non) (mCons (mK (.int 1)) (mNil)))) (mNil)))) (mNil))))))))))))) (mNil))))))
theorem w__law_thing {P : Program} {w : World} {K : PySem.W.Frag} {mg : Str → Option Value} {base : Heap} {ad : Nat → Addr} {fd : Nat → FuncData} {tb : Nat → Addr × Addr} (T : Tx P w K mg ad fd tb)
    {c__law_of : List D → AH → Res D} (G__law_of : FnD P w K mg base 2 (ad 39) (fd 39) ["_law_deal_here", "_law_some"] c__law_of) {c__law_any : List D → AH → Res D} (G__law_any : FnD P w K mg base 1
    (ad 38) (fd 38) ["_law_deal_here", "_law_bound"] c__law_any) :
    FnD P w K mg base 3 (ad 41) (fd 41) ["_law_deal_here"] (m__law_thing c__law_of c__law_any) :=
  have nd := sc__law_thing.nd
FnD.of T.F__law_thing sc__law_thing fun cdv hcd A outer s H E hr gd tk hp => s_cons (s_set (i := 1) nd (d_sub (d_call G__law_any (hr.mono (by decide)) gd tk T.g__law_any T.F__law_any.kp T.b__law_any
    (a_cons (d_var 0) (a_cons (d_int) (a_nil)))) (d_int))) (s_one (s_ret (d_call G__law_of (hr.mono (by decide)) gd tk T.g__law_of T.F__law_of.kp T.b__law_of (a_cons (d_var 0) (a_cons (d_lst (a_cons
    (d_var 1) (a_cons (d_var 1) (a_cons (d_non) (a_cons (d_bl) (a_cons (d_bl) (a_cons (d_int) (a_cons (d_int) (a_cons (d_str) (a_cons (d_add (d_str) (d_strf T.z_str (a_cons (d_var 1) (a_nil)))) (a_cons
    (d_tup (a_cons (d_var 1) (a_cons (d_str) (a_nil)))) (a_cons (d_tup (a_cons (d_tup (a_nil)) (a_cons (d_tup (a_cons (d_non) (a_cons (d_int) (a_nil)))) (a_nil)))) (a_nil))))))))))))) (a_nil))))))
noncomputable def m__law_next : List D → AH → Res D := mFun 6 (mSeq (mSet 3 (mLc false (mSq (mCall fSortD (mCons (mVar 0) (mNil)))) (.nm 5) (mOr (mTst (mOp (fIsN false) (mVar 1) (mK .non))) (mIfT (mTst
    (mVar 2)) (mTst (mOp fGtX (mVar 5) (mVar 1))) (mTst (mOp fLtX (mVar 5) (mVar 1))))) (mVar 5) [5])) (mSeq (mIfS (mTst (mOp (fEq false) (mVar 3) (mLst (mNil)))) (mRet (mK .non)) (mNext)) (mSeq (mSet
    4 (mIf (mTst (mVar 2)) (mOp fIx (mVar 3) (mK (.int 0))) (mOp fIx (mVar 3) (mNeg (mK (.int 1)))))) (mRet (mTup (mCons (mVar 4) (mCons (mOp fDGet (mVar 0) (mVar 4)) (mNil))))))))
theorem w__law_next {P : Program} {w : World} {K : PySem.W.Frag} {mg : Str → Option Value} {base : Heap} {ad : Nat → Addr} {fd : Nat → FuncData} {tb : Nat → Addr × Addr} (T : Tx P w K mg ad fd tb) :
    FnD P w K mg base 1 (ad 42) (fd 42) ["_law_rows", "_law_key", "_law_is_up"] (m__law_next) :=
  have nd := sc__law_next.nd
FnD.of T.F__law_next sc__law_next fun cdv hcd A outer s H E hr gd tk hp => s_cons (s_setLc (i := 3) (t := .nm 5) false [("_law_one", 5)] rfl nd rfl rfl (sw_true rfl rfl rfl (by decide +kernel)) (i_sq
    (d_sortD rfl T.z_sorted (a_cons (d_var 0) (a_nil)))) (blkOk_by (N := nm__law_next) (sc := defScope x__law_next) (by decide +kernel)) (fun _ _ _ _ _ => tg_nm (i := 5) nd) (fun _ _ _ _ _ => l_one
    (PW.pt (w_or (t_is (d_var 1) (d_non)) (w_or1 (t_ifx (t_val (d_var 2)) (t_gtX (d_var 5) (d_var 1)) (t_ltX (d_var 5) (d_var 1))))))) (fun _ _ _ _ _ => d_var 5) (sl := [5]) (by decide)) (s_cons (s_if
    (t_eq hr.units (d_var 3) (d_lst (a_nil))) (s_one (s_ret (d_non))) (s_nil)) (s_cons (s_set (i := 4) nd (d_if (t_val (d_var 2)) (d_ix (d_var 3) (d_int)) (d_ix (d_var 3) (d_neg (d_int))))) (s_one
    (s_ret (d_tup (a_cons (d_var 4) (a_cons (d_dget hr.units (d_var 0) (d_var 4)) (a_nil))))))))
noncomputable def ms__law_wrong (c_after : List D → AH → Res D) (c_before : List D → AH → Res D) : MS := mSeq (mSet 2 (mNew (mNil))) (mSeq (mTry (mDrop (mCallF 2 c_after (mCons (mVar 0) (mCons (mVar 1)
    (mNil))))) [⟨"InvalidKey", ["InvalidKey"], ["InvalidSize"], some 3, fun C a d => mDrop (mMet fApp (mVar 2) (mCons (mXf C ["InvalidKey"] a d "at" (mVar 3)) (mNil)))⟩]) (mSeq (mTry (mDrop (mCallK 0 2
    2 [1, 0] c_before mNil (mCons (mVar 1) (mCons (mVar 0) (mNil))))) [⟨"InvalidKey", ["InvalidKey"], ["InvalidSize"], some 3, fun C a d => mDrop (mMet fApp (mVar 2) (mCons (mXf C ["InvalidKey"] a d
    "at" (mVar 3)) (mNil)))⟩]) (mRet (mVar 2))))
noncomputable def m__law_wrong (c_after : List D → AH → Res D) (c_before : List D → AH → Res D) : List D → AH → Res D := mFun 4 (ms__law_wrong c_after c_before)
theorem w__law_wrong {P : Program} {w : World} {K : PySem.W.Frag} {mg : Str → Option Value} {base : Heap} {ad : Nat → Addr} {fd : Nat → FuncData} {tb : Nat → Addr × Addr} (T : Tx P w K mg ad fd tb)
    {c_after : List D → AH → Res D} (G_after : FnD P w K mg base 4 (ad 28) (fd 28) ["page", "key"] c_after) {c_before : List D → AH → Res D} (G_before : FnD P w K mg base 4 (ad 29) (fd 29) ["page",
    "key"] c_before) :
    FnD P w K mg base 5 (ad 43) (fd 43) ["_law_page", "_law_value"] (m__law_wrong c_after c_before) :=
  have nd := sc__law_wrong.nd
FnD.of (ms := ms__law_wrong c_after c_before) T.F__law_wrong sc__law_wrong fun cdv hcd A outer s H E hr gd tk hp => s_cons (s_set (i := 2) nd (d_new (a_nil))) (s_cons (s_try rfl rfl nd tk (fun W pn xe
    tk hp => s_one (s_expr (d_call G_after (hr.mono (by decide)) gd tk T.g_after T.F_after.kp T.b_after (a_cons (d_var 0) (a_cons (d_var 1) (a_nil)))))) (.cons (hdF_own T.K_InvalidKey (subF_cons
    T.K_InvalidKey T.u_InvalidKey_InvalidKey (subF_nil)) (subF_cons T.K_InvalidSize T.u_InvalidSize_InvalidKey (subF_nil))) (HsM.nil)) (.named (i := 3) rfl rfl ⟨by rfl, by decide, .inl T.g_InvalidKey⟩
    (suite_ok fun a oe cls d pn C hz hf hC => s_one (s_expr (d_app (d_var 2) (a_cons (d_xf (xfF_cons T.K_InvalidKey T.n_InvalidKey_at (xfF_nil)) hC hz hf (d_var 3)) (a_nil))))) (HsOk.nil))) (s_cons
    (s_try rfl rfl nd tk (fun W pn xe tk hp => s_one (s_expr (d_callK0 (ks := ["key", "page"]) (pm := [1, 0]) G_before (hr.mono (by decide)) gd tk T.g_before T.F_before.kp T.k_before_key_page (k_cons
    (d_var 1) (k_cons (d_var 0) (k_nil)))))) (.cons (hdF_own T.K_InvalidKey (subF_cons T.K_InvalidKey T.u_InvalidKey_InvalidKey (subF_nil)) (subF_cons T.K_InvalidSize T.u_InvalidSize_InvalidKey
    (subF_nil))) (HsM.nil)) (.named (i := 3) rfl rfl ⟨by rfl, by decide, .inl T.g_InvalidKey⟩ (suite_ok fun a oe cls d pn C hz hf hC => s_one (s_expr (d_app (d_var 2) (a_cons (d_xf (xfF_cons
    T.K_InvalidKey T.n_InvalidKey_at (xfF_nil)) hC hz hf (d_var 3)) (a_nil))))) (HsOk.nil))) (s_one (s_ret (d_var 2)))))
noncomputable def m__law_changed (c__law_any : List D → AH → Res D) (c__law_of : List D → AH → Res D) (c__law_thing : List D → AH → Res D) (c_Tree__put : List D → AH → Res D) (c_Tree__take : List D →
    AH → Res D) : List D → AH → Res D := mFun 6 (mSeq (mFor (mR1 (mCons (mCallF 2 c__law_any (mCons (mVar 0) (mCons (mK (.int 3)) (mNil)))) (mNil))) (.nm 4) (mSeq (mSet 5 (mCallF 2 c__law_of (mCons
    (mVar 0) (mCons (mVar 3) (mNil))))) (mIfS (mTst (mOp (fEq false) (mCallF 2 c__law_any (mCons (mVar 0) (mCons (mK (.int 2)) (mNil)))) (mK (.int 0)))) (mSeq (mDPut (mCallF 1 c__law_thing (mCons (mVar
    0) (mNil))) (mVar 2) (mVar 5)) (mDrop (mMeth "Tree" "put" 3 c_Tree__put (mVar 1) (mCons (mVar 5) (mCons (mOp fDGet (mVar 2) (mVar 5)) (mNil)))))) (mSeq (mDrop (mDPop2 (mVar 2) (mVar 5) (mK .non)))
    (mDrop (mMeth "Tree" "take" 2 c_Tree__take (mVar 1) (mCons (mVar 5) (mNil)))))))) (mRet (mCall fSortD (mCons (mVar 2) (mNil)))))
theorem w__law_changed {P : Program} {w : World} {K : PySem.W.Frag} {mg : Str → Option Value} {base : Heap} {ad : Nat → Addr} {fd : Nat → FuncData} {tb : Nat → Addr × Addr} (T : Tx P w K mg ad fd tb)
    {c__law_any : List D → AH → Res D} (G__law_any : FnD P w K mg base 1 (ad 38) (fd 38) ["_law_deal_here", "_law_bound"] c__law_any) {c__law_of : List D → AH → Res D} (G__law_of : FnD P w K mg base 2
    (ad 39) (fd 39) ["_law_deal_here", "_law_some"] c__law_of) {c__law_thing : List D → AH → Res D} (G__law_thing : FnD P w K mg base 3 (ad 41) (fd 41) ["_law_deal_here"] c__law_thing) {c_Tree__put :
    List D → AH → Res D} (G_Tree__put : FnD P w K mg base 13 (ad 34) (fd 34) ["self", "key", "thing"] c_Tree__put) {c_Tree__take : List D → AH → Res D} (G_Tree__take : FnD P w K mg base 14 (ad 35) (fd
    35) ["self", "key"] c_Tree__take) :
    FnD P w K mg base 15 (ad 44) (fd 44) ["_law_deal_here", "_law_tree", "_law_rows", "_law_keys_here"] (m__law_changed c__law_any c__law_of c__law_thing c_Tree__put c_Tree__take) :=
  have nd := sc__law_changed.nd
FnD.of T.F__law_changed sc__law_changed fun cdv hcd A outer s H E hr gd tk hp => s_cons (s_for hp rfl (i_r1 T.z_range (a_cons (d_call G__law_any (hr.mono (by decide)) gd tk T.g__law_any T.F__law_any.kp
    T.b__law_any (a_cons (d_var 0) (a_cons (d_int) (a_nil)))) (a_nil))) (tg_nm (i := 4) nd) (s_cons (s_set (i := 5) nd (d_call G__law_of (hr.mono (by decide)) gd tk T.g__law_of T.F__law_of.kp
    T.b__law_of (a_cons (d_var 0) (a_cons (d_var 3) (a_nil))))) (s_one (s_if (t_eq hr.units (d_call G__law_any (hr.mono (by decide)) gd tk T.g__law_any T.F__law_any.kp T.b__law_any (a_cons (d_var 0)
    (a_cons (d_int) (a_nil)))) (d_int)) (s_cons (s_dput (units64 hr) (d_var 2) (d_var 5) (d_call G__law_thing (hr.mono (by decide)) gd tk T.g__law_thing T.F__law_thing.kp T.b__law_thing (a_cons (d_var
    0) (a_nil)))) (s_one (s_expr (d_meth T.K_Tree T.m_Tree__put G_Tree__put (hr.mono (by decide)) gd tk T.b_Tree__put (d_var 1) (a_cons (d_var 5) (a_cons (d_dget hr.units (d_var 2) (d_var 5))
    (a_nil))))))) (s_cons (s_expr (d_dpop2 (d_var 2) (d_var 5) (d_non) ⟨by rfl, by rfl, by rfl, by rfl⟩)) (s_one (s_expr (d_meth T.K_Tree T.m_Tree__take G_Tree__take (hr.mono (by decide)) gd tk
    T.b_Tree__take (d_var 1) (a_cons (d_var 5) (a_nil)))))))))) (s_one (s_ret (d_sortD rfl T.z_sorted (a_cons (d_var 2) (a_nil)))))
noncomputable def m_law (c__law_deal : List D → AH → Res D) (c__law_of : List D → AH → Res D) (c__law_keys : List D → AH → Res D) (c_Tree__init : List D → AH → Res D) (c__law_thing : List D → AH → Res
    D) (c_Tree__put : List D → AH → Res D) (c__law_changed : List D → AH → Res D) (c__law_any : List D → AH → Res D) (c_Tree__root : List D → AH → Res D) (c__law_next : List D → AH → Res D) (c_after :
    List D → AH → Res D) (c_before : List D → AH → Res D) (c__law_wrong : List D → AH → Res D) (c_first : List D → AH → Res D) (c_last : List D → AH → Res D) : List D → AH → Res D := mFun 19 (mSeq
    (mSet 1 (mCallF 2 c__law_deal (mCons (mVar 0) (mCons (mK (.int 12)) (mNil))))) (mSeq (mPar2 2 3 (mCons (mCallF 2 c__law_keys (mCons (mVar 1) (mCons (mOp fAdd (mK (.int 1)) (mCallF 2 c__law_any
    (mCons (mVar 1) (mCons (mK (.int 30)) (mNil))))) (mNil)))) (mCons (mDict0) (mNil)))) (mSeq (mPar2 4 5 (mCons (mMake "Tree" 2 c_Tree__init (mCons (mCallF 2 c__law_of (mCons (mVar 1) (mCons (mLst
    (mCons (mK (.int 3)) (mCons (mK (.int 3)) (mCons (mK (.int 4)) (mCons (mK (.int 6)) (mNil)))))) (mNil)))) (mNil))) (mCons (mOp (fEq false) (mCallF 2 c__law_any (mCons (mVar 1) (mCons (mK (.int 2))
    (mNil)))) (mK (.int 0))) (mNil)))) (mSeq (mFor (mSq (mIf (mTst (mOp fGt (mCallF 2 c__law_any (mCons (mVar 1) (mCons (mK (.int 5)) (mNil)))) (mK (.int 0)))) (mVar 2) (mLst (mNil)))) (.nm 6) (mSeq
    (mSet 6 (mCallF 2 c__law_of (mCons (mVar 1) (mCons (mVar 2) (mNil))))) (mSeq (mDPut (mCallF 1 c__law_thing (mCons (mVar 1) (mNil))) (mVar 3) (mVar 6)) (mDrop (mMeth "Tree" "put" 3 c_Tree__put (mVar
    4) (mCons (mVar 6) (mCons (mOp fDGet (mVar 3) (mVar 6)) (mNil)))))))) (mSeq (mAsg (.tp [.nm 7, .nm 8, .nm 6, .nm 9]) (mTup (mCons (mCall fSortD (mCons (mVar 3) (mNil))) (mCons (mNew (mNil)) (mCons
    (mK .non) (mCons (mK (.bl false)) (mNil))))))) (mSeq (mFor (mR1 (mCons (mK (.int 80)) (mNil))) (.nm 10) (mSeq (mPar2 13 12 (mCons (mMeth "Tree" "root" 1 c_Tree__root (mVar 4) mNil) (mCons (mCallF 3
    c__law_next (mCons (mVar 3) (mCons (mVar 6) (mCons (mVar 5) (mNil))))) (mNil)))) (mSeq (mIfS (mTst (mOp (fIsN false) (mVar 6) (mK .non))) (mSeq (mSet 17 (mIf (mTst (mVar 5)) (mCallF 1 c_first
    (mCons (mVar 13) (mNil))) (mCallF 1 c_last (mCons (mVar 13) (mNil))))) (mIfS (mTst (mOp (fEq true) (mCall fRepr (mCons (mLst (mCons (mCallK 0 1 1 [0] c_first mNil (mCons (mVar 13) (mNil))) (mCons
    (mCallK 0 1 1 [0] c_last mNil (mCons (mVar 13) (mNil))) (mNil)))) (mNil))) (mCall fRepr (mCons (mLst (mCons (mCallF 3 c__law_next (mCons (mVar 3) (mCons (mK .non) (mCons (mK (.bl true)) (mNil)))))
    (mCons (mCallF 3 c__law_next (mCons (mVar 3) (mCons (mK .non) (mCons (mK (.bl false)) (mNil))))) (mNil)))) (mNil))))) (mRet (mK (.bl false))) (mNext))) (mSet 17 (mIf (mTst (mVar 5)) (mCallF 2
    c_after (mCons (mVar 13) (mCons (mVar 6) (mNil)))) (mCallF 2 c_before (mCons (mVar 13) (mCons (mVar 6) (mNil))))))) (mSeq (mIfS (mTst (mOp (fEq true) (mCall fRepr (mCons (mVar 17) (mNil))) (mCall
    fRepr (mCons (mVar 12) (mNil))))) (mRet (mK (.bl false))) (mNext)) (mSeq (mSet 14 (mCallF 2 c__law_of (mCons (mVar 1) (mCons (mVar 2) (mNil))))) (mSeq (mSet 15 (mLst (mCons (mCallK 0 2 2 [1, 0]
    c_after mNil (mCons (mVar 14) (mCons (mVar 13) (mNil)))) (mCons (mCallF 2 c_before (mCons (mVar 13) (mCons (mVar 14) (mNil)))) (mNil))))) (mSeq (mIfS (mTst (mOp (fEq true) (mCall fRepr (mCons (mVar
    15) (mNil))) (mCall fRepr (mCons (mLst (mCons (mCallF 3 c__law_next (mCons (mVar 3) (mCons (mVar 14) (mCons (mK (.bl true)) (mNil))))) (mCons (mCallF 3 c__law_next (mCons (mVar 3) (mCons (mVar 14)
    (mCons (mK (.bl false)) (mNil))))) (mNil)))) (mNil))))) (mRet (mK (.bl false))) (mNext)) (mSeq (mIfS (mTst (mOp (fIsN false) (mVar 12) (mK .non))) (mSeq (mSet 9 (mK (.bl true))) (mBk)) (mNext))
    (mSeq (mSet 6 (mOp fIx (mVar 12) (mK (.int 0)))) (mSeq (mDrop (mMet fApp (mVar 8) (mCons (mVar 6) (mNil)))) (mSeq (mSet 16 (mCallF 4 c__law_changed (mCons (mVar 1) (mCons (mVar 4) (mCons (mVar 3)
    (mCons (mVar 2) (mNil))))))) (mSet 7 (mLc false (mSq (mVar 7)) (.nm 18) (mTst (mOp (fIn false) (mVar 18) (mVar 16))) (mVar 18) [18]))))))))))))) (mSeq (mSet 11 (mCallF 2 c__law_of (mCons (mVar 1)
    (mCons (mLst (mCons (mK .non) (mCons (mK (.str "")) (mCons (mK (.int 3)) (mCons (mK (.str "a b")) (mCons (mK (.str "Z")) (mCons (mTup (mCons (mK (.str "a")) (mNil))) (mCons (mOp fAdd (mOp fIx (mVar
    2) (mK (.int 0))) (mK (.str "abcdefghijklmnop"))) (mCons (mK (.bl true)) (mNil)))))))))) (mNil))))) (mSeq (mSet 12 (mIf (mOr (mNot (mTst (mCall fIsi (mCons (mVar 11) (mCons (mK (.ty "str"))
    (mNil)))))) (mTst (mOp (fEq false) (mVar 11) (mK (.str ""))))) (mNeg (mK (.int 1))) (mIf (mTst (mOp (fEq false) (mVar 11) (mK (.str "a b")))) (mK (.int 1)) (mIf (mTst (mOp (fEq false) (mVar 11) (mK
    (.str "Z")))) (mK (.int 0)) (mK (.int 16)))))) (mSeq (mIfS (mTst (mOp (fEq true) (mCall fRepr (mCons (mCallF 2 c__law_wrong (mCons (mMeth "Tree" "root" 1 c_Tree__root (mVar 4) mNil) (mCons (mVar
    11) (mNil)))) (mNil))) (mCall fRepr (mCons (mLst (mCons (mVar 12) (mCons (mVar 12) (mNil)))) (mNil))))) (mRet (mK (.bl false))) (mNext)) (mRet (mAndV (mVar 9) (mAndV (mOp (fEq false) (mLc false
    (mSq (mVar 7)) (.nm 18) (mTst (mOp (fIn true) (mVar 18) (mVar 8))) (mVar 18) [18]) (mLst (mNil))) (mOp (fEq false) (mCall fLen (mCons (mVar 8) (mNil))) (mCall fLen (mCons (mLc false (mSq (mVar 2))
    (.nm 18) (mTst (mOp (fIn false) (mVar 18) (mVar 8))) (mVar 18) [18]) (mNil))))))))))))))))
theorem w_law {P : Program} {w : World} {K : PySem.W.Frag} {mg : Str → Option Value} {base : Heap} {ad : Nat → Addr} {fd : Nat → FuncData} {tb : Nat → Addr × Addr} (T : Tx P w K mg ad fd tb)
    {c__law_deal : List D → AH → Res D} (G__law_deal : FnD P w K mg base 1 (ad 37) (fd 37) ["_law_script", "_law_base"] c__law_deal) {c__law_of : List D → AH → Res D} (G__law_of : FnD P w K mg base 2
    (ad 39) (fd 39) ["_law_deal_here", "_law_some"] c__law_of) {c__law_keys : List D → AH → Res D} (G__law_keys : FnD P w K mg base 3 (ad 40) (fd 40) ["_law_deal_here", "_law_many"] c__law_keys)
    {c_Tree__init : List D → AH → Res D} (G_Tree__init : FnD P w K mg base 3 (ad 30) (fd 30) ["self", "most"] c_Tree__init) {c__law_thing : List D → AH → Res D} (G__law_thing : FnD P w K mg base 3 (ad
    41) (fd 41) ["_law_deal_here"] c__law_thing) {c_Tree__put : List D → AH → Res D} (G_Tree__put : FnD P w K mg base 13 (ad 34) (fd 34) ["self", "key", "thing"] c_Tree__put) {c__law_changed : List D →
    AH → Res D} (G__law_changed : FnD P w K mg base 15 (ad 44) (fd 44) ["_law_deal_here", "_law_tree", "_law_rows", "_law_keys_here"] c__law_changed) {c__law_any : List D → AH → Res D} (G__law_any :
    FnD P w K mg base 1 (ad 38) (fd 38) ["_law_deal_here", "_law_bound"] c__law_any) {c_Tree__root : List D → AH → Res D} (G_Tree__root : FnD P w K mg base 1 (ad 33) (fd 33) ["self"] c_Tree__root)
    {c__law_next : List D → AH → Res D} (G__law_next : FnD P w K mg base 1 (ad 42) (fd 42) ["_law_rows", "_law_key", "_law_is_up"] c__law_next) {c_after : List D → AH → Res D} (G_after : FnD P w K mg
    base 4 (ad 28) (fd 28) ["page", "key"] c_after) {c_before : List D → AH → Res D} (G_before : FnD P w K mg base 4 (ad 29) (fd 29) ["page", "key"] c_before) {c__law_wrong : List D → AH → Res D}
    (G__law_wrong : FnD P w K mg base 5 (ad 43) (fd 43) ["_law_page", "_law_value"] c__law_wrong) {c_first : List D → AH → Res D} (G_first : FnD P w K mg base 2 (ad 26) (fd 26) ["page"] c_first)
    {c_last : List D → AH → Res D} (G_last : FnD P w K mg base 2 (ad 27) (fd 27) ["page"] c_last) :
    FnD P w K mg base 16 (ad 45) (fd 45) ["_law_script"] (m_law c__law_deal c__law_of c__law_keys c_Tree__init c__law_thing c_Tree__put c__law_changed c__law_any c_Tree__root c__law_next c_after c_before c__law_wrong c_first c_last) :=
  have nd := sc_law.nd
FnD.of T.F_law sc_law fun cdv hcd A outer s H E hr gd tk hp => s_cons (s_set (i := 1) nd (d_call G__law_deal (hr.mono (by decide)) gd tk T.g__law_deal T.F__law_deal.kp T.b__law_deal (a_cons (d_var 0)
    (a_cons (d_int) (a_nil))))) (s_cons (s_par2 (i := 2) (j := 3) rfl nd rfl rfl (by decide) rfl rfl (a_cons (d_call G__law_keys (hr.mono (by decide)) gd tk T.g__law_keys T.F__law_keys.kp T.b__law_keys
    (a_cons (d_var 1) (a_cons (d_add (d_int) (d_call G__law_any (hr.mono (by decide)) gd tk T.g__law_any T.F__law_any.kp T.b__law_any (a_cons (d_var 1) (a_cons (d_int) (a_nil))))) (a_nil)))) (a_cons
    (d_dict0) (a_nil))) (by rfl)) (s_cons (s_par2 (i := 4) (j := 5) rfl nd rfl rfl (by decide) rfl rfl (a_cons (d_make T.K_Tree T.M_Tree G_Tree__init (hr.mono (by decide)) gd tk T.g_Tree T.b_Tree__init
    (a_cons (d_call G__law_of (hr.mono (by decide)) gd tk T.g__law_of T.F__law_of.kp T.b__law_of (a_cons (d_var 1) (a_cons (d_lst (a_cons (d_int) (a_cons (d_int) (a_cons (d_int) (a_cons (d_int)
    (a_nil)))))) (a_nil)))) (a_nil))) (a_cons (d_eq hr.units (d_call G__law_any (hr.mono (by decide)) gd tk T.g__law_any T.F__law_any.kp T.b__law_any (a_cons (d_var 1) (a_cons (d_int) (a_nil))))
    (d_int)) (a_nil))) (by rfl)) (s_cons (s_for hp rfl (i_sq (d_if (t_gt (d_call G__law_any (hr.mono (by decide)) gd tk T.g__law_any T.F__law_any.kp T.b__law_any (a_cons (d_var 1) (a_cons (d_int)
    (a_nil)))) (d_int)) (d_var 2) (d_lst (a_nil)))) (tg_nm (i := 6) nd) (s_cons (s_set (i := 6) nd (d_call G__law_of (hr.mono (by decide)) gd tk T.g__law_of T.F__law_of.kp T.b__law_of (a_cons (d_var 1)
    (a_cons (d_var 2) (a_nil))))) (s_cons (s_dput (units64 hr) (d_var 3) (d_var 6) (d_call G__law_thing (hr.mono (by decide)) gd tk T.g__law_thing T.F__law_thing.kp T.b__law_thing (a_cons (d_var 1)
    (a_nil)))) (s_one (s_expr (d_meth T.K_Tree T.m_Tree__put G_Tree__put (hr.mono (by decide)) gd tk T.b_Tree__put (d_var 4) (a_cons (d_var 6) (a_cons (d_dget hr.units (d_var 3) (d_var 6))
    (a_nil))))))))) (s_cons (s_asg (t := .tp [.nm 7, .nm 8, .nm 6, .nm 9]) (d_tup (a_cons (d_sortD rfl T.z_sorted (a_cons (d_var 3) (a_nil))) (a_cons (d_new (a_nil)) (a_cons (d_non) (a_cons (d_bl)
    (a_nil)))))) (tg_tp (ts := [.nm 7, .nm 8, .nm 6, .nm 9]) rfl (tgs_cons (tg_nm (i := 7) nd) (tgs_cons (tg_nm (i := 8) nd) (tgs_cons (tg_nm (i := 6) nd) (tgs_cons (tg_nm (i := 9) nd) (tgs_nil)))))))
    (s_cons (s_for hp rfl (i_r1 T.z_range (a_cons (d_int) (a_nil))) (tg_nm (i := 10) nd) (s_cons (s_par2 (i := 13) (j := 12) rfl nd rfl rfl (by decide) rfl rfl (a_cons (d_meth0 T.K_Tree T.m_Tree__root
    G_Tree__root (hr.mono (by decide)) gd tk T.b_Tree__root (d_var 4)) (a_cons (d_call G__law_next (hr.mono (by decide)) gd tk T.g__law_next T.F__law_next.kp T.b__law_next (a_cons (d_var 3) (a_cons
    (d_var 6) (a_cons (d_var 5) (a_nil))))) (a_nil))) (by rfl)) (s_cons (s_if (t_is (d_var 6) (d_non)) (s_cons (s_set (i := 17) nd (d_if (t_val (d_var 5)) (d_call G_first (hr.mono (by decide)) gd tk
    T.g_first T.F_first.kp T.b_first (a_cons (d_var 13) (a_nil))) (d_call G_last (hr.mono (by decide)) gd tk T.g_last T.F_last.kp T.b_last (a_cons (d_var 13) (a_nil))))) (s_one (s_if (t_ne hr.units
    (d_repr gd hr.units T.z_repr (a_cons (d_lst (a_cons (d_callK0 (ks := ["page"]) (pm := [0]) G_first (hr.mono (by decide)) gd tk T.g_first T.F_first.kp T.k_first_page (k_cons (d_var 13) (k_nil)))
    (a_cons (d_callK0 (ks := ["page"]) (pm := [0]) G_last (hr.mono (by decide)) gd tk T.g_last T.F_last.kp T.k_last_page (k_cons (d_var 13) (k_nil))) (a_nil)))) (a_nil))) (d_repr gd hr.units T.z_repr
    (a_cons (d_lst (a_cons (d_call G__law_next (hr.mono (by decide)) gd tk T.g__law_next T.F__law_next.kp T.b__law_next (a_cons (d_var 3) (a_cons (d_non) (a_cons (d_bl) (a_nil))))) (a_cons (d_call
    G__law_next (hr.mono (by decide)) gd tk T.g__law_next T.F__law_next.kp T.b__law_next (a_cons (d_var 3) (a_cons (d_non) (a_cons (d_bl) (a_nil))))) (a_nil)))) (a_nil)))) (s_one (s_ret (d_bl)))
    (s_nil)))) (s_one (s_set (i := 17) nd (d_if (t_val (d_var 5)) (d_call G_after (hr.mono (by decide)) gd tk T.g_after T.F_after.kp T.b_after (a_cons (d_var 13) (a_cons (d_var 6) (a_nil)))) (d_call
    G_before (hr.mono (by decide)) gd tk T.g_before T.F_before.kp T.b_before (a_cons (d_var 13) (a_cons (d_var 6) (a_nil)))))))) (s_cons (s_if (t_ne hr.units (d_repr gd hr.units T.z_repr (a_cons (d_var
    17) (a_nil))) (d_repr gd hr.units T.z_repr (a_cons (d_var 12) (a_nil)))) (s_one (s_ret (d_bl))) (s_nil)) (s_cons (s_set (i := 14) nd (d_call G__law_of (hr.mono (by decide)) gd tk T.g__law_of
    T.F__law_of.kp T.b__law_of (a_cons (d_var 1) (a_cons (d_var 2) (a_nil))))) (s_cons (s_set (i := 15) nd (d_lst (a_cons (d_callK0 (ks := ["key", "page"]) (pm := [1, 0]) G_after (hr.mono (by decide))
    gd tk T.g_after T.F_after.kp T.k_after_key_page (k_cons (d_var 14) (k_cons (d_var 13) (k_nil)))) (a_cons (d_call G_before (hr.mono (by decide)) gd tk T.g_before T.F_before.kp T.b_before (a_cons
    (d_var 13) (a_cons (d_var 14) (a_nil)))) (a_nil))))) (s_cons (s_if (t_ne hr.units (d_repr gd hr.units T.z_repr (a_cons (d_var 15) (a_nil))) (d_repr gd hr.units T.z_repr (a_cons (d_lst (a_cons
    (d_call G__law_next (hr.mono (by decide)) gd tk T.g__law_next T.F__law_next.kp T.b__law_next (a_cons (d_var 3) (a_cons (d_var 14) (a_cons (d_bl) (a_nil))))) (a_cons (d_call G__law_next (hr.mono
    (by decide)) gd tk T.g__law_next T.F__law_next.kp T.b__law_next (a_cons (d_var 3) (a_cons (d_var 14) (a_cons (d_bl) (a_nil))))) (a_nil)))) (a_nil)))) (s_one (s_ret (d_bl))) (s_nil)) (s_cons (s_if
    (t_is (d_var 12) (d_non)) (s_cons (s_set (i := 9) nd (d_bl)) (s_one (s_break))) (s_nil)) (s_cons (s_set (i := 6) nd (d_ix (d_var 12) (d_int))) (s_cons (s_expr (d_app (d_var 8) (a_cons (d_var 6)
    (a_nil)))) (s_cons (s_set (i := 16) nd (d_call G__law_changed (hr.mono (by decide)) gd tk T.g__law_changed T.F__law_changed.kp T.b__law_changed (a_cons (d_var 1) (a_cons (d_var 4) (a_cons (d_var 3)
    (a_cons (d_var 2) (a_nil))))))) (s_one (s_setLc (i := 7) (t := .nm 18) false [("_law_one", 18)] rfl nd rfl rfl (sw_true rfl rfl rfl (by decide +kernel)) (i_sq (d_var 7)) (blkOk_by (N := nm_law) (sc
    := defScope x_law) (by decide +kernel)) (fun _ _ _ _ _ => tg_nm (i := 18) nd) (fun _ _ _ _ _ => l_one (t_in (d_var 18) (d_var 16))) (fun _ _ _ _ _ => d_var 18) (sl := [18]) (by decide))))))))))))))
    (s_cons (s_set (i := 11) nd (d_call G__law_of (hr.mono (by decide)) gd tk T.g__law_of T.F__law_of.kp T.b__law_of (a_cons (d_var 1) (a_cons (d_lst (a_cons (d_non) (a_cons (d_str) (a_cons (d_int)
    (a_cons (d_str) (a_cons (d_str) (a_cons (d_tup (a_cons (d_str) (a_nil))) (a_cons (d_add (d_ix (d_var 2) (d_int)) (d_str)) (a_cons (d_bl) (a_nil)))))))))) (a_nil))))) (s_cons (s_set (i := 12) nd
    (d_if (PW.pt (w_or (t_not (t_val (d_isi T.z_isinstance (a_cons (d_var 11) (a_cons (d_ty T.z_str PyProof.Rows.Boot.«str») (a_nil)))))) (w_or1 (t_eq hr.units (d_var 11) (d_str))))) (d_neg (d_int))
    (d_if (t_eq hr.units (d_var 11) (d_str)) (d_int) (d_if (t_eq hr.units (d_var 11) (d_str)) (d_int) (d_int))))) (s_cons (s_if (t_ne hr.units (d_repr gd hr.units T.z_repr (a_cons (d_call G__law_wrong
    (hr.mono (by decide)) gd tk T.g__law_wrong T.F__law_wrong.kp T.b__law_wrong (a_cons (d_meth0 T.K_Tree T.m_Tree__root G_Tree__root (hr.mono (by decide)) gd tk T.b_Tree__root (d_var 4)) (a_cons
    (d_var 11) (a_nil)))) (a_nil))) (d_repr gd hr.units T.z_repr (a_cons (d_lst (a_cons (d_var 12) (a_cons (d_var 12) (a_nil)))) (a_nil)))) (s_one (s_ret (d_bl))) (s_nil)) (s_one (s_ret (d_andV (d_var
    9) (d_andV (d_eq hr.units (d_lc (t := .nm 18) false [("_law_one", 18)] rfl nd (i_sq (d_var 7)) (blkOk_by (N := nm_law) (sc := defScope x_law) (by decide +kernel)) (fun _ _ _ _ _ => tg_nm (i := 18)
    nd) (fun _ _ _ _ _ => l_one (t_nin (d_var 18) (d_var 8))) (fun _ _ _ _ _ => d_var 18) (sl := [18]) (by decide)) (d_lst (a_nil))) (d_one (d_eq hr.units (d_len T.z_len (a_cons (d_var 8) (a_nil)))
    (d_len T.z_len (a_cons (d_lc (t := .nm 18) false [("_law_one", 18)] rfl nd (i_sq (d_var 2)) (blkOk_by (N := nm_law) (sc := defScope x_law) (by decide +kernel)) (fun _ _ _ _ _ => tg_nm (i := 18) nd)
    (fun _ _ _ _ _ => l_one (t_in (d_var 18) (d_var 8))) (fun _ _ _ _ _ => d_var 18) (sl := [18]) (by decide)) (a_nil)))))))))))))))))
/-! ### the facts, gathered -/
theorem tx_mk {P : Program} {w : World} {K : PySem.W.Frag} {h : Heap} {mg : Str → Option Value} (X : K.In h) (G : h.Ns mainGlobals mg) {f0 f1 f2 f3 f4 f5 f6 f7 f8 f9 f10 f11 f12 f13 f14 f15 f16 f17 f18 f19 f20 f21 f22 f23 f24 f25 f26 f27 f28 f29 f30 f31 f32 f33 f34 f35 f36 f37 f38 f39 f40 f41 f42 f43 f44 f45 f46 f47 f48 f50 f51 f52 : Addr}
    {oc0 kV0 dc0 pm0 cd0 ct0 : Value} {od0 an0 : Option Addr} {sl0 : Array (Option Value)}
    (a0 : PySem.W.nsIn K mainGlobals "is_integer" = some (some (.ref f0)))
    (l0 : K.lookup f0 = some ⟨oc0, od0, .func (PySem.W.fnOf "is_integer" "is_integer" (defArgs x_is_integer) (defBody x_is_integer) (defScope x_is_integer) .none kV0 dc0 pm0 an0 cd0 ct0), sl0⟩)
    (c0 : PySem.W.codeIn K cd0 "is_integer" = true)
    (k0 : PySem.W.keepIn K (.ref f0) = true)
    {oc1 kV1 dc1 pm1 cd1 ct1 : Value} {od1 an1 : Option Addr} {sl1 : Array (Option Value)}
    (a1 : PySem.W.nsIn K mainGlobals "is_text" = some (some (.ref f1)))
    (l1 : K.lookup f1 = some ⟨oc1, od1, .func (PySem.W.fnOf "is_text" "is_text" (defArgs x_is_text) (defBody x_is_text) (defScope x_is_text) .none kV1 dc1 pm1 an1 cd1 ct1), sl1⟩)
    (c1 : PySem.W.codeIn K cd1 "is_text" = true)
    (k1 : PySem.W.keepIn K (.ref f1) = true)
    {oc2 kV2 dc2 pm2 cd2 ct2 : Value} {od2 an2 : Option Addr} {sl2 : Array (Option Value)}
    (a2 : PySem.W.nsIn K mainGlobals "wrong_sign" = some (some (.ref f2)))
    (l2 : K.lookup f2 = some ⟨oc2, od2, .func (PySem.W.fnOf "wrong_sign" "wrong_sign" (defArgs x_wrong_sign) (defBody x_wrong_sign) (defScope x_wrong_sign) .none kV2 dc2 pm2 an2 cd2 ct2), sl2⟩)
    (c2 : PySem.W.codeIn K cd2 "wrong_sign" = true)
    (k2 : PySem.W.keepIn K (.ref f2) = true)
    {oc3 kV3 dc3 pm3 cd3 ct3 : Value} {od3 an3 : Option Addr} {sl3 : Array (Option Value)}
    (a3 : PySem.W.nsIn K mainGlobals "key_fault" = some (some (.ref f3)))
    (l3 : K.lookup f3 = some ⟨oc3, od3, .func (PySem.W.fnOf "key_fault" "key_fault" (defArgs x_key_fault) (defBody x_key_fault) (defScope x_key_fault) .none kV3 dc3 pm3 an3 cd3 ct3), sl3⟩)
    (c3 : PySem.W.codeIn K cd3 "key_fault" = true)
    (k3 : PySem.W.keepIn K (.ref f3) = true)
    {oc4 kV4 dc4 pm4 cd4 ct4 : Value} {od4 an4 : Option Addr} {sl4 : Array (Option Value)}
    (a4 : PySem.W.nsIn K mainGlobals "is_key" = some (some (.ref f4)))
    (l4 : K.lookup f4 = some ⟨oc4, od4, .func (PySem.W.fnOf "is_key" "is_key" (defArgs x_is_key) (defBody x_is_key) (defScope x_is_key) .none kV4 dc4 pm4 an4 cd4 ct4), sl4⟩)
    (c4 : PySem.W.codeIn K cd4 "is_key" = true)
    (k4 : PySem.W.keepIn K (.ref f4) = true)
    {oc5 kV5 dc5 pm5 cd5 ct5 : Value} {od5 an5 : Option Addr} {sl5 : Array (Option Value)}
    (a5 : PySem.W.nsIn K mainGlobals "need_key" = some (some (.ref f5)))
    (l5 : K.lookup f5 = some ⟨oc5, od5, .func (PySem.W.fnOf "need_key" "need_key" (defArgs x_need_key) (defBody x_need_key) (defScope x_need_key) .none kV5 dc5 pm5 an5 cd5 ct5), sl5⟩)
    (c5 : PySem.W.codeIn K cd5 "need_key" = true)
    (k5 : PySem.W.keepIn K (.ref f5) = true)
    {oc6 kV6 dc6 pm6 cd6 ct6 : Value} {od6 an6 : Option Addr} {sl6 : Array (Option Value)}
    (a6 : PySem.W.nsIn K mainGlobals "need_most" = some (some (.ref f6)))
    (l6 : K.lookup f6 = some ⟨oc6, od6, .func (PySem.W.fnOf "need_most" "need_most" (defArgs x_need_most) (defBody x_need_most) (defScope x_need_most) .none kV6 dc6 pm6 an6 cd6 ct6), sl6⟩)
    (c6 : PySem.W.codeIn K cd6 "need_most" = true)
    (k6 : PySem.W.keepIn K (.ref f6) = true)
    {oc7 kV7 dc7 pm7 cd7 ct7 : Value} {od7 an7 : Option Addr} {sl7 : Array (Option Value)}
    (a7 : PySem.W.nsIn K mainGlobals "half_of" = some (some (.ref f7)))
    (l7 : K.lookup f7 = some ⟨oc7, od7, .func (PySem.W.fnOf "half_of" "half_of" (defArgs x_half_of) (defBody x_half_of) (defScope x_half_of) .none kV7 dc7 pm7 an7 cd7 ct7), sl7⟩)
    (c7 : PySem.W.codeIn K cd7 "half_of" = true)
    (k7 : PySem.W.keepIn K (.ref f7) = true)
    {oc8 kV8 dc8 pm8 cd8 ct8 : Value} {od8 an8 : Option Addr} {sl8 : Array (Option Value)}
    (a8 : PySem.W.nsIn K mainGlobals "is_leaf" = some (some (.ref f8)))
    (l8 : K.lookup f8 = some ⟨oc8, od8, .func (PySem.W.fnOf "is_leaf" "is_leaf" (defArgs x_is_leaf) (defBody x_is_leaf) (defScope x_is_leaf) .none kV8 dc8 pm8 an8 cd8 ct8), sl8⟩)
    (c8 : PySem.W.codeIn K cd8 "is_leaf" = true)
    (k8 : PySem.W.keepIn K (.ref f8) = true)
    {oc9 kV9 dc9 pm9 cd9 ct9 : Value} {od9 an9 : Option Addr} {sl9 : Array (Option Value)}
    (a9 : PySem.W.nsIn K mainGlobals "things_on" = some (some (.ref f9)))
    (l9 : K.lookup f9 = some ⟨oc9, od9, .func (PySem.W.fnOf "things_on" "things_on" (defArgs x_things_on) (defBody x_things_on) (defScope x_things_on) .none kV9 dc9 pm9 an9 cd9 ct9), sl9⟩)
    (c9 : PySem.W.codeIn K cd9 "things_on" = true)
    (k9 : PySem.W.keepIn K (.ref f9) = true)
    {oc10 kV10 dc10 pm10 cd10 ct10 : Value} {od10 an10 : Option Addr} {sl10 : Array (Option Value)}
    (a10 : PySem.W.nsIn K mainGlobals "child_number" = some (some (.ref f10)))
    (l10 : K.lookup f10 = some ⟨oc10, od10, .func (PySem.W.fnOf "child_number" "child_number" (defArgs x_child_number) (defBody x_child_number) (defScope x_child_number) .none kV10 dc10 pm10 an10 cd10 ct10), sl10⟩)
    (c10 : PySem.W.codeIn K cd10 "child_number" = true)
    (k10 : PySem.W.keepIn K (.ref f10) = true)
    {oc11 kV11 dc11 pm11 cd11 ct11 : Value} {od11 an11 : Option Addr} {sl11 : Array (Option Value)}
    (a11 : PySem.W.nsIn K mainGlobals "entry_number" = some (some (.ref f11)))
    (l11 : K.lookup f11 = some ⟨oc11, od11, .func (PySem.W.fnOf "entry_number" "entry_number" (defArgs x_entry_number) (defBody x_entry_number) (defScope x_entry_number) .none kV11 dc11 pm11 an11 cd11 ct11), sl11⟩)
    (c11 : PySem.W.codeIn K cd11 "entry_number" = true)
    (k11 : PySem.W.keepIn K (.ref f11) = true)
    {oc12 kV12 dc12 pm12 cd12 ct12 : Value} {od12 an12 : Option Addr} {sl12 : Array (Option Value)}
    (a12 : PySem.W.nsIn K mainGlobals "leaf_for" = some (some (.ref f12)))
    (l12 : K.lookup f12 = some ⟨oc12, od12, .func (PySem.W.fnOf "leaf_for" "leaf_for" (defArgs x_leaf_for) (defBody x_leaf_for) (defScope x_leaf_for) .none kV12 dc12 pm12 an12 cd12 ct12), sl12⟩)
    (c12 : PySem.W.codeIn K cd12 "leaf_for" = true)
    (k12 : PySem.W.keepIn K (.ref f12) = true)
    {oc13 kV13 dc13 pm13 cd13 ct13 : Value} {od13 an13 : Option Addr} {sl13 : Array (Option Value)}
    (a13 : PySem.W.nsIn K mainGlobals "entry_of" = some (some (.ref f13)))
    (l13 : K.lookup f13 = some ⟨oc13, od13, .func (PySem.W.fnOf "entry_of" "entry_of" (defArgs x_entry_of) (defBody x_entry_of) (defScope x_entry_of) .none kV13 dc13 pm13 an13 cd13 ct13), sl13⟩)
    (c13 : PySem.W.codeIn K cd13 "entry_of" = true)
    (k13 : PySem.W.keepIn K (.ref f13) = true)
    {oc14 kV14 dc14 pm14 cd14 ct14 : Value} {od14 an14 : Option Addr} {sl14 : Array (Option Value)}
    (a14 : PySem.W.nsIn K mainGlobals "has" = some (some (.ref f14)))
    (l14 : K.lookup f14 = some ⟨oc14, od14, .func (PySem.W.fnOf "has" "has" (defArgs x_has) (defBody x_has) (defScope x_has) .none kV14 dc14 pm14 an14 cd14 ct14), sl14⟩)
    (c14 : PySem.W.codeIn K cd14 "has" = true)
    (k14 : PySem.W.keepIn K (.ref f14) = true)
    {oc15 kV15 dc15 pm15 cd15 ct15 : Value} {od15 an15 : Option Addr} {sl15 : Array (Option Value)}
    (a15 : PySem.W.nsIn K mainGlobals "packed_leaf" = some (some (.ref f15)))
    (l15 : K.lookup f15 = some ⟨oc15, od15, .func (PySem.W.fnOf "packed_leaf" "packed_leaf" (defArgs x_packed_leaf) (defBody x_packed_leaf) (defScope x_packed_leaf) .none kV15 dc15 pm15 an15 cd15 ct15), sl15⟩)
    (c15 : PySem.W.codeIn K cd15 "packed_leaf" = true)
    (k15 : PySem.W.keepIn K (.ref f15) = true)
    {oc16 kV16 dc16 pm16 cd16 ct16 : Value} {od16 an16 : Option Addr} {sl16 : Array (Option Value)}
    (a16 : PySem.W.nsIn K mainGlobals "packed_branch" = some (some (.ref f16)))
    (l16 : K.lookup f16 = some ⟨oc16, od16, .func (PySem.W.fnOf "packed_branch" "packed_branch" (defArgs x_packed_branch) (defBody x_packed_branch) (defScope x_packed_branch) .none kV16 dc16 pm16 an16 cd16 ct16), sl16⟩)
    (c16 : PySem.W.codeIn K cd16 "packed_branch" = true)
    (k16 : PySem.W.keepIn K (.ref f16) = true)
    {oc17 kV17 dc17 pm17 cd17 ct17 : Value} {od17 an17 : Option Addr} {sl17 : Array (Option Value)}
    (a17 : PySem.W.nsIn K mainGlobals "root_of" = some (some (.ref f17)))
    (l17 : K.lookup f17 = some ⟨oc17, od17, .func (PySem.W.fnOf "root_of" "root_of" (defArgs x_root_of) (defBody x_root_of) (defScope x_root_of) .none kV17 dc17 pm17 an17 cd17 ct17), sl17⟩)
    (c17 : PySem.W.codeIn K cd17 "root_of" = true)
    (k17 : PySem.W.keepIn K (.ref f17) = true)
    {oc18 kV18 dc18 pm18 cd18 ct18 : Value} {od18 an18 : Option Addr} {sl18 : Array (Option Value)}
    (a18 : PySem.W.nsIn K mainGlobals "spliced" = some (some (.ref f18)))
    (l18 : K.lookup f18 = some ⟨oc18, od18, .func (PySem.W.fnOf "spliced" "spliced" (defArgs x_spliced) (defBody x_spliced) (defScope x_spliced) .none kV18 dc18 pm18 an18 cd18 ct18), sl18⟩)
    (c18 : PySem.W.codeIn K cd18 "spliced" = true)
    (k18 : PySem.W.keepIn K (.ref f18) = true)
    {oc19 kV19 dc19 pm19 cd19 ct19 : Value} {od19 an19 : Option Addr} {sl19 : Array (Option Value)}
    (a19 : PySem.W.nsIn K mainGlobals "fused" = some (some (.ref f19)))
    (l19 : K.lookup f19 = some ⟨oc19, od19, .func (PySem.W.fnOf "fused" "fused" (defArgs x_fused) (defBody x_fused) (defScope x_fused) .none kV19 dc19 pm19 an19 cd19 ct19), sl19⟩)
    (c19 : PySem.W.codeIn K cd19 "fused" = true)
    (k19 : PySem.W.keepIn K (.ref f19) = true)
    {oc20 kV20 dc20 pm20 cd20 ct20 : Value} {od20 an20 : Option Addr} {sl20 : Array (Option Value)}
    (a20 : PySem.W.nsIn K mainGlobals "put_pieces" = some (some (.ref f20)))
    (l20 : K.lookup f20 = some ⟨oc20, od20, .func (PySem.W.fnOf "put_pieces" "put_pieces" (defArgs x_put_pieces) (defBody x_put_pieces) (defScope x_put_pieces) .none kV20 dc20 pm20 an20 cd20 ct20), sl20⟩)
    (c20 : PySem.W.codeIn K cd20 "put_pieces" = true)
    (k20 : PySem.W.keepIn K (.ref f20) = true)
    {oc21 kV21 dc21 pm21 cd21 ct21 : Value} {od21 an21 : Option Addr} {sl21 : Array (Option Value)}
    (a21 : PySem.W.nsIn K mainGlobals "with_entry" = some (some (.ref f21)))
    (l21 : K.lookup f21 = some ⟨oc21, od21, .func (PySem.W.fnOf "with_entry" "with_entry" (defArgs x_with_entry) (defBody x_with_entry) (defScope x_with_entry) .none kV21 dc21 pm21 an21 cd21 ct21), sl21⟩)
    (c21 : PySem.W.codeIn K cd21 "with_entry" = true)
    (k21 : PySem.W.keepIn K (.ref f21) = true)
    {oc22 kV22 dc22 pm22 cd22 ct22 : Value} {od22 an22 : Option Addr} {sl22 : Array (Option Value)}
    (a22 : PySem.W.nsIn K mainGlobals "less_page" = some (some (.ref f22)))
    (l22 : K.lookup f22 = some ⟨oc22, od22, .func (PySem.W.fnOf "less_page" "less_page" (defArgs x_less_page) (defBody x_less_page) (defScope x_less_page) .none kV22 dc22 pm22 an22 cd22 ct22), sl22⟩)
    (c22 : PySem.W.codeIn K cd22 "less_page" = true)
    (k22 : PySem.W.keepIn K (.ref f22) = true)
    {oc23 kV23 dc23 pm23 cd23 ct23 : Value} {od23 an23 : Option Addr} {sl23 : Array (Option Value)}
    (a23 : PySem.W.nsIn K mainGlobals "without_entry" = some (some (.ref f23)))
    (l23 : K.lookup f23 = some ⟨oc23, od23, .func (PySem.W.fnOf "without_entry" "without_entry" (defArgs x_without_entry) (defBody x_without_entry) (defScope x_without_entry) .none kV23 dc23 pm23 an23 cd23 ct23), sl23⟩)
    (c23 : PySem.W.codeIn K cd23 "without_entry" = true)
    (k23 : PySem.W.keepIn K (.ref f23) = true)
    {oc24 kV24 dc24 pm24 cd24 ct24 : Value} {od24 an24 : Option Addr} {sl24 : Array (Option Value)}
    (a24 : PySem.W.nsIn K mainGlobals "first_key" = some (some (.ref f24)))
    (l24 : K.lookup f24 = some ⟨oc24, od24, .func (PySem.W.fnOf "first_key" "first_key" (defArgs x_first_key) (defBody x_first_key) (defScope x_first_key) .none kV24 dc24 pm24 an24 cd24 ct24), sl24⟩)
    (c24 : PySem.W.codeIn K cd24 "first_key" = true)
    (k24 : PySem.W.keepIn K (.ref f24) = true)
    {oc25 kV25 dc25 pm25 cd25 ct25 : Value} {od25 an25 : Option Addr} {sl25 : Array (Option Value)}
    (a25 : PySem.W.nsIn K mainGlobals "behind_of" = some (some (.ref f25)))
    (l25 : K.lookup f25 = some ⟨oc25, od25, .func (PySem.W.fnOf "behind_of" "behind_of" (defArgs x_behind_of) (defBody x_behind_of) (defScope x_behind_of) .none kV25 dc25 pm25 an25 cd25 ct25), sl25⟩)
    (c25 : PySem.W.codeIn K cd25 "behind_of" = true)
    (k25 : PySem.W.keepIn K (.ref f25) = true)
    {oc26 kV26 dc26 pm26 cd26 ct26 : Value} {od26 an26 : Option Addr} {sl26 : Array (Option Value)}
    (a26 : PySem.W.nsIn K mainGlobals "first" = some (some (.ref f26)))
    (l26 : K.lookup f26 = some ⟨oc26, od26, .func (PySem.W.fnOf "first" "first" (defArgs x_first) (defBody x_first) (defScope x_first) .none kV26 dc26 pm26 an26 cd26 ct26), sl26⟩)
    (c26 : PySem.W.codeIn K cd26 "first" = true)
    (k26 : PySem.W.keepIn K (.ref f26) = true)
    {oc27 kV27 dc27 pm27 cd27 ct27 : Value} {od27 an27 : Option Addr} {sl27 : Array (Option Value)}
    (a27 : PySem.W.nsIn K mainGlobals "last" = some (some (.ref f27)))
    (l27 : K.lookup f27 = some ⟨oc27, od27, .func (PySem.W.fnOf "last" "last" (defArgs x_last) (defBody x_last) (defScope x_last) .none kV27 dc27 pm27 an27 cd27 ct27), sl27⟩)
    (c27 : PySem.W.codeIn K cd27 "last" = true)
    (k27 : PySem.W.keepIn K (.ref f27) = true)
    {oc28 kV28 dc28 pm28 cd28 ct28 : Value} {od28 an28 : Option Addr} {sl28 : Array (Option Value)}
    (a28 : PySem.W.nsIn K mainGlobals "after" = some (some (.ref f28)))
    (l28 : K.lookup f28 = some ⟨oc28, od28, .func (PySem.W.fnOf "after" "after" (defArgs x_after) (defBody x_after) (defScope x_after) .none kV28 dc28 pm28 an28 cd28 ct28), sl28⟩)
    (c28 : PySem.W.codeIn K cd28 "after" = true)
    (k28 : PySem.W.keepIn K (.ref f28) = true)
    {oc29 kV29 dc29 pm29 cd29 ct29 : Value} {od29 an29 : Option Addr} {sl29 : Array (Option Value)}
    (a29 : PySem.W.nsIn K mainGlobals "before" = some (some (.ref f29)))
    (l29 : K.lookup f29 = some ⟨oc29, od29, .func (PySem.W.fnOf "before" "before" (defArgs x_before) (defBody x_before) (defScope x_before) .none kV29 dc29 pm29 an29 cd29 ct29), sl29⟩)
    (c29 : PySem.W.codeIn K cd29 "before" = true)
    (k29 : PySem.W.keepIn K (.ref f29) = true)
    {oc30 kV30 dc30 pm30 cd30 ct30 : Value} {od30 an30 : Option Addr} {sl30 : Array (Option Value)}
    (a30 : PySem.W.findIn K (.ref f52) "__init__" = some (some (.ref f30)))
    (b30 : PySem.W.isFn K (.ref f30) = true)
    (l30 : K.lookup f30 = some ⟨oc30, od30, .func (PySem.W.fnOf "__init__" "Tree.__init__" (defArgs x_Tree__init) (defBody x_Tree__init) (defScope x_Tree__init) .none kV30 dc30 pm30 an30 cd30 ct30), sl30⟩)
    (c30 : PySem.W.codeIn K cd30 "Tree.__init__" = true)
    (k30 : PySem.W.keepIn K (.ref f30) = true)
    {oc31 kV31 dc31 pm31 cd31 ct31 : Value} {od31 an31 : Option Addr} {sl31 : Array (Option Value)}
    (a31 : PySem.W.findIn K (.ref f52) "__len__" = some (some (.ref f31)))
    (b31 : PySem.W.isFn K (.ref f31) = true)
    (l31 : K.lookup f31 = some ⟨oc31, od31, .func (PySem.W.fnOf "__len__" "Tree.__len__" (defArgs x_Tree____len__) (defBody x_Tree____len__) (defScope x_Tree____len__) .none kV31 dc31 pm31 an31 cd31 ct31), sl31⟩)
    (c31 : PySem.W.codeIn K cd31 "Tree.__len__" = true)
    (k31 : PySem.W.keepIn K (.ref f31) = true)
    {oc32 kV32 dc32 pm32 cd32 ct32 : Value} {od32 an32 : Option Addr} {sl32 : Array (Option Value)}
    (a32 : PySem.W.findIn K (.ref f52) "__contains__" = some (some (.ref f32)))
    (b32 : PySem.W.isFn K (.ref f32) = true)
    (l32 : K.lookup f32 = some ⟨oc32, od32, .func (PySem.W.fnOf "__contains__" "Tree.__contains__" (defArgs x_Tree____contains__) (defBody x_Tree____contains__) (defScope x_Tree____contains__) .none kV32 dc32 pm32 an32 cd32 ct32), sl32⟩)
    (c32 : PySem.W.codeIn K cd32 "Tree.__contains__" = true)
    (k32 : PySem.W.keepIn K (.ref f32) = true)
    {oc33 kV33 dc33 pm33 cd33 ct33 : Value} {od33 an33 : Option Addr} {sl33 : Array (Option Value)}
    (a33 : PySem.W.findIn K (.ref f52) "root" = some (some (.ref f33)))
    (b33 : PySem.W.isFn K (.ref f33) = true)
    (l33 : K.lookup f33 = some ⟨oc33, od33, .func (PySem.W.fnOf "root" "Tree.root" (defArgs x_Tree__root) (defBody x_Tree__root) (defScope x_Tree__root) .none kV33 dc33 pm33 an33 cd33 ct33), sl33⟩)
    (c33 : PySem.W.codeIn K cd33 "Tree.root" = true)
    (k33 : PySem.W.keepIn K (.ref f33) = true)
    {oc34 kV34 dc34 pm34 cd34 ct34 : Value} {od34 an34 : Option Addr} {sl34 : Array (Option Value)}
    (a34 : PySem.W.findIn K (.ref f52) "put" = some (some (.ref f34)))
    (b34 : PySem.W.isFn K (.ref f34) = true)
    (l34 : K.lookup f34 = some ⟨oc34, od34, .func (PySem.W.fnOf "put" "Tree.put" (defArgs x_Tree__put) (defBody x_Tree__put) (defScope x_Tree__put) .none kV34 dc34 pm34 an34 cd34 ct34), sl34⟩)
    (c34 : PySem.W.codeIn K cd34 "Tree.put" = true)
    (k34 : PySem.W.keepIn K (.ref f34) = true)
    {oc35 kV35 dc35 pm35 cd35 ct35 : Value} {od35 an35 : Option Addr} {sl35 : Array (Option Value)}
    (a35 : PySem.W.findIn K (.ref f52) "take" = some (some (.ref f35)))
    (b35 : PySem.W.isFn K (.ref f35) = true)
    (l35 : K.lookup f35 = some ⟨oc35, od35, .func (PySem.W.fnOf "take" "Tree.take" (defArgs x_Tree__take) (defBody x_Tree__take) (defScope x_Tree__take) .none kV35 dc35 pm35 an35 cd35 ct35), sl35⟩)
    (c35 : PySem.W.codeIn K cd35 "Tree.take" = true)
    (k35 : PySem.W.keepIn K (.ref f35) = true)
    {oc36 kV36 dc36 pm36 cd36 ct36 : Value} {od36 an36 : Option Addr} {sl36 : Array (Option Value)}
    (a36 : PySem.W.findIn K (.ref f52) "has" = some (some (.ref f36)))
    (b36 : PySem.W.isFn K (.ref f36) = true)
    (l36 : K.lookup f36 = some ⟨oc36, od36, .func (PySem.W.fnOf "has" "Tree.has" (defArgs x_Tree__has) (defBody x_Tree__has) (defScope x_Tree__has) .none kV36 dc36 pm36 an36 cd36 ct36), sl36⟩)
    (c36 : PySem.W.codeIn K cd36 "Tree.has" = true)
    (k36 : PySem.W.keepIn K (.ref f36) = true)
    {oc37 kV37 dc37 pm37 cd37 ct37 : Value} {od37 an37 : Option Addr} {sl37 : Array (Option Value)}
    (a37 : PySem.W.nsIn K mainGlobals "_law_deal" = some (some (.ref f37)))
    (l37 : K.lookup f37 = some ⟨oc37, od37, .func (PySem.W.fnOf "_law_deal" "_law_deal" (defArgs x__law_deal) (defBody x__law_deal) (defScope x__law_deal) .none kV37 dc37 pm37 an37 cd37 ct37), sl37⟩)
    (c37 : PySem.W.codeIn K cd37 "_law_deal" = true)
    (k37 : PySem.W.keepIn K (.ref f37) = true)
    {oc38 kV38 dc38 pm38 cd38 ct38 : Value} {od38 an38 : Option Addr} {sl38 : Array (Option Value)}
    (a38 : PySem.W.nsIn K mainGlobals "_law_any" = some (some (.ref f38)))
    (l38 : K.lookup f38 = some ⟨oc38, od38, .func (PySem.W.fnOf "_law_any" "_law_any" (defArgs x__law_any) (defBody x__law_any) (defScope x__law_any) .none kV38 dc38 pm38 an38 cd38 ct38), sl38⟩)
    (c38 : PySem.W.codeIn K cd38 "_law_any" = true)
    (k38 : PySem.W.keepIn K (.ref f38) = true)
    {oc39 kV39 dc39 pm39 cd39 ct39 : Value} {od39 an39 : Option Addr} {sl39 : Array (Option Value)}
    (a39 : PySem.W.nsIn K mainGlobals "_law_of" = some (some (.ref f39)))
    (l39 : K.lookup f39 = some ⟨oc39, od39, .func (PySem.W.fnOf "_law_of" "_law_of" (defArgs x__law_of) (defBody x__law_of) (defScope x__law_of) .none kV39 dc39 pm39 an39 cd39 ct39), sl39⟩)
    (c39 : PySem.W.codeIn K cd39 "_law_of" = true)
    (k39 : PySem.W.keepIn K (.ref f39) = true)
    {oc40 kV40 dc40 pm40 cd40 ct40 : Value} {od40 an40 : Option Addr} {sl40 : Array (Option Value)}
    (a40 : PySem.W.nsIn K mainGlobals "_law_keys" = some (some (.ref f40)))
    (l40 : K.lookup f40 = some ⟨oc40, od40, .func (PySem.W.fnOf "_law_keys" "_law_keys" (defArgs x__law_keys) (defBody x__law_keys) (defScope x__law_keys) .none kV40 dc40 pm40 an40 cd40 ct40), sl40⟩)
    (c40 : PySem.W.codeIn K cd40 "_law_keys" = true)
    (k40 : PySem.W.keepIn K (.ref f40) = true)
    {oc41 kV41 dc41 pm41 cd41 ct41 : Value} {od41 an41 : Option Addr} {sl41 : Array (Option Value)}
    (a41 : PySem.W.nsIn K mainGlobals "_law_thing" = some (some (.ref f41)))
    (l41 : K.lookup f41 = some ⟨oc41, od41, .func (PySem.W.fnOf "_law_thing" "_law_thing" (defArgs x__law_thing) (defBody x__law_thing) (defScope x__law_thing) .none kV41 dc41 pm41 an41 cd41 ct41), sl41⟩)
    (c41 : PySem.W.codeIn K cd41 "_law_thing" = true)
    (k41 : PySem.W.keepIn K (.ref f41) = true)
    {oc42 kV42 dc42 pm42 cd42 ct42 : Value} {od42 an42 : Option Addr} {sl42 : Array (Option Value)}
    (a42 : PySem.W.nsIn K mainGlobals "_law_next" = some (some (.ref f42)))
    (l42 : K.lookup f42 = some ⟨oc42, od42, .func (PySem.W.fnOf "_law_next" "_law_next" (defArgs x__law_next) (defBody x__law_next) (defScope x__law_next) .none kV42 dc42 pm42 an42 cd42 ct42), sl42⟩)
    (c42 : PySem.W.codeIn K cd42 "_law_next" = true)
    (k42 : PySem.W.keepIn K (.ref f42) = true)
    {oc43 kV43 dc43 pm43 cd43 ct43 : Value} {od43 an43 : Option Addr} {sl43 : Array (Option Value)}
    (a43 : PySem.W.nsIn K mainGlobals "_law_wrong" = some (some (.ref f43)))
    (l43 : K.lookup f43 = some ⟨oc43, od43, .func (PySem.W.fnOf "_law_wrong" "_law_wrong" (defArgs x__law_wrong) (defBody x__law_wrong) (defScope x__law_wrong) .none kV43 dc43 pm43 an43 cd43 ct43), sl43⟩)
    (c43 : PySem.W.codeIn K cd43 "_law_wrong" = true)
    (k43 : PySem.W.keepIn K (.ref f43) = true)
    {oc44 kV44 dc44 pm44 cd44 ct44 : Value} {od44 an44 : Option Addr} {sl44 : Array (Option Value)}
    (a44 : PySem.W.nsIn K mainGlobals "_law_changed" = some (some (.ref f44)))
    (l44 : K.lookup f44 = some ⟨oc44, od44, .func (PySem.W.fnOf "_law_changed" "_law_changed" (defArgs x__law_changed) (defBody x__law_changed) (defScope x__law_changed) .none kV44 dc44 pm44 an44 cd44 ct44), sl44⟩)
    (c44 : PySem.W.codeIn K cd44 "_law_changed" = true)
    (k44 : PySem.W.keepIn K (.ref f44) = true)
    {oc45 kV45 dc45 pm45 cd45 ct45 : Value} {od45 an45 : Option Addr} {sl45 : Array (Option Value)}
    (a45 : PySem.W.nsIn K mainGlobals "law" = some (some (.ref f45)))
    (l45 : K.lookup f45 = some ⟨oc45, od45, .func (PySem.W.fnOf "law" "law" (defArgs x_law) (defBody x_law) (defScope x_law) .none kV45 dc45 pm45 an45 cd45 ct45), sl45⟩)
    (c45 : PySem.W.codeIn K cd45 "law" = true)
    (k45 : PySem.W.keepIn K (.ref f45) = true)
    (ca52 : PySem.W.nsIn K mainGlobals "Tree" = some (some (.ref f52)))
    (cb52 : PySem.W.plainGet K f52 Str.empty = true)
    (cx52 : PySem.W.hasDictIn K f52 = true)
    (cy52 : PySem.W.plainOver K f52 = true)
    (ce52 : PySem.W.findIn K (.ref f52) "__setattr__" = some (some (.builtin "object.__setattr__")))
    (cf52 : PySem.W.makesIn K f52 = true)
    (cg52 : PySem.W.keepIn K (.ref f52) = true)
    (cn52__known : PySem.W.findIn K (.ref f52) "_known" = some none)
    (cn52__page : PySem.W.findIn K (.ref f52) "_page" = some none)
    (cn52_most : PySem.W.findIn K (.ref f52) "most" = some none)
    (sp : PySem.W.specialIn K (.builtin "object.__class__") "__get__" = some (some (.builtin "getset_descriptor.__get__")))
    (tp : PySem.W.takesIn K (.builtin "object.__class__") = some true)
    (tq : PySem.W.nsIn K cStatics "thirdparty.any" = some none)
    (tr : (P.main.scope.names.lookup ("super" : Str)).isSome = false)
    (ea46 : PySem.W.nsIn K mainGlobals "StoreError" = some (some (.ref f46)))
    (eb46 : PySem.W.findIn K (.ref f46) "__getattribute__" = some (some (.builtin "BaseException.__getattribute__")))
    (ec46 : PySem.W.findIn K (.ref f46) "__getattr__" = some none)
    (ed46 : PySem.W.subIn K (.ref f46) (.type "BaseException") = some true)
    (ee46 : PySem.W.hasDictIn K f46 = true)
    (ef46 : PySem.W.findIn K (.ref f46) "__class__" = some (some (.builtin "object.__class__")))
    (eg46 : PySem.W.mroIn K f46 (.type "object") = some true)
    (eh46 : PySem.W.typeIn K (.ref f46) = some (.type "type"))
    (ei46 : PySem.W.keepIn K (.ref f46) = true)
    (ej46 : PySem.W.subIn K (.ref f46) (.ref f46) = some true)
    (ea47 : PySem.W.nsIn K mainGlobals "InvalidKey" = some (some (.ref f47)))
    (eb47 : PySem.W.findIn K (.ref f47) "__getattribute__" = some (some (.builtin "BaseException.__getattribute__")))
    (ec47 : PySem.W.findIn K (.ref f47) "__getattr__" = some none)
    (ed47 : PySem.W.subIn K (.ref f47) (.type "BaseException") = some true)
    (ee47 : PySem.W.hasDictIn K f47 = true)
    (ef47 : PySem.W.findIn K (.ref f47) "__class__" = some (some (.builtin "object.__class__")))
    (eg47 : PySem.W.mroIn K f47 (.type "object") = some true)
    (eh47 : PySem.W.typeIn K (.ref f47) = some (.type "type"))
    (ei47 : PySem.W.keepIn K (.ref f47) = true)
    (ej47 : PySem.W.subIn K (.ref f47) (.ref f47) = some true)
    (ea48 : PySem.W.nsIn K mainGlobals "InvalidSize" = some (some (.ref f48)))
    (eb48 : PySem.W.findIn K (.ref f48) "__getattribute__" = some (some (.builtin "BaseException.__getattribute__")))
    (ec48 : PySem.W.findIn K (.ref f48) "__getattr__" = some none)
    (ed48 : PySem.W.subIn K (.ref f48) (.type "BaseException") = some true)
    (ee48 : PySem.W.hasDictIn K f48 = true)
    (ef48 : PySem.W.findIn K (.ref f48) "__class__" = some (some (.builtin "object.__class__")))
    (eg48 : PySem.W.mroIn K f48 (.type "object") = some true)
    (eh48 : PySem.W.typeIn K (.ref f48) = some (.type "type"))
    (ei48 : PySem.W.keepIn K (.ref f48) = true)
    (ej48 : PySem.W.subIn K (.ref f48) (.ref f48) = some true)
    (en47_at : PySem.W.findIn K (.ref f47) "at" = some none)
    (en48_word : PySem.W.findIn K (.ref f48) "word" = some none)
    (eu47_47 : PySem.W.subIn K (.ref f47) (.ref f47) = some true)
    (eu48_47 : PySem.W.subIn K (.ref f48) (.ref f47) = some false)
    {nm47 qn47 : Str} {N47 : Addr} {bs47 bm47 : List Value} {sn47 : List Str} {sb47 : List Value} {ab47 : Bool} {cl47 : Option Bool} {dd47 : Option Addr} {ka47 kb47 kc47 kd47 ke47 : Option Value}
    {oc47 kV47 dc47 pm47 ct47 ccl47 cel47 : Value} {od47 an47 cdd47 cld47 : Option Addr} {sl47 ccs47 csl47 : Array (Option Value)} {qual47 file47 : Str} {cda47 cc47 : Addr} {vs47 : Array Value} {tf47 : Tok}
    (xa47 : K.lookup f47 = some (excClassObj nm47 qn47 f47 N47 bs47 bm47 true sn47 sb47 ab47 cl47 dd47 ka47 kb47 kc47 kd47 ke47 "Exception.__new__"))
    (xb47 : ErE.Line [.type "Exception", .type "BaseException", .type "object"] bm47)
    (xc47 : PySem.W.findIn K (.ref f47) "__setattr__" = some (some (.builtin "object.__setattr__")))
    (xd47 : PySem.W.findIn K (.ref f47) "__init__" = some (some (.ref f50)))
    (xe47 : PySem.W.typeIn K (.ref f50) = some (.type "function"))
    (xf47 : PySem.W.ks_superIn K f47 f47 "__init__" = some (some (.builtin "Exception.__init__")))
    (xg47 : PySem.W.subIn K (.ref f47) (.type "Exception") = some true)
    (xh47 : K.lookup f50 = some ⟨oc47, od47, .func (PySem.W.ksFn "__init__" qual47 (defArgs (methAt x_InvalidKey 0)) (defBody (methAt x_InvalidKey 0)) (defScope (methAt x_InvalidKey 0)) .none kV47 dc47 pm47 an47 (.ref cda47) ct47 cc47), sl47⟩)
    (xi47 : PySem.W.codeIn K (.ref cda47) qual47 = true)
    (xj47 : K.lookup cda47 = some ⟨ccl47, cdd47, .fields vs47, ccs47⟩)
    (xk47 : vs47[2]? = some (.str file47 tf47))
    (xl47 : ((P.main.file : Str) == file47) = true)
    (xm47 : K.lookup cc47 = some ⟨cel47, cld47, .cell (some (.ref f47)), csl47⟩)
    {nm48 qn48 : Str} {N48 : Addr} {bs48 bm48 : List Value} {sn48 : List Str} {sb48 : List Value} {ab48 : Bool} {cl48 : Option Bool} {dd48 : Option Addr} {ka48 kb48 kc48 kd48 ke48 : Option Value}
    {oc48 kV48 dc48 pm48 ct48 ccl48 cel48 : Value} {od48 an48 cdd48 cld48 : Option Addr} {sl48 ccs48 csl48 : Array (Option Value)} {qual48 file48 : Str} {cda48 cc48 : Addr} {vs48 : Array Value} {tf48 : Tok}
    (xa48 : K.lookup f48 = some (excClassObj nm48 qn48 f48 N48 bs48 bm48 true sn48 sb48 ab48 cl48 dd48 ka48 kb48 kc48 kd48 ke48 "Exception.__new__"))
    (xb48 : ErE.Line [.type "Exception", .type "BaseException", .type "object"] bm48)
    (xc48 : PySem.W.findIn K (.ref f48) "__setattr__" = some (some (.builtin "object.__setattr__")))
    (xd48 : PySem.W.findIn K (.ref f48) "__init__" = some (some (.ref f51)))
    (xe48 : PySem.W.typeIn K (.ref f51) = some (.type "function"))
    (xf48 : PySem.W.ks_superIn K f48 f48 "__init__" = some (some (.builtin "Exception.__init__")))
    (xg48 : PySem.W.subIn K (.ref f48) (.type "Exception") = some true)
    (xh48 : K.lookup f51 = some ⟨oc48, od48, .func (PySem.W.ksFn "__init__" qual48 (defArgs (methAt x_InvalidSize 0)) (defBody (methAt x_InvalidSize 0)) (defScope (methAt x_InvalidSize 0)) .none kV48 dc48 pm48 an48 (.ref cda48) ct48 cc48), sl48⟩)
    (xi48 : PySem.W.codeIn K (.ref cda48) qual48 = true)
    (xj48 : K.lookup cda48 = some ⟨ccl48, cdd48, .fields vs48, ccs48⟩)
    (xk48 : vs48[2]? = some (.str file48 tf48))
    (xl48 : ((P.main.file : Str) == file48) = true)
    (xm48 : K.lookup cc48 = some ⟨cel48, cld48, .cell (some (.ref f48)), csl48⟩)
    (z0 : PySem.W.nsIn K mainGlobals "abs" = some none)
    (z1 : PySem.W.nsIn K mainGlobals "bool" = some none)
    (z2 : PySem.W.nsIn K mainGlobals "enumerate" = some none)
    (z3 : PySem.W.nsIn K mainGlobals "int" = some none)
    (z4 : PySem.W.nsIn K mainGlobals "isinstance" = some none)
    (z5 : PySem.W.nsIn K mainGlobals "len" = some none)
    (z6 : PySem.W.nsIn K mainGlobals "range" = some none)
    (z7 : PySem.W.nsIn K mainGlobals "repr" = some none)
    (z8 : PySem.W.nsIn K mainGlobals "sorted" = some none)
    (z9 : PySem.W.nsIn K mainGlobals "str" = some none)
    (z10 : PySem.W.nsIn K mainGlobals "super" = some none)
    (z11 : PySem.W.nsIn K mainGlobals "tuple" = some none)
    {t0 : Tok} (u0 : PySem.W.nsIn K mainGlobals "KEY_SIGNS" = some (some (.str "0123456789_abcdefghijklmnopqrstuvwxyz" t0)))
    {t1 : Tok} (u1 : PySem.W.nsIn K mainGlobals "LONGEST_KEY" = some (some (.int 16 t1)))
    {t2 : Tok} (u2 : PySem.W.nsIn K mainGlobals "LEAST_MOST" = some (some (.int 3 t2)))
    {t3 : Tok} (u3 : PySem.W.nsIn K mainGlobals "GREATEST_MOST" = some (some (.int 16 t3)))
    {t4 : Tok} (u4 : PySem.W.nsIn K mainGlobals "LEAF" = some (some (.str "leaf" t4)))
    {t5 : Tok} (u5 : PySem.W.nsIn K mainGlobals "BRANCH" = some (some (.str "branch" t5)))
    (al0 : PySem.W.nsIn K mainGlobals "has_pages" = some (some (.ref f14)))
    {qt0_1 : Tok}
    {qa0_2 : Addr} {qn0_2 : Nat}
    {qa0_0 : Addr} {qn0_0 : Nat}
    (qr0 : PySem.W.nsIn K mainGlobals "EMPTY" = some (some (.ref qa0_0)))
    (qb0_0 : K.lookup qa0_0 = some { cls := .type "tuple", data := .seq #[.str "leaf" qt0_1, .ref qa0_2] qn0_0 })
    (qb0_2 : K.lookup qa0_2 = some { cls := .type "tuple", data := .seq #[] qn0_2 })
    : Tx P w K mg (fun i => [f0, f1, f2, f3, f4, f5, f6, f7, f8, f9, f10, f11, f12, f13, f14, f15, f16, f17, f18, f19, f20, f21, f22, f23, f24, f25, f26, f27, f28, f29, f30, f31, f32, f33, f34, f35, f36, f37, f38, f39, f40, f41, f42, f43, f44, f45, f46, f47, f48, 0, f50, f51, f52].getD i 0) (fun i => [PySem.W.fnOf "is_integer" "is_integer" (defArgs x_is_integer) (defBody x_is_integer) (defScope x_is_integer) .none kV0 dc0 pm0 an0 cd0 ct0,
      PySem.W.fnOf "is_text" "is_text" (defArgs x_is_text) (defBody x_is_text) (defScope x_is_text) .none kV1 dc1 pm1 an1 cd1 ct1,
      PySem.W.fnOf "wrong_sign" "wrong_sign" (defArgs x_wrong_sign) (defBody x_wrong_sign) (defScope x_wrong_sign) .none kV2 dc2 pm2 an2 cd2 ct2,
      PySem.W.fnOf "key_fault" "key_fault" (defArgs x_key_fault) (defBody x_key_fault) (defScope x_key_fault) .none kV3 dc3 pm3 an3 cd3 ct3,
      PySem.W.fnOf "is_key" "is_key" (defArgs x_is_key) (defBody x_is_key) (defScope x_is_key) .none kV4 dc4 pm4 an4 cd4 ct4,
      PySem.W.fnOf "need_key" "need_key" (defArgs x_need_key) (defBody x_need_key) (defScope x_need_key) .none kV5 dc5 pm5 an5 cd5 ct5,
      PySem.W.fnOf "need_most" "need_most" (defArgs x_need_most) (defBody x_need_most) (defScope x_need_most) .none kV6 dc6 pm6 an6 cd6 ct6,
      PySem.W.fnOf "half_of" "half_of" (defArgs x_half_of) (defBody x_half_of) (defScope x_half_of) .none kV7 dc7 pm7 an7 cd7 ct7,
      PySem.W.fnOf "is_leaf" "is_leaf" (defArgs x_is_leaf) (defBody x_is_leaf) (defScope x_is_leaf) .none kV8 dc8 pm8 an8 cd8 ct8,
      PySem.W.fnOf "things_on" "things_on" (defArgs x_things_on) (defBody x_things_on) (defScope x_things_on) .none kV9 dc9 pm9 an9 cd9 ct9,
      PySem.W.fnOf "child_number" "child_number" (defArgs x_child_number) (defBody x_child_number) (defScope x_child_number) .none kV10 dc10 pm10 an10 cd10 ct10,
      PySem.W.fnOf "entry_number" "entry_number" (defArgs x_entry_number) (defBody x_entry_number) (defScope x_entry_number) .none kV11 dc11 pm11 an11 cd11 ct11,
      PySem.W.fnOf "leaf_for" "leaf_for" (defArgs x_leaf_for) (defBody x_leaf_for) (defScope x_leaf_for) .none kV12 dc12 pm12 an12 cd12 ct12,
      PySem.W.fnOf "entry_of" "entry_of" (defArgs x_entry_of) (defBody x_entry_of) (defScope x_entry_of) .none kV13 dc13 pm13 an13 cd13 ct13,
      PySem.W.fnOf "has" "has" (defArgs x_has) (defBody x_has) (defScope x_has) .none kV14 dc14 pm14 an14 cd14 ct14,
      PySem.W.fnOf "packed_leaf" "packed_leaf" (defArgs x_packed_leaf) (defBody x_packed_leaf) (defScope x_packed_leaf) .none kV15 dc15 pm15 an15 cd15 ct15,
      PySem.W.fnOf "packed_branch" "packed_branch" (defArgs x_packed_branch) (defBody x_packed_branch) (defScope x_packed_branch) .none kV16 dc16 pm16 an16 cd16 ct16,
      PySem.W.fnOf "root_of" "root_of" (defArgs x_root_of) (defBody x_root_of) (defScope x_root_of) .none kV17 dc17 pm17 an17 cd17 ct17,
      PySem.W.fnOf "spliced" "spliced" (defArgs x_spliced) (defBody x_spliced) (defScope x_spliced) .none kV18 dc18 pm18 an18 cd18 ct18,
      PySem.W.fnOf "fused" "fused" (defArgs x_fused) (defBody x_fused) (defScope x_fused) .none kV19 dc19 pm19 an19 cd19 ct19,
      PySem.W.fnOf "put_pieces" "put_pieces" (defArgs x_put_pieces) (defBody x_put_pieces) (defScope x_put_pieces) .none kV20 dc20 pm20 an20 cd20 ct20,
      PySem.W.fnOf "with_entry" "with_entry" (defArgs x_with_entry) (defBody x_with_entry) (defScope x_with_entry) .none kV21 dc21 pm21 an21 cd21 ct21,
      PySem.W.fnOf "less_page" "less_page" (defArgs x_less_page) (defBody x_less_page) (defScope x_less_page) .none kV22 dc22 pm22 an22 cd22 ct22,
      PySem.W.fnOf "without_entry" "without_entry" (defArgs x_without_entry) (defBody x_without_entry) (defScope x_without_entry) .none kV23 dc23 pm23 an23 cd23 ct23,
      PySem.W.fnOf "first_key" "first_key" (defArgs x_first_key) (defBody x_first_key) (defScope x_first_key) .none kV24 dc24 pm24 an24 cd24 ct24,
      PySem.W.fnOf "behind_of" "behind_of" (defArgs x_behind_of) (defBody x_behind_of) (defScope x_behind_of) .none kV25 dc25 pm25 an25 cd25 ct25,
      PySem.W.fnOf "first" "first" (defArgs x_first) (defBody x_first) (defScope x_first) .none kV26 dc26 pm26 an26 cd26 ct26,
      PySem.W.fnOf "last" "last" (defArgs x_last) (defBody x_last) (defScope x_last) .none kV27 dc27 pm27 an27 cd27 ct27,
      PySem.W.fnOf "after" "after" (defArgs x_after) (defBody x_after) (defScope x_after) .none kV28 dc28 pm28 an28 cd28 ct28,
      PySem.W.fnOf "before" "before" (defArgs x_before) (defBody x_before) (defScope x_before) .none kV29 dc29 pm29 an29 cd29 ct29,
      PySem.W.fnOf "__init__" "Tree.__init__" (defArgs x_Tree__init) (defBody x_Tree__init) (defScope x_Tree__init) .none kV30 dc30 pm30 an30 cd30 ct30,
      PySem.W.fnOf "__len__" "Tree.__len__" (defArgs x_Tree____len__) (defBody x_Tree____len__) (defScope x_Tree____len__) .none kV31 dc31 pm31 an31 cd31 ct31,
      PySem.W.fnOf "__contains__" "Tree.__contains__" (defArgs x_Tree____contains__) (defBody x_Tree____contains__) (defScope x_Tree____contains__) .none kV32 dc32 pm32 an32 cd32 ct32,
      PySem.W.fnOf "root" "Tree.root" (defArgs x_Tree__root) (defBody x_Tree__root) (defScope x_Tree__root) .none kV33 dc33 pm33 an33 cd33 ct33,
      PySem.W.fnOf "put" "Tree.put" (defArgs x_Tree__put) (defBody x_Tree__put) (defScope x_Tree__put) .none kV34 dc34 pm34 an34 cd34 ct34,
      PySem.W.fnOf "take" "Tree.take" (defArgs x_Tree__take) (defBody x_Tree__take) (defScope x_Tree__take) .none kV35 dc35 pm35 an35 cd35 ct35,
      PySem.W.fnOf "has" "Tree.has" (defArgs x_Tree__has) (defBody x_Tree__has) (defScope x_Tree__has) .none kV36 dc36 pm36 an36 cd36 ct36,
      PySem.W.fnOf "_law_deal" "_law_deal" (defArgs x__law_deal) (defBody x__law_deal) (defScope x__law_deal) .none kV37 dc37 pm37 an37 cd37 ct37,
      PySem.W.fnOf "_law_any" "_law_any" (defArgs x__law_any) (defBody x__law_any) (defScope x__law_any) .none kV38 dc38 pm38 an38 cd38 ct38,
      PySem.W.fnOf "_law_of" "_law_of" (defArgs x__law_of) (defBody x__law_of) (defScope x__law_of) .none kV39 dc39 pm39 an39 cd39 ct39,
      PySem.W.fnOf "_law_keys" "_law_keys" (defArgs x__law_keys) (defBody x__law_keys) (defScope x__law_keys) .none kV40 dc40 pm40 an40 cd40 ct40,
      PySem.W.fnOf "_law_thing" "_law_thing" (defArgs x__law_thing) (defBody x__law_thing) (defScope x__law_thing) .none kV41 dc41 pm41 an41 cd41 ct41,
      PySem.W.fnOf "_law_next" "_law_next" (defArgs x__law_next) (defBody x__law_next) (defScope x__law_next) .none kV42 dc42 pm42 an42 cd42 ct42,
      PySem.W.fnOf "_law_wrong" "_law_wrong" (defArgs x__law_wrong) (defBody x__law_wrong) (defScope x__law_wrong) .none kV43 dc43 pm43 an43 cd43 ct43,
      PySem.W.fnOf "_law_changed" "_law_changed" (defArgs x__law_changed) (defBody x__law_changed) (defScope x__law_changed) .none kV44 dc44 pm44 an44 cd44 ct44,
      PySem.W.fnOf "law" "law" (defArgs x_law) (defBody x_law) (defScope x_law) .none kV45 dc45 pm45 an45 cd45 ct45].getD i default) (fun i => [].getD i (0, 0)) where
  g_is_integer := PySem.W.mg_of X G a0
  F_is_integer := fun_mk (st := x_is_integer) l0 c0 k0
  b_is_integer := (fun_mk (st := x_is_integer) l0 c0 k0).binds (ps := ["value"]) fun _ _ _ _ _ _ us hl => match us, hl with | [_], _ => rfl
  g_is_text := PySem.W.mg_of X G a1
  F_is_text := fun_mk (st := x_is_text) l1 c1 k1
  b_is_text := (fun_mk (st := x_is_text) l1 c1 k1).binds (ps := ["value"]) fun _ _ _ _ _ _ us hl => match us, hl with | [_], _ => rfl
  g_wrong_sign := PySem.W.mg_of X G a2
  F_wrong_sign := fun_mk (st := x_wrong_sign) l2 c2 k2
  b_wrong_sign := (fun_mk (st := x_wrong_sign) l2 c2 k2).binds (ps := ["text", "signs", "most"]) fun _ _ _ _ _ _ us hl => match us, hl with | [_, _, _], _ => rfl
  g_key_fault := PySem.W.mg_of X G a3
  F_key_fault := fun_mk (st := x_key_fault) l3 c3 k3
  b_key_fault := (fun_mk (st := x_key_fault) l3 c3 k3).binds (ps := ["value"]) fun _ _ _ _ _ _ us hl => match us, hl with | [_], _ => rfl
  g_is_key := PySem.W.mg_of X G a4
  F_is_key := fun_mk (st := x_is_key) l4 c4 k4
  b_is_key := (fun_mk (st := x_is_key) l4 c4 k4).binds (ps := ["value"]) fun _ _ _ _ _ _ us hl => match us, hl with | [_], _ => rfl
  g_need_key := PySem.W.mg_of X G a5
  F_need_key := fun_mk (st := x_need_key) l5 c5 k5
  b_need_key := (fun_mk (st := x_need_key) l5 c5 k5).binds (ps := ["value"]) fun _ _ _ _ _ _ us hl => match us, hl with | [_], _ => rfl
  g_need_most := PySem.W.mg_of X G a6
  F_need_most := fun_mk (st := x_need_most) l6 c6 k6
  b_need_most := (fun_mk (st := x_need_most) l6 c6 k6).binds (ps := ["most"]) fun _ _ _ _ _ _ us hl => match us, hl with | [_], _ => rfl
  g_half_of := PySem.W.mg_of X G a7
  F_half_of := fun_mk (st := x_half_of) l7 c7 k7
  b_half_of := (fun_mk (st := x_half_of) l7 c7 k7).binds (ps := ["most"]) fun _ _ _ _ _ _ us hl => match us, hl with | [_], _ => rfl
  g_is_leaf := PySem.W.mg_of X G a8
  F_is_leaf := fun_mk (st := x_is_leaf) l8 c8 k8
  b_is_leaf := (fun_mk (st := x_is_leaf) l8 c8 k8).binds (ps := ["page"]) fun _ _ _ _ _ _ us hl => match us, hl with | [_], _ => rfl
  g_things_on := PySem.W.mg_of X G a9
  F_things_on := fun_mk (st := x_things_on) l9 c9 k9
  b_things_on := (fun_mk (st := x_things_on) l9 c9 k9).binds (ps := ["page"]) fun _ _ _ _ _ _ us hl => match us, hl with | [_], _ => rfl
  g_child_number := PySem.W.mg_of X G a10
  F_child_number := fun_mk (st := x_child_number) l10 c10 k10
  b_child_number := (fun_mk (st := x_child_number) l10 c10 k10).binds (ps := ["keys", "key"]) fun _ _ _ _ _ _ us hl => match us, hl with | [_, _], _ => rfl
  g_entry_number := PySem.W.mg_of X G a11
  F_entry_number := fun_mk (st := x_entry_number) l11 c11 k11
  b_entry_number := (fun_mk (st := x_entry_number) l11 c11 k11).binds (ps := ["entries", "key"]) fun _ _ _ _ _ _ us hl => match us, hl with | [_, _], _ => rfl
  g_leaf_for := PySem.W.mg_of X G a12
  F_leaf_for := fun_mk (st := x_leaf_for) l12 c12 k12
  b_leaf_for := (fun_mk (st := x_leaf_for) l12 c12 k12).binds (ps := ["page", "key"]) fun _ _ _ _ _ _ us hl => match us, hl with | [_, _], _ => rfl
  g_entry_of := PySem.W.mg_of X G a13
  F_entry_of := fun_mk (st := x_entry_of) l13 c13 k13
  b_entry_of := (fun_mk (st := x_entry_of) l13 c13 k13).binds (ps := ["page", "key"]) fun _ _ _ _ _ _ us hl => match us, hl with | [_, _], _ => rfl
  g_has := PySem.W.mg_of X G a14
  F_has := fun_mk (st := x_has) l14 c14 k14
  b_has := (fun_mk (st := x_has) l14 c14 k14).binds (ps := ["page", "key"]) fun _ _ _ _ _ _ us hl => match us, hl with | [_, _], _ => rfl
  g_packed_leaf := PySem.W.mg_of X G a15
  F_packed_leaf := fun_mk (st := x_packed_leaf) l15 c15 k15
  b_packed_leaf := (fun_mk (st := x_packed_leaf) l15 c15 k15).binds (ps := ["most", "row"]) fun _ _ _ _ _ _ us hl => match us, hl with | [_, _], _ => rfl
  g_packed_branch := PySem.W.mg_of X G a16
  F_packed_branch := fun_mk (st := x_packed_branch) l16 c16 k16
  b_packed_branch := (fun_mk (st := x_packed_branch) l16 c16 k16).binds (ps := ["most", "keys", "pages"]) fun _ _ _ _ _ _ us hl => match us, hl with | [_, _, _], _ => rfl
  g_root_of := PySem.W.mg_of X G a17
  F_root_of := fun_mk (st := x_root_of) l17 c17 k17
  b_root_of := (fun_mk (st := x_root_of) l17 c17 k17).binds (ps := ["pieces"]) fun _ _ _ _ _ _ us hl => match us, hl with | [_], _ => rfl
  g_spliced := PySem.W.mg_of X G a18
  F_spliced := fun_mk (st := x_spliced) l18 c18 k18
  b_spliced := (fun_mk (st := x_spliced) l18 c18 k18).binds (ps := ["most", "page", "begin", "end", "pieces"]) fun _ _ _ _ _ _ us hl => match us, hl with | [_, _, _, _, _], _ => rfl
  g_fused := PySem.W.mg_of X G a19
  F_fused := fun_mk (st := x_fused) l19 c19 k19
  b_fused := (fun_mk (st := x_fused) l19 c19 k19).binds (ps := ["most", "left", "key", "right"]) fun _ _ _ _ _ _ us hl => match us, hl with | [_, _, _, _], _ => rfl
  g_put_pieces := PySem.W.mg_of X G a20
  F_put_pieces := fun_mk (st := x_put_pieces) l20 c20 k20
  b_put_pieces := (fun_mk (st := x_put_pieces) l20 c20 k20).binds (ps := ["most", "page", "key", "thing"]) fun _ _ _ _ _ _ us hl => match us, hl with | [_, _, _, _], _ => rfl
  g_with_entry := PySem.W.mg_of X G a21
  F_with_entry := fun_mk (st := x_with_entry) l21 c21 k21
  b_with_entry := (fun_mk (st := x_with_entry) l21 c21 k21).binds (ps := ["most", "page", "key", "thing"]) fun _ _ _ _ _ _ us hl => match us, hl with | [_, _, _, _], _ => rfl
  g_less_page := PySem.W.mg_of X G a22
  F_less_page := fun_mk (st := x_less_page) l22 c22 k22
  b_less_page := (fun_mk (st := x_less_page) l22 c22 k22).binds (ps := ["most", "page", "key"]) fun _ _ _ _ _ _ us hl => match us, hl with | [_, _, _], _ => rfl
  g_without_entry := PySem.W.mg_of X G a23
  F_without_entry := fun_mk (st := x_without_entry) l23 c23 k23
  b_without_entry := (fun_mk (st := x_without_entry) l23 c23 k23).binds (ps := ["most", "page", "key"]) fun _ _ _ _ _ _ us hl => match us, hl with | [_, _, _], _ => rfl
  g_first_key := PySem.W.mg_of X G a24
  F_first_key := fun_mk (st := x_first_key) l24 c24 k24
  b_first_key := (fun_mk (st := x_first_key) l24 c24 k24).binds (ps := ["page"]) fun _ _ _ _ _ _ us hl => match us, hl with | [_], _ => rfl
  g_behind_of := PySem.W.mg_of X G a25
  F_behind_of := fun_mk (st := x_behind_of) l25 c25 k25
  b_behind_of := (fun_mk (st := x_behind_of) l25 c25 k25).binds (ps := ["page", "key"]) fun _ _ _ _ _ _ us hl => match us, hl with | [_, _], _ => rfl
  g_first := PySem.W.mg_of X G a26
  F_first := fun_mk (st := x_first) l26 c26 k26
  b_first := (fun_mk (st := x_first) l26 c26 k26).binds (ps := ["page"]) fun _ _ _ _ _ _ us hl => match us, hl with | [_], _ => rfl
  g_last := PySem.W.mg_of X G a27
  F_last := fun_mk (st := x_last) l27 c27 k27
  b_last := (fun_mk (st := x_last) l27 c27 k27).binds (ps := ["page"]) fun _ _ _ _ _ _ us hl => match us, hl with | [_], _ => rfl
  g_after := PySem.W.mg_of X G a28
  F_after := fun_mk (st := x_after) l28 c28 k28
  b_after := (fun_mk (st := x_after) l28 c28 k28).binds (ps := ["page", "key"]) fun _ _ _ _ _ _ us hl => match us, hl with | [_, _], _ => rfl
  g_before := PySem.W.mg_of X G a29
  F_before := fun_mk (st := x_before) l29 c29 k29
  b_before := (fun_mk (st := x_before) l29 c29 k29).binds (ps := ["page", "key"]) fun _ _ _ _ _ _ us hl => match us, hl with | [_, _], _ => rfl
  F_Tree__init := fun_mk (st := x_Tree__init) l30 c30 k30
  b_Tree__init := (fun_mk (st := x_Tree__init) l30 c30 k30).binds (ps := ["self", "most"]) fun _ _ _ _ _ _ us hl => match us, hl with | [_, _], _ => rfl
  F_Tree____len__ := fun_mk (st := x_Tree____len__) l31 c31 k31
  b_Tree____len__ := (fun_mk (st := x_Tree____len__) l31 c31 k31).binds (ps := ["self"]) fun _ _ _ _ _ _ us hl => match us, hl with | [_], _ => rfl
  F_Tree____contains__ := fun_mk (st := x_Tree____contains__) l32 c32 k32
  b_Tree____contains__ := (fun_mk (st := x_Tree____contains__) l32 c32 k32).binds (ps := ["self", "key"]) fun _ _ _ _ _ _ us hl => match us, hl with | [_, _], _ => rfl
  m_Tree__root := ⟨a33, b33, k33⟩
  F_Tree__root := fun_mk (st := x_Tree__root) l33 c33 k33
  b_Tree__root := (fun_mk (st := x_Tree__root) l33 c33 k33).binds (ps := ["self"]) fun _ _ _ _ _ _ us hl => match us, hl with | [_], _ => rfl
  m_Tree__put := ⟨a34, b34, k34⟩
  F_Tree__put := fun_mk (st := x_Tree__put) l34 c34 k34
  b_Tree__put := (fun_mk (st := x_Tree__put) l34 c34 k34).binds (ps := ["self", "key", "thing"]) fun _ _ _ _ _ _ us hl => match us, hl with | [_, _, _], _ => rfl
  m_Tree__take := ⟨a35, b35, k35⟩
  F_Tree__take := fun_mk (st := x_Tree__take) l35 c35 k35
  b_Tree__take := (fun_mk (st := x_Tree__take) l35 c35 k35).binds (ps := ["self", "key"]) fun _ _ _ _ _ _ us hl => match us, hl with | [_, _], _ => rfl
  F_Tree__has := fun_mk (st := x_Tree__has) l36 c36 k36
  b_Tree__has := (fun_mk (st := x_Tree__has) l36 c36 k36).binds (ps := ["self", "key"]) fun _ _ _ _ _ _ us hl => match us, hl with | [_, _], _ => rfl
  g__law_deal := PySem.W.mg_of X G a37
  F__law_deal := fun_mk (st := x__law_deal) l37 c37 k37
  b__law_deal := (fun_mk (st := x__law_deal) l37 c37 k37).binds (ps := ["_law_script", "_law_base"]) fun _ _ _ _ _ _ us hl => match us, hl with | [_, _], _ => rfl
  g__law_any := PySem.W.mg_of X G a38
  F__law_any := fun_mk (st := x__law_any) l38 c38 k38
  b__law_any := (fun_mk (st := x__law_any) l38 c38 k38).binds (ps := ["_law_deal_here", "_law_bound"]) fun _ _ _ _ _ _ us hl => match us, hl with | [_, _], _ => rfl
  g__law_of := PySem.W.mg_of X G a39
  F__law_of := fun_mk (st := x__law_of) l39 c39 k39
  b__law_of := (fun_mk (st := x__law_of) l39 c39 k39).binds (ps := ["_law_deal_here", "_law_some"]) fun _ _ _ _ _ _ us hl => match us, hl with | [_, _], _ => rfl
  g__law_keys := PySem.W.mg_of X G a40
  F__law_keys := fun_mk (st := x__law_keys) l40 c40 k40
  b__law_keys := (fun_mk (st := x__law_keys) l40 c40 k40).binds (ps := ["_law_deal_here", "_law_many"]) fun _ _ _ _ _ _ us hl => match us, hl with | [_, _], _ => rfl
  g__law_thing := PySem.W.mg_of X G a41
  F__law_thing := fun_mk (st := x__law_thing) l41 c41 k41
  b__law_thing := (fun_mk (st := x__law_thing) l41 c41 k41).binds (ps := ["_law_deal_here"]) fun _ _ _ _ _ _ us hl => match us, hl with | [_], _ => rfl
  g__law_next := PySem.W.mg_of X G a42
  F__law_next := fun_mk (st := x__law_next) l42 c42 k42
  b__law_next := (fun_mk (st := x__law_next) l42 c42 k42).binds (ps := ["_law_rows", "_law_key", "_law_is_up"]) fun _ _ _ _ _ _ us hl => match us, hl with | [_, _, _], _ => rfl
  g__law_wrong := PySem.W.mg_of X G a43
  F__law_wrong := fun_mk (st := x__law_wrong) l43 c43 k43
  b__law_wrong := (fun_mk (st := x__law_wrong) l43 c43 k43).binds (ps := ["_law_page", "_law_value"]) fun _ _ _ _ _ _ us hl => match us, hl with | [_, _], _ => rfl
  g__law_changed := PySem.W.mg_of X G a44
  F__law_changed := fun_mk (st := x__law_changed) l44 c44 k44
  b__law_changed := (fun_mk (st := x__law_changed) l44 c44 k44).binds (ps := ["_law_deal_here", "_law_tree", "_law_rows", "_law_keys_here"]) fun _ _ _ _ _ _ us hl => match us, hl with | [_, _, _, _], _ => rfl
  g_law := PySem.W.mg_of X G a45
  F_law := fun_mk (st := x_law) l45 c45 k45
  b_law := (fun_mk (st := x_law) l45 c45 k45).binds (ps := ["_law_script"]) fun _ _ _ _ _ _ us hl => match us, hl with | [_], _ => rfl
  g_Tree := PySem.W.mg_of X G ca52
  K_Tree := ⟨by unfold clsV; rw [ca52]; rfl, cb52, cx52, cy52, ce52⟩
  M_Tree := ⟨cf52, a30, b30, cg52⟩
  n_Tree__known := cn52__known
  n_Tree__page := cn52__page
  n_Tree_most := cn52_most
  g_StoreError := PySem.W.mg_of X G ea46
  K_StoreError := excK_mk ea46 eb46 ec46 ed46 ee46 ef46 sp tp eg46 eh46 ei46 ej46
  g_InvalidKey := PySem.W.mg_of X G ea47
  K_InvalidKey := excK_mk ea47 eb47 ec47 ed47 ee47 ef47 sp tp eg47 eh47 ei47 ej47
  E_InvalidKey := errC_mk (st := methAt x_InvalidKey 0) (x := "at") ErE.base_Exception xa47 xb47 xc47 xd47 xe47 en47_at xf47 xg47 tq xh47 xi47 xj47 xk47 xl47 xm47 tr rfl (by decide +kernel) rfl (fun _ _ _ _ _ _ _ _ _ _ _ _ h => by subst h; exact .of_eq rfl) rfl
  g_InvalidSize := PySem.W.mg_of X G ea48
  K_InvalidSize := excK_mk ea48 eb48 ec48 ed48 ee48 ef48 sp tp eg48 eh48 ei48 ej48
  E_InvalidSize := errC_mk (st := methAt x_InvalidSize 0) (x := "word") ErE.base_Exception xa48 xb48 xc48 xd48 xe48 en48_word xf48 xg48 tq xh48 xi48 xj48 xk48 xl48 xm48 tr rfl (by decide +kernel) rfl (fun _ _ _ _ _ _ _ _ _ _ _ _ h => by subst h; exact .of_eq rfl) rfl
  n_InvalidKey_at := en47_at
  n_InvalidSize_word := en48_word
  u_InvalidKey_InvalidKey := eu47_47
  u_InvalidSize_InvalidKey := eu48_47
  k_after_key_page := fun s us ws _ hu hw => match us, ws, hu, hw with | [], [_, _], _, _ => BindsTo.of_eq (by first | rfl | with_unfolding_all rfl)
  k_before_key_page := fun s us ws _ hu hw => match us, ws, hu, hw with | [], [_, _], _, _ => BindsTo.of_eq (by first | rfl | with_unfolding_all rfl)
  k_first_page := fun s us ws _ hu hw => match us, ws, hu, hw with | [], [_], _, _ => BindsTo.of_eq (by first | rfl | with_unfolding_all rfl)
  k_last_page := fun s us ws _ hu hw => match us, ws, hu, hw with | [], [_], _, _ => BindsTo.of_eq (by first | rfl | with_unfolding_all rfl)
  z_abs := PySem.W.mg_none_of X G z0
  z_bool := PySem.W.mg_none_of X G z1
  z_enumerate := PySem.W.mg_none_of X G z2
  z_int := PySem.W.mg_none_of X G z3
  z_isinstance := PySem.W.mg_none_of X G z4
  z_len := PySem.W.mg_none_of X G z5
  z_range := PySem.W.mg_none_of X G z6
  z_repr := PySem.W.mg_none_of X G z7
  z_sorted := PySem.W.mg_none_of X G z8
  z_str := PySem.W.mg_none_of X G z9
  z_super := PySem.W.mg_none_of X G z10
  z_tuple := PySem.W.mg_none_of X G z11
  c_KEY_SIGNS := ⟨_, PySem.W.mg_of X G u0⟩
  c_LONGEST_KEY := ⟨_, PySem.W.mg_of X G u1⟩
  c_LEAST_MOST := ⟨_, PySem.W.mg_of X G u2⟩
  c_GREATEST_MOST := ⟨_, PySem.W.mg_of X G u3⟩
  c_LEAF := ⟨_, PySem.W.mg_of X G u4⟩
  c_BRANCH := ⟨_, PySem.W.mg_of X G u5⟩
  al_has_pages := PySem.W.mg_of X G al0
  e_EMPTY := ⟨.ref qa0_0, _, PySem.W.mg_of X G qr0, rfl, .tup qb0_0 rfl rfl rfl (by rw [sizeLine_eq]; show 2 ≤ 16777216; decide) (show Vals [.str "leaf", .ref qa0_2] [.str "leaf" qt0_1, .ref qa0_2] from .cons ⟨_, rfl⟩ (.cons rfl (.nil))) (.cons (.str _) (.cons (.tup qb0_2 rfl rfl rfl (by rw [sizeLine_eq]; show 0 ≤ 16777216; decide) (show Vals [] [] from .nil) (.nil)) (.nil)))⟩
end K12
end
section
namespace TR
open PySem PySem.Spec PyProof.Rows L2 DM
noncomputable def f_is_integer : List D → AH → Res D := mFun 1 (mRet (mAndV (mCall fIsi (mCons (mVar 0) (mCons (mK (.ty "int")) (mNil)))) (mNotV (mCall fIsi (mCons (mVar 0) (mCons (mK (.ty "bool"))
    (mNil)))))))
noncomputable def f_is_text : List D → AH → Res D := mFun 1 (mRet (mCall fIsi (mCons (mVar 0) (mCons (mK (.ty "str")) (mNil)))))
noncomputable def b_wrong_sign1 : MS := (mIfS (mOr (mTst (mOp (fEq false) (mVar 3) (mVar 2))) (mTst (mOp (fInC true) (mVar 4) (mVar 1)))) (mRet (mVar 3)) (mNext))
noncomputable def f_wrong_sign : List D → AH → Res D := mFun 5 (mSeq (mFor (mEnS (mCons (mVar 0) (mNil))) (.tp [.nm 3, .nm 4]) b_wrong_sign1) (mRet (mK .non)))
noncomputable def f_key_fault : List D → AH → Res D := mFun 1 (mSeq (mIfS (mOr (mNot (mTst (mCallF 1 f_is_text (mCons (mVar 0) (mNil))))) (mTst (mOp (fEq false) (mVar 0) (mK (.str ""))))) (mRet (mNeg
    (mK (.int 1)))) (mNext)) (mRet (mCallF 3 f_wrong_sign (mCons (mVar 0) (mCons (mK (.str "0123456789_abcdefghijklmnopqrstuvwxyz")) (mCons (mK (.int 16)) (mNil)))))))
noncomputable def f_need_key : List D → AH → Res D := mFun 2 (mSeq (mSet 1 (mCallF 1 f_key_fault (mCons (mVar 0) (mNil)))) (mIfS (mTst (mOp (fIsN true) (mVar 1) (mK .non))) (mRaise "InvalidKey" "at"
    (mVar 1)) (mNext)))
noncomputable def f_need_most : List D → AH → Res D := mFun 1 (mIfS (mOr (mNot (mTst (mCallF 1 f_is_integer (mCons (mVar 0) (mNil))))) (mNot (mTst (mChn fLe fLe (mK (.int 3)) (mVar 0) (mK (.int
    16)))))) (mRaise "InvalidSize" "word" (mK (.str "most"))) (mNext))
noncomputable def f_half_of : List D → AH → Res D := mFun 1 (mSeq (mDrop (mCallF 1 f_need_most (mCons (mVar 0) (mNil)))) (mRet (mOp fDiv (mOp fAdd (mVar 0) (mK (.int 1))) (mK (.int 2)))))
noncomputable def f_is_leaf : List D → AH → Res D := mFun 1 (mRet (mOp (fEq false) (mOp fIx (mVar 0) (mK (.int 0))) (mK (.str "leaf"))))
noncomputable def f_things_on : List D → AH → Res D := mFun 1 (mRet (mOp fIx (mVar 0) (mNeg (mK (.int 1)))))
noncomputable def t_child_number1 : MT := (mTst (mOp fLt (mVar 2) (mVar 3)))
noncomputable def b_child_number1 : MS := (mSeq (mSet 4 (mOp fDiv (mOp fAdd (mVar 2) (mVar 3)) (mK (.int 2)))) (mIfS (mTst (mOp fLeX (mOp fIx (mVar 0) (mVar 4)) (mVar 1))) (mSet 2 (mOp fAdd (mVar 4)
    (mK (.int 1)))) (mSet 3 (mVar 4))))
noncomputable def f_child_number : List D → AH → Res D := mFun 5 (mSeq (mPar2 2 3 (mCons (mK (.int 0)) (mCons (mCall fLen (mCons (mVar 0) (mNil))) (mNil)))) (mSeq (mWhile t_child_number1
    b_child_number1) (mRet (mVar 2))))
noncomputable def t_entry_number1 : MT := (mTst (mOp fLt (mVar 2) (mVar 3)))
noncomputable def b_entry_number1 : MS := (mSeq (mSet 4 (mOp fDiv (mOp fAdd (mVar 2) (mVar 3)) (mK (.int 2)))) (mIfS (mTst (mOp fLtX (mOp fIx (mOp fIx (mVar 0) (mVar 4)) (mK (.int 0))) (mVar 1))) (mSet
    2 (mOp fAdd (mVar 4) (mK (.int 1)))) (mSet 3 (mVar 4))))
noncomputable def f_entry_number : List D → AH → Res D := mFun 5 (mSeq (mPar2 2 3 (mCons (mK (.int 0)) (mCons (mCall fLen (mCons (mVar 0) (mNil))) (mNil)))) (mSeq (mWhile t_entry_number1
    b_entry_number1) (mRet (mVar 2))))
noncomputable def t_leaf_for1 : MT := (mNot (mTst (mCallF 1 f_is_leaf (mCons (mVar 0) (mNil)))))
noncomputable def b_leaf_for1 : MS := (mSet 0 (mOp fIx (mOp fIx (mVar 0) (mK (.int 2))) (mCallF 2 f_child_number (mCons (mOp fIx (mVar 0) (mK (.int 1))) (mCons (mVar 1) (mNil))))))
noncomputable def f_leaf_for : List D → AH → Res D := mFun 2 (mSeq (mWhile t_leaf_for1 b_leaf_for1) (mRet (mVar 0)))
noncomputable def f_entry_of : List D → AH → Res D := mFun 4 (mSeq (mSet 2 (mOp fIx (mCallF 2 f_leaf_for (mCons (mVar 0) (mCons (mVar 1) (mNil)))) (mK (.int 1)))) (mSeq (mSet 3 (mCallF 2 f_entry_number
    (mCons (mVar 2) (mCons (mVar 1) (mNil))))) (mRet (mIf (mAnd (mTst (mOp fLt (mVar 3) (mCall fLen (mCons (mVar 2) (mNil))))) (mTst (mOp (fEq false) (mOp fIx (mOp fIx (mVar 2) (mVar 3)) (mK (.int 0)))
    (mVar 1)))) (mOp fIx (mVar 2) (mVar 3)) (mK .non)))))
noncomputable def f_has : List D → AH → Res D := mFun 2 (mRet (mOp (fIsN true) (mCallF 2 f_entry_of (mCons (mVar 0) (mCons (mVar 1) (mNil)))) (mK .non)))
noncomputable def f_packed_leaf : List D → AH → Res D := mFun 3 (mSeq (mIfS (mTst (mOp fLe (mCall fLen (mCons (mVar 1) (mNil))) (mVar 0))) (mRet (mTup (mCons (mLst (mCons (mTup (mCons (mK (.str
    "leaf")) (mCons (mVar 1) (mNil)))) (mNil))) (mCons (mLst (mNil)) (mNil))))) (mNext)) (mSeq (mSet 2 (mOp fDiv (mCall fLen (mCons (mVar 1) (mNil))) (mK (.int 2)))) (mRet (mTup (mCons (mLst (mCons
    (mTup (mCons (mK (.str "leaf")) (mCons (mSl (mVar 1) (mNone) (mSome (mVar 2))) (mNil)))) (mCons (mTup (mCons (mK (.str "leaf")) (mCons (mSl (mVar 1) (mSome (mVar 2)) (mNone)) (mNil)))) (mNil))))
    (mCons (mLst (mCons (mOp fIx (mOp fIx (mVar 1) (mVar 2)) (mK (.int 0))) (mNil))) (mNil)))))))
noncomputable def f_packed_branch : List D → AH → Res D := mFun 4 (mSeq (mIfS (mTst (mOp fLe (mCall fLen (mCons (mVar 2) (mNil))) (mVar 0))) (mRet (mTup (mCons (mLst (mCons (mTup (mCons (mK (.str
    "branch")) (mCons (mVar 1) (mCons (mVar 2) (mNil))))) (mNil))) (mCons (mLst (mNil)) (mNil))))) (mNext)) (mSeq (mSet 3 (mOp fDiv (mCall fLen (mCons (mVar 2) (mNil))) (mK (.int 2)))) (mRet (mTup
    (mCons (mLst (mCons (mTup (mCons (mK (.str "branch")) (mCons (mSl (mVar 1) (mNone) (mSome (mOp fSub (mVar 3) (mK (.int 1))))) (mCons (mSl (mVar 2) (mNone) (mSome (mVar 3))) (mNil))))) (mCons (mTup
    (mCons (mK (.str "branch")) (mCons (mSl (mVar 1) (mSome (mVar 3)) (mNone)) (mCons (mSl (mVar 2) (mSome (mVar 3)) (mNone)) (mNil))))) (mNil)))) (mCons (mLst (mCons (mOp fIx (mVar 1) (mOp fSub (mVar
    3) (mK (.int 1)))) (mNil))) (mNil)))))))
noncomputable def f_root_of : List D → AH → Res D := mFun 4 (mSeq (mAsg (.tp [.nm 1, .nm 2]) (mVar 0)) (mSeq (mSet 3 (mIf (mTst (mOp (fEq false) (mCall fLen (mCons (mVar 1) (mNil))) (mK (.int 1))))
    (mOp fIx (mVar 1) (mK (.int 0))) (mTup (mCons (mK (.str "branch")) (mCons (mCall fTup (mCons (mVar 2) (mNil))) (mCons (mCall fTup (mCons (mVar 1) (mNil))) (mNil))))))) (mRet (mIf (mAnd (mNot (mTst
    (mCallF 1 f_is_leaf (mCons (mVar 3) (mNil))))) (mTst (mOp (fEq false) (mCall fLen (mCons (mOp fIx (mVar 3) (mK (.int 2))) (mNil))) (mK (.int 1))))) (mOp fIx (mOp fIx (mVar 3) (mK (.int 2))) (mK
    (.int 0))) (mVar 3)))))
noncomputable def f_spliced : List D → AH → Res D := mFun 7 (mSeq (mSet 5 (mOp fAdd (mOp fAdd (mSl (mOp fIx (mVar 1) (mK (.int 2))) (mNone) (mSome (mVar 2))) (mCall fTup (mCons (mOp fIx (mVar 4) (mK
    (.int 0))) (mNil)))) (mSl (mOp fIx (mVar 1) (mK (.int 2))) (mSome (mVar 3)) (mNone)))) (mSeq (mSet 6 (mOp fAdd (mOp fAdd (mSl (mOp fIx (mVar 1) (mK (.int 1))) (mNone) (mSome (mVar 2))) (mCall fTup
    (mCons (mOp fIx (mVar 4) (mK (.int 1))) (mNil)))) (mSl (mOp fIx (mVar 1) (mK (.int 1))) (mSome (mOp fSub (mVar 3) (mK (.int 1)))) (mNone)))) (mRet (mCallF 3 f_packed_branch (mCons (mVar 0) (mCons
    (mVar 6) (mCons (mVar 5) (mNil))))))))
noncomputable def f_fused : List D → AH → Res D := mFun 4 (mSeq (mIfS (mTst (mCallF 1 f_is_leaf (mCons (mVar 1) (mNil)))) (mRet (mCallF 2 f_packed_leaf (mCons (mVar 0) (mCons (mOp fAdd (mOp fIx (mVar
    1) (mK (.int 1))) (mOp fIx (mVar 3) (mK (.int 1)))) (mNil))))) (mNext)) (mRet (mCallF 3 f_packed_branch (mCons (mVar 0) (mCons (mOp fAdd (mOp fAdd (mOp fIx (mVar 1) (mK (.int 1))) (mTup (mCons
    (mVar 2) (mNil)))) (mOp fIx (mVar 3) (mK (.int 1)))) (mCons (mOp fAdd (mOp fIx (mVar 1) (mK (.int 2))) (mOp fIx (mVar 3) (mK (.int 2)))) (mNil)))))))
noncomputable def g_put_pieces (c_put_pieces : List D → AH → Res D) : List D → AH → Res D := mFun 7 (mSeq (mIfS (mTst (mCallF 1 f_is_leaf (mCons (mVar 1) (mNil)))) (mSeq (mSet 5 (mOp fIx (mVar 1) (mK
    (.int 1)))) (mSeq (mSet 4 (mCallF 2 f_entry_number (mCons (mVar 5) (mCons (mVar 2) (mNil))))) (mSeq (mSet 6 (mIf (mAnd (mTst (mOp fLt (mVar 4) (mCall fLen (mCons (mVar 5) (mNil))))) (mTst (mOp (fEq
    false) (mOp fIx (mOp fIx (mVar 5) (mVar 4)) (mK (.int 0))) (mVar 2)))) (mSl (mVar 5) (mSome (mOp fAdd (mVar 4) (mK (.int 1)))) (mNone)) (mSl (mVar 5) (mSome (mVar 4)) (mNone)))) (mRet (mCallF 2
    f_packed_leaf (mCons (mVar 0) (mCons (mOp fAdd (mOp fAdd (mSl (mVar 5) (mNone) (mSome (mVar 4))) (mTup (mCons (mTup (mCons (mVar 2) (mCons (mVar 3) (mNil)))) (mNil)))) (mVar 6)) (mNil))))))))
    (mNext)) (mSeq (mSet 4 (mCallF 2 f_child_number (mCons (mOp fIx (mVar 1) (mK (.int 1))) (mCons (mVar 2) (mNil))))) (mRet (mCallF 5 f_spliced (mCons (mVar 0) (mCons (mVar 1) (mCons (mVar 4) (mCons
    (mOp fAdd (mVar 4) (mK (.int 1))) (mCons (mCallF 4 c_put_pieces (mCons (mVar 0) (mCons (mOp fIx (mOp fIx (mVar 1) (mK (.int 2))) (mVar 4)) (mCons (mVar 2) (mCons (mVar 3) (mNil))))))
    (mNil))))))))))
noncomputable def f_put_pieces : Nat → List D → AH → Res D
  | 0 => fun _ _ => .no
  | n + 1 => g_put_pieces (f_put_pieces n)
noncomputable def f_with_entry : List D → AH → Res D := mFun 4 (mRet (mCallF 1 f_root_of (mCons (mCallF 4 (f_put_pieces 9) (mCons (mVar 0) (mCons (mVar 1) (mCons (mVar 2) (mCons (mVar 3) (mNil))))))
    (mNil))))
noncomputable def g_less_page (c_less_page : List D → AH → Res D) : List D → AH → Res D := mFun 7 (mSeq (mIfS (mTst (mCallF 1 f_is_leaf (mCons (mVar 1) (mNil)))) (mSeq (mSet 3 (mCallF 2 f_entry_number
    (mCons (mOp fIx (mVar 1) (mK (.int 1))) (mCons (mVar 2) (mNil))))) (mRet (mTup (mCons (mK (.str "leaf")) (mCons (mOp fAdd (mSl (mOp fIx (mVar 1) (mK (.int 1))) (mNone) (mSome (mVar 3))) (mSl (mOp
    fIx (mVar 1) (mK (.int 1))) (mSome (mOp fAdd (mVar 3) (mK (.int 1)))) (mNone))) (mNil)))))) (mNext)) (mSeq (mSet 3 (mCallF 2 f_child_number (mCons (mOp fIx (mVar 1) (mK (.int 1))) (mCons (mVar 2)
    (mNil))))) (mSeq (mSet 4 (mCallF 3 c_less_page (mCons (mVar 0) (mCons (mOp fIx (mOp fIx (mVar 1) (mK (.int 2))) (mVar 3)) (mCons (mVar 2) (mNil)))))) (mSeq (mIfS (mTst (mOp fGe (mCall fLen (mCons
    (mCallF 1 f_things_on (mCons (mVar 4) (mNil))) (mNil))) (mCallF 1 f_half_of (mCons (mVar 0) (mNil))))) (mRet (mOp fIx (mOp fIx (mCallF 5 f_spliced (mCons (mVar 0) (mCons (mVar 1) (mCons (mVar 3)
    (mCons (mOp fAdd (mVar 3) (mK (.int 1))) (mCons (mTup (mCons (mLst (mCons (mVar 4) (mNil))) (mCons (mLst (mNil)) (mNil)))) (mNil))))))) (mK (.int 0))) (mK (.int 0)))) (mNext)) (mSeq (mSet 5 (mIf
    (mTst (mOp fGt (mVar 3) (mK (.int 0)))) (mOp fSub (mVar 3) (mK (.int 1))) (mK (.int 0)))) (mSeq (mSet 6 (mIf (mTst (mOp fGt (mVar 3) (mK (.int 0)))) (mTup (mCons (mOp fIx (mOp fIx (mVar 1) (mK
    (.int 2))) (mVar 5)) (mCons (mVar 4) (mNil)))) (mTup (mCons (mVar 4) (mCons (mOp fIx (mOp fIx (mVar 1) (mK (.int 2))) (mK (.int 1))) (mNil)))))) (mRet (mOp fIx (mOp fIx (mCallF 5 f_spliced (mCons
    (mVar 0) (mCons (mVar 1) (mCons (mVar 5) (mCons (mOp fAdd (mVar 5) (mK (.int 2))) (mCons (mCallF 4 f_fused (mCons (mVar 0) (mCons (mOp fIx (mVar 6) (mK (.int 0))) (mCons (mOp fIx (mOp fIx (mVar 1)
    (mK (.int 1))) (mVar 5)) (mCons (mOp fIx (mVar 6) (mK (.int 1))) (mNil)))))) (mNil))))))) (mK (.int 0))) (mK (.int 0))))))))))
noncomputable def f_less_page : Nat → List D → AH → Res D
  | 0 => fun _ _ => .no
  | n + 1 => g_less_page (f_less_page n)
noncomputable def f_without_entry : List D → AH → Res D := mFun 3 (mRet (mCallF 1 f_root_of (mCons (mTup (mCons (mLst (mCons (mCallF 3 (f_less_page 9) (mCons (mVar 0) (mCons (mVar 1) (mCons (mVar 2)
    (mNil))))) (mNil))) (mCons (mLst (mNil)) (mNil)))) (mNil))))
noncomputable def t_first_key1 : MT := (mNot (mTst (mCallF 1 f_is_leaf (mCons (mVar 0) (mNil)))))
noncomputable def b_first_key1 : MS := (mSet 0 (mOp fIx (mOp fIx (mVar 0) (mK (.int 2))) (mK (.int 0))))
noncomputable def f_first_key : List D → AH → Res D := mFun 1 (mSeq (mWhile t_first_key1 b_first_key1) (mRet (mOp fIx (mOp fIx (mOp fIx (mVar 0) (mK (.int 1))) (mK (.int 0))) (mK (.int 0)))))
noncomputable def t_behind_of1 : MT := (mNot (mTst (mCallF 1 f_is_leaf (mCons (mVar 0) (mNil)))))
noncomputable def b_behind_of1 : MS := (mSeq (mSet 4 (mCallF 2 f_child_number (mCons (mOp fIx (mVar 0) (mK (.int 1))) (mCons (mVar 1) (mNil))))) (mSeq (mIfS (mTst (mOp fLt (mVar 4) (mCall fLen (mCons
    (mOp fIx (mVar 0) (mK (.int 1))) (mNil))))) (mSet 3 (mOp fIx (mOp fIx (mVar 0) (mK (.int 2))) (mOp fAdd (mVar 4) (mK (.int 1))))) (mNext)) (mSet 0 (mOp fIx (mOp fIx (mVar 0) (mK (.int 2))) (mVar
    4)))))
noncomputable def b_behind_of2 : MS := (mIfS (mTst (mOp fGtX (mOp fIx (mVar 2) (mK (.int 0))) (mVar 1))) (mRet (mOp fIx (mVar 2) (mK (.int 0)))) (mNext))
noncomputable def f_behind_of : List D → AH → Res D := mFun 5 (mSeq (mFor (mSq (mOp fIx (mCallF 2 f_leaf_for (mCons (mVar 0) (mCons (mVar 1) (mNil)))) (mK (.int 1)))) (.nm 2) b_behind_of2) (mSeq (mSet
    3 (mK .non)) (mSeq (mWhile t_behind_of1 b_behind_of1) (mRet (mIf (mTst (mOp (fIsN false) (mVar 3) (mK .non))) (mK .non) (mCallF 1 f_first_key (mCons (mVar 3) (mNil))))))))
noncomputable def t_first1 : MT := (mNot (mTst (mCallF 1 f_is_leaf (mCons (mVar 0) (mNil)))))
noncomputable def b_first1 : MS := (mSet 0 (mOp fIx (mOp fIx (mVar 0) (mK (.int 2))) (mK (.int 0))))
noncomputable def f_first : List D → AH → Res D := mFun 1 (mSeq (mWhile t_first1 b_first1) (mRet (mIf (mTru (mOp fIx (mVar 0) (mK (.int 1)))) (mOp fIx (mOp fIx (mVar 0) (mK (.int 1))) (mK (.int 0)))
    (mK .non))))
noncomputable def t_last1 : MT := (mNot (mTst (mCallF 1 f_is_leaf (mCons (mVar 0) (mNil)))))
noncomputable def b_last1 : MS := (mSet 0 (mOp fIx (mOp fIx (mVar 0) (mK (.int 2))) (mNeg (mK (.int 1)))))
noncomputable def f_last : List D → AH → Res D := mFun 1 (mSeq (mWhile t_last1 b_last1) (mRet (mIf (mTru (mOp fIx (mVar 0) (mK (.int 1)))) (mOp fIx (mOp fIx (mVar 0) (mK (.int 1))) (mNeg (mK (.int
    1)))) (mK .non))))
noncomputable def f_after : List D → AH → Res D := mFun 3 (mSeq (mDrop (mCallF 1 f_need_key (mCons (mVar 1) (mNil)))) (mSeq (mSet 2 (mCallF 2 f_behind_of (mCons (mVar 0) (mCons (mVar 1) (mNil)))))
    (mRet (mIf (mTst (mOp (fIsN false) (mVar 2) (mK .non))) (mK .non) (mCallF 2 f_entry_of (mCons (mVar 0) (mCons (mVar 2) (mNil))))))))
noncomputable def t_before1 : MT := (mNot (mTst (mCallF 1 f_is_leaf (mCons (mVar 0) (mNil)))))
noncomputable def b_before1 : MS := (mSeq (mSet 5 (mCallF 2 f_child_number (mCons (mOp fIx (mVar 0) (mK (.int 1))) (mCons (mVar 1) (mNil))))) (mSeq (mIfS (mTst (mOp fGt (mVar 5) (mK (.int 0)))) (mSet 4
    (mOp fIx (mOp fIx (mVar 0) (mK (.int 2))) (mOp fSub (mVar 5) (mK (.int 1))))) (mNext)) (mSet 0 (mOp fIx (mOp fIx (mVar 0) (mK (.int 2))) (mVar 5)))))
noncomputable def f_before : List D → AH → Res D := mFun 6 (mSeq (mDrop (mCallF 1 f_need_key (mCons (mVar 1) (mNil)))) (mSeq (mSet 2 (mOp fIx (mCallF 2 f_leaf_for (mCons (mVar 0) (mCons (mVar 1)
    (mNil)))) (mK (.int 1)))) (mSeq (mSet 3 (mCallF 2 f_entry_number (mCons (mVar 2) (mCons (mVar 1) (mNil))))) (mSeq (mIfS (mTst (mOp fGt (mVar 3) (mK (.int 0)))) (mRet (mOp fIx (mVar 2) (mOp fSub
    (mVar 3) (mK (.int 1))))) (mNext)) (mSeq (mSet 4 (mK (.tup [.str "leaf", .tup []]))) (mSeq (mWhile t_before1 b_before1) (mRet (mCallF 1 f_last (mCons (mVar 4) (mNil))))))))))
noncomputable def f_Tree__init : List D → AH → Res D := mFun 2 (mSeq (mDrop (mCallF 1 f_need_most (mCons (mVar 1) (mNil)))) (mSeq (mSetF "Tree" "most" (mVar 1) (mVar 0)) (mSeq (mSetF "Tree" "_page" (mK
    (.tup [.str "leaf", .tup []])) (mVar 0)) (mSetF "Tree" "_known" (mDict0) (mVar 0)))))
noncomputable def f_Tree__root : List D → AH → Res D := mFun 1 (mRet (mFld "Tree" "_page" (mVar 0)))
noncomputable def f_Tree__put : List D → AH → Res D := mFun 4 (mSeq (mDrop (mCallF 1 f_need_key (mCons (mVar 1) (mNil)))) (mSeq (mSet 3 (mNotV (mCallF 2 f_has (mCons (mFld "Tree" "_page" (mVar 0))
    (mCons (mVar 1) (mNil)))))) (mSeq (mSetF "Tree" "_page" (mCallF 4 f_with_entry (mCons (mFld "Tree" "most" (mVar 0)) (mCons (mFld "Tree" "_page" (mVar 0)) (mCons (mVar 1) (mCons (mVar 2) (mNil))))))
    (mVar 0)) (mSeq (mDPut (mK (.bl true)) (mFld "Tree" "_known" (mVar 0)) (mVar 1)) (mRet (mVar 3))))))
noncomputable def f_Tree__take : List D → AH → Res D := mFun 2 (mSeq (mDrop (mCallF 1 f_need_key (mCons (mVar 1) (mNil)))) (mSeq (mIfS (mNot (mTst (mCallF 2 f_has (mCons (mFld "Tree" "_page" (mVar 0))
    (mCons (mVar 1) (mNil)))))) (mRet (mK (.bl false))) (mNext)) (mSeq (mSetF "Tree" "_page" (mCallF 3 f_without_entry (mCons (mFld "Tree" "most" (mVar 0)) (mCons (mFld "Tree" "_page" (mVar 0)) (mCons
    (mVar 1) (mNil))))) (mVar 0)) (mSeq (mDDel (mFld "Tree" "_known" (mVar 0)) (mVar 1)) (mRet (mK (.bl true)))))))
end TR
end
section
set_option maxHeartbeats 1000000
namespace TR
open PySem PySem.Spec PyProof.Rows L2 DM
/-! ### running -/
theorem callF_at {n : Nat} {g : List D → AH → Res D} {ms : MA} {ρ : DM.Env} {A A1 : AH} {ds : List D} {r : Res D} (hm : ms ρ A = .ok ds A1) (hl : ds.length = n) (hg : g ds A1 = r) : mCallF n g ms ρ A = r := by
  rw [ev_callF, hm, bind_ok, if_pos hl, hg]
def Wh (mt : MT) (sb : MS) (ρ : DM.Env) (A : AH) (r : SRes) : Prop := ∃ k, iterW mt sb k ρ A = r
theorem Wh.run {mt : MT} {sb : MS} {ρ : DM.Env} {A : AH} {r : SRes} (h : Wh mt sb ρ A r) (hr : r ≠ .no) : mWhile mt sb ρ A = r := by
  obtain ⟨k, h⟩ := h
  exact mWhile_eq h hr
theorem Wh.stop {mt : MT} {sb : MS} {ρ : DM.Env} {A A1 : AH} (h : mt ρ A = .ok false A1) : Wh mt sb ρ A (.nx ρ A1) := ⟨1, by unfold iterW; rw [h]⟩
theorem Wh.next {mt : MT} {sb : MS} {ρ ρ2 : DM.Env} {A A1 A2 : AH} {r : SRes} (h : mt ρ A = .ok true A1) (hb : sb ρ A1 = .nx ρ2 A2) (w : Wh mt sb ρ2 A2 r) : Wh mt sb ρ A r := by
  obtain ⟨k, w⟩ := w
  refine ⟨k + 1, ?_⟩
  conv => lhs; unfold iterW
  rw [h]
  simp only [hb]
  exact w
theorem atI_nat {α : Type} {xs : List α} {j : Nat} {x : α} (h : xs[j]? = some x) : atI xs (j : Int) = some x := by
  have hj := (List.getElem?_eq_some_iff.mp h).1
  unfold atI ixN
  rw [if_pos (by omega), if_pos (by omega)]
  simpa using h
theorem atI_neg1 {α : Type} {xs : List α} {x : α} (h : xs.getLast? = some x) : atI xs (-1) = some x := by
  obtain ⟨ys, rfl⟩ := List.getLast?_eq_some_iff.mp h
  exact atI_last _ _
section
variable {A : AH} {xs ys : List D}
theorem ixt {j : Nat} {x : D} (h : xs[j]? = some x) : fIx (.tup xs) (.int (j : Int)) A = .ok x A := ix_tup (atI_nat h)
theorem ixl {j : Nat} {x : D} (h : xs[j]? = some x) : fIx (.lst xs) (.int (j : Int)) A = .ok x A := ix_lst (atI_nat h)
theorem len_t : fLen [.tup xs] A = .ok (.int (xs.length : Nat)) A := by
  unfold fLen
  simp only [seqOf]
theorem add_t (h : xs.length + ys.length ≤ 16777216) : fAdd (.tup xs) (.tup ys) A = .ok (.tup (xs ++ ys)) A := if_pos h
theorem sl_to {i : Nat} : fSl (.tup xs) none (some (i : Int)) A = .ok (.tup (xs.take i)) A := by
  simp only [fSl]
  rw [cut_take]
theorem sl_from {i : Nat} (hi : i ≤ xs.length) : fSl (.tup xs) (some (i : Int)) none A = .ok (.tup (xs.drop i)) A := by
  simp only [fSl]
  have : DM.cutD xs (some (i : Int)) none = xs.drop i := by
    unfold DM.cutD
    rw [HT.sIx_nat, HT.sIx_none, Nat.min_eq_left hi]
    rw [List.take_of_length_le]
    rw [List.length_drop]
    omega
  rw [this]
theorem eq_ss {x y : Str} {neg : Bool} : fEq neg (.str x) (.str y) A = .ok (.bl (if neg then !decide (x = y) else decide (x = y))) A := by cases neg <;> rfl
theorem le_ss {x y : Str} : fLeX (.str x) (.str y) A = .ok (.bl (sLe x y)) A := rfl
theorem lt_ss {x y : Str} : fLtX (.str x) (.str y) A = .ok (.bl (decide (sLt x y))) A := rfl
theorem gt_ss {x y : Str} : fGtX (.str x) (.str y) A = .ok (.bl (decide (sLt y x))) A := rfl
end
/-! ### order -/
theorem lt_tr {a b c : Str} (h1 : sLt a b) (h2 : sLt b c) : sLt a c := List.lt_trans h1 h2
theorem lt_ir {a : Str} : ¬ sLt a a := List.lt_irrefl _
theorem lt_as {a b : Str} (h : sLt a b) : ¬ sLt b a := List.lt_asymm h
theorem le_of_nlt {a b : Str} (h : ¬ sLt b a) : sLe a b = true := by unfold sLe; rw [decide_eq_false h]; rfl
theorem nlt_of_le {a b : Str} (h : sLe a b = true) : ¬ sLt b a := fun z => by unfold sLe at h; rw [decide_eq_true z] at h; cases h
theorem tri (a b : Str) : sLt a b ∨ a = b ∨ sLt b a := by
  by_cases h1 : sLt a b
  · exact .inl h1
  · by_cases h2 : sLt b a
    · exact .inr (.inr h2)
    · exact .inr (.inl (sLe_anti (le_of_nlt h2) (le_of_nlt h1)))
theorem lt_le {a b c : Str} (h1 : sLt a b) (h2 : ¬ sLt c b) : sLt a c := by
  rcases tri b c with h | rfl | h
  · exact lt_tr h1 h
  · exact h1
  · exact absurd h h2
theorem le_lt {a b c : Str} (h1 : ¬ sLt b a) (h2 : sLt b c) : sLt a c := by
  rcases tri a b with h | rfl | h
  · exact lt_tr h h2
  · exact h2
  · exact absurd h h1
/-! ### how many of a row are below -/
/-! ### pages as data -/
abbrev En := Str × D
def enD (e : En) : D := .tup [.str e.1, e.2]
def leafD (es : List En) : D := .tup [.str "leaf", .tup (es.map enD)]
def brD (ks : List Str) (ps : List D) : D := .tup [.str "branch", .tup (ks.map D.str), .tup ps]
section
variable {A : AH} {key : Str}
theorem is_leaf_l {es : List En} : f_is_leaf [leafD es] A = .ok (.bl true) A := rfl
theorem is_leaf_b {ks : List Str} {ps : List D} : f_is_leaf [brD ks ps] A = .ok (.bl false) A := rfl
/-! ### searching -/
theorem half_nat {l h : Nat} : ((l : Int) + (h : Int)) / 2 = (((l + h) / 2 : Nat) : Int) := by omega
theorem child_go {a b : List Str} (ha : ∀ k ∈ a, sLe k key = true) (hb : ∀ k ∈ b, sLe k key = false) (hz : (a ++ b).length ≤ 1000000) : ∀ (m l h : Nat) (x4 : Option D), h - l ≤ m → l ≤ a.length → a.length ≤ h → h ≤ (a ++ b).length →
    ∃ y4, Wh t_child_number1 b_child_number1 [some (.tup ((a ++ b).map D.str)), some (.str key), some (.int (l : Int)), some (.int (h : Int)), x4] A (.nx [some (.tup ((a ++ b).map D.str)), some (.str key), some (.int (a.length : Nat)), some (.int (a.length : Nat)), y4] A) := by
  intro m
  induction m with
  | zero =>
    intro l h x4 hm h1 h2 h3
    have e1 : l = a.length := by omega
    have e2 : h = a.length := by omega
    subst e1
    rw [e2]
    refine ⟨x4, Wh.stop ?_⟩
    have t0 : decide (((a.length : Nat) : Int) < ((a.length : Nat) : Int)) = false := decide_eq_false (by omega)
    unfold t_child_number1
    simp only [EVa, List.getElem?_cons_zero, List.getElem?_cons_succ, List.set_cons_zero, List.set_cons_succ, bind_ok, lift_ok, List.length_cons, List.length_nil, Nat.reduceAdd, Nat.reduceLeDiff, ↓reduceIte, if_true, if_false, Bool.false_eq_true, ev_raise, and_self, List.map_cons, List.map_nil, List.replicate, List.cons_append, List.nil_append, Nat.reduceSub, lt_ii, t0]
  | succ m ih =>
    intro l h x4 hm h1 h2 h3
    by_cases hlt : l < h
    · have hc : (l + h) / 2 < (a ++ b).length := by omega
      have hx : ((a ++ b).map D.str)[(l + h) / 2]? = some (.str (a ++ b)[(l + h) / 2]) := by rw [List.getElem?_map, List.getElem?_eq_getElem hc]; rfl
      have ix := ixt (A := A) hx
      have cd : CDiv ((l : Int) + (h : Int)) 2 := ⟨by decide, by decide⟩
      have t0 : decide ((l : Int) < (h : Int)) = true := decide_eq_true (by omega)
      have t1 : t_child_number1 [some (.tup ((a ++ b).map D.str)), some (.str key), some (.int (l : Int)), some (.int (h : Int)), x4] A = .ok true A := by
        unfold t_child_number1
        simp only [EVa, List.getElem?_cons_zero, List.getElem?_cons_succ, List.set_cons_zero, List.set_cons_succ, bind_ok, lift_ok, List.length_cons, List.length_nil, Nat.reduceAdd, Nat.reduceLeDiff, ↓reduceIte, if_true, if_false, Bool.false_eq_true, ev_raise, and_self, List.map_cons, List.map_nil, List.replicate, List.cons_append, List.nil_append, Nat.reduceSub, lt_ii, t0]
      have pe : (((l + h) / 2 : Nat) : Int) + 1 = (((l + h) / 2 + 1 : Nat) : Int) := by omega
      by_cases hm2 : (l + h) / 2 < a.length
      · have hin : (a ++ b)[(l + h) / 2] ∈ a := by rw [List.getElem_append_left hm2]; exact List.getElem_mem _
        obtain ⟨y4, w⟩ := ih ((l + h) / 2 + 1) h (some (.int (((l + h) / 2 : Nat) : Int))) (by omega) (by omega) h2 h3
        refine ⟨y4, Wh.next t1 ?_ w⟩
        have lt := le_ss (A := A) (x := (a ++ b)[(l + h) / 2]) (y := key)
        rw [ha _ hin] at lt
        unfold b_child_number1
        refine (seq_nx (ρ1 := [some (.tup ((a ++ b).map D.str)), some (.str key), some (.int (l : Int)), some (.int (h : Int)), some (.int (((l + h) / 2 : Nat) : Int))]) (A1 := A) ?_).trans ?_
        · simp only [EVa, List.getElem?_cons_zero, List.getElem?_cons_succ, List.set_cons_zero, List.set_cons_succ, bind_ok, lift_ok, List.length_cons, List.length_nil, Nat.reduceAdd, Nat.reduceLeDiff, ↓reduceIte, if_true, if_false, Bool.false_eq_true, ev_raise, and_self, List.map_cons, List.map_nil, List.replicate, List.cons_append, List.nil_append, Nat.reduceSub, add_ii, div_ii cd, half_nat]
        · simp only [EVa, List.getElem?_cons_zero, List.getElem?_cons_succ, List.set_cons_zero, List.set_cons_succ, bind_ok, lift_ok, List.length_cons, List.length_nil, Nat.reduceAdd, Nat.reduceLeDiff, ↓reduceIte, if_true, if_false, Bool.false_eq_true, ev_raise, and_self, List.map_cons, List.map_nil, List.replicate, List.cons_append, List.nil_append, Nat.reduceSub, ix, lt, add_ii, pe]
      · have hin : (a ++ b)[(l + h) / 2] ∈ b := by rw [List.getElem_append_right (by omega)]; exact List.getElem_mem _
        obtain ⟨y4, w⟩ := ih l ((l + h) / 2) (some (.int (((l + h) / 2 : Nat) : Int))) (by omega) h1 (by omega) (by omega)
        refine ⟨y4, Wh.next t1 ?_ w⟩
        have lt := le_ss (A := A) (x := (a ++ b)[(l + h) / 2]) (y := key)
        rw [hb _ hin] at lt
        unfold b_child_number1
        refine (seq_nx (ρ1 := [some (.tup ((a ++ b).map D.str)), some (.str key), some (.int (l : Int)), some (.int (h : Int)), some (.int (((l + h) / 2 : Nat) : Int))]) (A1 := A) ?_).trans ?_
        · simp only [EVa, List.getElem?_cons_zero, List.getElem?_cons_succ, List.set_cons_zero, List.set_cons_succ, bind_ok, lift_ok, List.length_cons, List.length_nil, Nat.reduceAdd, Nat.reduceLeDiff, ↓reduceIte, if_true, if_false, Bool.false_eq_true, ev_raise, and_self, List.map_cons, List.map_nil, List.replicate, List.cons_append, List.nil_append, Nat.reduceSub, add_ii, div_ii cd, half_nat]
        · simp only [EVa, List.getElem?_cons_zero, List.getElem?_cons_succ, List.set_cons_zero, List.set_cons_succ, bind_ok, lift_ok, List.length_cons, List.length_nil, Nat.reduceAdd, Nat.reduceLeDiff, ↓reduceIte, if_true, if_false, Bool.false_eq_true, ev_raise, and_self, List.map_cons, List.map_nil, List.replicate, List.cons_append, List.nil_append, Nat.reduceSub, ix, lt]
    · obtain ⟨y4, w⟩ := ih l h x4 (by omega) h1 h2 h3
      exact ⟨y4, w⟩
theorem child_ok {a b : List Str} (ha : ∀ k ∈ a, sLe k key = true) (hb : ∀ k ∈ b, sLe k key = false) (hz : (a ++ b).length ≤ 1000000) : f_child_number [.tup ((a ++ b).map D.str), .str key] A = .ok (.int (a.length : Nat)) A := by
  obtain ⟨y4, w⟩ := child_go (A := A) ha hb hz _ 0 (a ++ b).length none (Nat.le_refl _) (Nat.zero_le _) (by rw [List.length_append]; omega) (Nat.le_refl _)
  have ln : fLen [.tup ((a ++ b).map D.str)] A = .ok (.int ((a ++ b).length : Nat)) A := by rw [len_t, List.length_map]
  unfold f_child_number
  refine fun_rt ?_
  refine (seq_nx (ρ1 := [some (.tup ((a ++ b).map D.str)), some (.str key), some (.int ((0 : Nat) : Int)), some (.int ((a ++ b).length : Nat)), none]) (A1 := A) ?_).trans ?_
  · simp only [EVa, List.getElem?_cons_zero, List.getElem?_cons_succ, List.set_cons_zero, List.set_cons_succ, bind_ok, lift_ok, List.length_cons, List.length_nil, Nat.reduceAdd, Nat.reduceLeDiff, ↓reduceIte, if_true, if_false, Bool.false_eq_true, ev_raise, and_self, List.map_cons, List.map_nil, List.replicate, List.cons_append, List.nil_append, Nat.reduceSub, ln]
    rfl
  refine (seq_nx (w.run (by simp))).trans ?_
  simp only [EVa, List.getElem?_cons_zero, List.getElem?_cons_succ, List.set_cons_zero, List.set_cons_succ, bind_ok, lift_ok, List.length_cons, List.length_nil, Nat.reduceAdd, Nat.reduceLeDiff, ↓reduceIte, if_true, if_false, Bool.false_eq_true, ev_raise, and_self, List.map_cons, List.map_nil, List.replicate, List.cons_append, List.nil_append, Nat.reduceSub]
theorem entry_go {a b : List En} (ha : ∀ k ∈ a, sLt k.1 key) (hb : ∀ k ∈ b, ¬ sLt k.1 key) (hz : (a ++ b).length ≤ 1000000) : ∀ (m l h : Nat) (x4 : Option D), h - l ≤ m → l ≤ a.length → a.length ≤ h → h ≤ (a ++ b).length →
    ∃ y4, Wh t_entry_number1 b_entry_number1 [some (.tup ((a ++ b).map enD)), some (.str key), some (.int (l : Int)), some (.int (h : Int)), x4] A (.nx [some (.tup ((a ++ b).map enD)), some (.str key), some (.int (a.length : Nat)), some (.int (a.length : Nat)), y4] A) := by
  intro m
  induction m with
  | zero =>
    intro l h x4 hm h1 h2 h3
    have e1 : l = a.length := by omega
    have e2 : h = a.length := by omega
    subst e1
    rw [e2]
    refine ⟨x4, Wh.stop ?_⟩
    have t0 : decide (((a.length : Nat) : Int) < ((a.length : Nat) : Int)) = false := decide_eq_false (by omega)
    unfold t_entry_number1
    simp only [EVa, List.getElem?_cons_zero, List.getElem?_cons_succ, List.set_cons_zero, List.set_cons_succ, bind_ok, lift_ok, List.length_cons, List.length_nil, Nat.reduceAdd, Nat.reduceLeDiff, ↓reduceIte, if_true, if_false, Bool.false_eq_true, ev_raise, and_self, List.map_cons, List.map_nil, List.replicate, List.cons_append, List.nil_append, Nat.reduceSub, lt_ii, t0]
  | succ m ih =>
    intro l h x4 hm h1 h2 h3
    by_cases hlt : l < h
    · have hc : (l + h) / 2 < (a ++ b).length := by omega
      have hx : ((a ++ b).map enD)[(l + h) / 2]? = some (enD (a ++ b)[(l + h) / 2]) := by rw [List.getElem?_map, List.getElem?_eq_getElem hc]; rfl
      have ix := ixt (A := A) hx
      have ix0 : fIx (enD (a ++ b)[(l + h) / 2]) (.int 0) A = .ok (.str (a ++ b)[(l + h) / 2].1) A := rfl
      have cd : CDiv ((l : Int) + (h : Int)) 2 := ⟨by decide, by decide⟩
      have t0 : decide ((l : Int) < (h : Int)) = true := decide_eq_true (by omega)
      have t1 : t_entry_number1 [some (.tup ((a ++ b).map enD)), some (.str key), some (.int (l : Int)), some (.int (h : Int)), x4] A = .ok true A := by
        unfold t_entry_number1
        simp only [EVa, List.getElem?_cons_zero, List.getElem?_cons_succ, List.set_cons_zero, List.set_cons_succ, bind_ok, lift_ok, List.length_cons, List.length_nil, Nat.reduceAdd, Nat.reduceLeDiff, ↓reduceIte, if_true, if_false, Bool.false_eq_true, ev_raise, and_self, List.map_cons, List.map_nil, List.replicate, List.cons_append, List.nil_append, Nat.reduceSub, lt_ii, t0]
      have pe : (((l + h) / 2 : Nat) : Int) + 1 = (((l + h) / 2 + 1 : Nat) : Int) := by omega
      by_cases hm2 : (l + h) / 2 < a.length
      · have hin : (a ++ b)[(l + h) / 2] ∈ a := by rw [List.getElem_append_left hm2]; exact List.getElem_mem _
        obtain ⟨y4, w⟩ := ih ((l + h) / 2 + 1) h (some (.int (((l + h) / 2 : Nat) : Int))) (by omega) (by omega) h2 h3
        refine ⟨y4, Wh.next t1 ?_ w⟩
        have lt := lt_ss (A := A) (x := (a ++ b)[(l + h) / 2].1) (y := key)
        rw [decide_eq_true (ha _ hin)] at lt
        unfold b_entry_number1
        refine (seq_nx (ρ1 := [some (.tup ((a ++ b).map enD)), some (.str key), some (.int (l : Int)), some (.int (h : Int)), some (.int (((l + h) / 2 : Nat) : Int))]) (A1 := A) ?_).trans ?_
        · simp only [EVa, List.getElem?_cons_zero, List.getElem?_cons_succ, List.set_cons_zero, List.set_cons_succ, bind_ok, lift_ok, List.length_cons, List.length_nil, Nat.reduceAdd, Nat.reduceLeDiff, ↓reduceIte, if_true, if_false, Bool.false_eq_true, ev_raise, and_self, List.map_cons, List.map_nil, List.replicate, List.cons_append, List.nil_append, Nat.reduceSub, add_ii, div_ii cd, half_nat]
        · simp only [EVa, List.getElem?_cons_zero, List.getElem?_cons_succ, List.set_cons_zero, List.set_cons_succ, bind_ok, lift_ok, List.length_cons, List.length_nil, Nat.reduceAdd, Nat.reduceLeDiff, ↓reduceIte, if_true, if_false, Bool.false_eq_true, ev_raise, and_self, List.map_cons, List.map_nil, List.replicate, List.cons_append, List.nil_append, Nat.reduceSub, ix, ix0, lt, add_ii, pe]
      · have hin : (a ++ b)[(l + h) / 2] ∈ b := by rw [List.getElem_append_right (by omega)]; exact List.getElem_mem _
        obtain ⟨y4, w⟩ := ih l ((l + h) / 2) (some (.int (((l + h) / 2 : Nat) : Int))) (by omega) h1 (by omega) (by omega)
        refine ⟨y4, Wh.next t1 ?_ w⟩
        have lt := lt_ss (A := A) (x := (a ++ b)[(l + h) / 2].1) (y := key)
        rw [decide_eq_false (hb _ hin)] at lt
        unfold b_entry_number1
        refine (seq_nx (ρ1 := [some (.tup ((a ++ b).map enD)), some (.str key), some (.int (l : Int)), some (.int (h : Int)), some (.int (((l + h) / 2 : Nat) : Int))]) (A1 := A) ?_).trans ?_
        · simp only [EVa, List.getElem?_cons_zero, List.getElem?_cons_succ, List.set_cons_zero, List.set_cons_succ, bind_ok, lift_ok, List.length_cons, List.length_nil, Nat.reduceAdd, Nat.reduceLeDiff, ↓reduceIte, if_true, if_false, Bool.false_eq_true, ev_raise, and_self, List.map_cons, List.map_nil, List.replicate, List.cons_append, List.nil_append, Nat.reduceSub, add_ii, div_ii cd, half_nat]
        · simp only [EVa, List.getElem?_cons_zero, List.getElem?_cons_succ, List.set_cons_zero, List.set_cons_succ, bind_ok, lift_ok, List.length_cons, List.length_nil, Nat.reduceAdd, Nat.reduceLeDiff, ↓reduceIte, if_true, if_false, Bool.false_eq_true, ev_raise, and_self, List.map_cons, List.map_nil, List.replicate, List.cons_append, List.nil_append, Nat.reduceSub, ix, ix0, lt]
    · obtain ⟨y4, w⟩ := ih l h x4 (by omega) h1 h2 h3
      exact ⟨y4, w⟩
theorem entry_ok {a b : List En} (ha : ∀ k ∈ a, sLt k.1 key) (hb : ∀ k ∈ b, ¬ sLt k.1 key) (hz : (a ++ b).length ≤ 1000000) : f_entry_number [.tup ((a ++ b).map enD), .str key] A = .ok (.int (a.length : Nat)) A := by
  obtain ⟨y4, w⟩ := entry_go (A := A) ha hb hz _ 0 (a ++ b).length none (Nat.le_refl _) (Nat.zero_le _) (by rw [List.length_append]; omega) (Nat.le_refl _)
  have ln : fLen [.tup ((a ++ b).map enD)] A = .ok (.int ((a ++ b).length : Nat)) A := by rw [len_t, List.length_map]
  unfold f_entry_number
  refine fun_rt ?_
  refine (seq_nx (ρ1 := [some (.tup ((a ++ b).map enD)), some (.str key), some (.int ((0 : Nat) : Int)), some (.int ((a ++ b).length : Nat)), none]) (A1 := A) ?_).trans ?_
  · simp only [EVa, List.getElem?_cons_zero, List.getElem?_cons_succ, List.set_cons_zero, List.set_cons_succ, bind_ok, lift_ok, List.length_cons, List.length_nil, Nat.reduceAdd, Nat.reduceLeDiff, ↓reduceIte, if_true, if_false, Bool.false_eq_true, ev_raise, and_self, List.map_cons, List.map_nil, List.replicate, List.cons_append, List.nil_append, Nat.reduceSub, ln]
    rfl
  refine (seq_nx (w.run (by simp))).trans ?_
  simp only [EVa, List.getElem?_cons_zero, List.getElem?_cons_succ, List.set_cons_zero, List.set_cons_succ, bind_ok, lift_ok, List.length_cons, List.length_nil, Nat.reduceAdd, Nat.reduceLeDiff, ↓reduceIte, if_true, if_false, Bool.false_eq_true, ev_raise, and_self, List.map_cons, List.map_nil, List.replicate, List.cons_append, List.nil_append, Nat.reduceSub]
/-! ### the number of things on a page -/
theorem is_int_ok {i : Int} : f_is_integer [.int i] A = .ok (.bl true) A := rfl
theorem need_most_ok {m : Nat} (h1 : 3 ≤ m) (h2 : m ≤ 16) : f_need_most [.int (m : Int)] A = .ok .non A := by
  have t0 : decide ((3 : Int) ≤ (m : Int)) = true := decide_eq_true (by omega)
  have t1 : decide ((m : Int) ≤ (16 : Int)) = true := decide_eq_true (by omega)
  have c : mChn fLe fLe (mK (.int 3)) (mVar 0) (mK (.int 16)) [some (.int (m : Int))] A = .ok (.bl true) A := by
    have a1 : fLe (.int 3) (.int (m : Int)) A = .ok (.bl true) A := by rw [le_ii, t0]
    have a2 : fLe (.int (m : Int)) (.int 16) A = .ok (.bl true) A := by rw [le_ii, t1]
    simp only [EVa, List.getElem?_cons_zero, List.getElem?_cons_succ, List.set_cons_zero, List.set_cons_succ, bind_ok, lift_ok, List.length_cons, List.length_nil, Nat.reduceAdd, Nat.reduceLeDiff, ↓reduceIte, if_true, if_false, Bool.false_eq_true, ev_raise, and_self, List.map_cons, List.map_nil, List.replicate, List.cons_append, List.nil_append, Nat.reduceSub, a1, a2]
  have nx : mIfS (mOr (mNot (mTst (mCallF 1 f_is_integer (mCons (mVar 0) (mNil))))) (mNot (mTst (mChn fLe fLe (mK (.int 3)) (mVar 0) (mK (.int 16)))))) (mRaise "InvalidSize" "word" (mK (.str "most"))) (mNext) [some (.int (m : Int))] A = .nx [some (.int (m : Int))] A := by
    rw [ev_ifs, ev_or, ev_not, ev_tst, ev_callF, ev_cons, ev_var]
    simp only [List.getElem?_cons_zero, bind_ok, ev_nil, List.length_cons, List.length_nil, Nat.reduceAdd, if_true, is_int_ok, Bool.not_true, Bool.false_eq_true, if_false]
    rw [ev_not, ev_tst, c]
    rfl
  unfold f_need_most mFun
  show (match mIfS _ _ _ [some (.int (m : Int))] A with | .nx _ A1 => Res.ok D.non A1 | .rt d A1 => .ok d A1 | .exc C fs _ A1 => .exc C fs A1 | .bk _ _ => .no | .ct _ _ => .no | .no => .no) = _
  rw [nx]
def half (m : Nat) : Nat := (m + 1) / 2
theorem half_ok {m : Nat} (h1 : 3 ≤ m) (h2 : m ≤ 16) : f_half_of [.int (m : Int)] A = .ok (.int (half m : Nat)) A := by
  have cd : CDiv ((m : Int) + 1) 2 := ⟨by decide, by decide⟩
  have e : ((m : Int) + 1) / 2 = ((half m : Nat) : Int) := by unfold half; omega
  have nm := need_most_ok (A := A) h1 h2
  unfold f_half_of
  refine fun_rt ?_
  refine (seq_nx (ρ1 := [some (.int (m : Int))]) (A1 := A) ?_).trans ?_
  · simp only [EVa, List.getElem?_cons_zero, List.getElem?_cons_succ, List.set_cons_zero, List.set_cons_succ, bind_ok, lift_ok, List.length_cons, List.length_nil, Nat.reduceAdd, Nat.reduceLeDiff, ↓reduceIte, if_true, if_false, Bool.false_eq_true, ev_raise, and_self, List.map_cons, List.map_nil, List.replicate, List.cons_append, List.nil_append, Nat.reduceSub, nm]
  · simp only [EVa, List.getElem?_cons_zero, List.getElem?_cons_succ, List.set_cons_zero, List.set_cons_succ, bind_ok, lift_ok, List.length_cons, List.length_nil, Nat.reduceAdd, Nat.reduceLeDiff, ↓reduceIte, if_true, if_false, Bool.false_eq_true, ev_raise, and_self, List.map_cons, List.map_nil, List.replicate, List.cons_append, List.nil_append, Nat.reduceSub, add_ii, div_ii cd, e]
end
end TR
end
section
set_option maxHeartbeats 1000000
namespace TR
open PySem PySem.Spec PyProof.Rows L2 DM
/-! ### what a page is, with its entries -/
def count : D → Nat
  | .tup [.str _, .tup xs] => xs.length
  | .tup [.str _, .tup _, .tup xs] => xs.length
  | _ => 0
theorem count_l {es : List En} : count (leafD es) = es.length := by
  show (es.map enD).length = _
  rw [List.length_map]
theorem count_b {ks : List Str} {ps : List D} : count (brD ks ps) = ps.length := rfl
abbrev Ch := D × List En
def ents (cs : List Ch) : List En := (cs.map (·.2)).flatten
theorem ents_app (a b : List Ch) : ents (a ++ b) = ents a ++ ents b := by unfold ents; rw [List.map_append, List.flatten_append]
theorem ents_cons (c : Ch) (b : List Ch) : ents (c :: b) = c.2 ++ ents b := rfl
theorem ents_nil : ents [] = [] := rfl
/-- children with the keys between them -/
inductive Sep : List Str → List Ch → Prop
  | one {c : Ch} : c.2 ≠ [] → Sep [] [c]
  | cons {k : Str} {ks : List Str} {c : Ch} {cs : List Ch} : c.2 ≠ [] → (∀ e ∈ c.2, sLt e.1 k) → (∀ e ∈ ents cs, ¬ sLt e.1 k) → Sep ks cs → Sep (k :: ks) (c :: cs)
theorem Sep.len {ks : List Str} {cs : List Ch} (s : Sep ks cs) : cs.length = ks.length + 1 := by
  induction s with
  | one _ => rfl
  | cons _ _ _ _ ih => rw [List.length_cons, List.length_cons, ih]
theorem Sep.some {ks : List Str} {cs : List Ch} (s : Sep ks cs) : ∃ e, e ∈ ents cs := by
  cases s with
  | @one c h =>
    obtain ⟨e, he⟩ := List.exists_mem_of_ne_nil _ h
    exact ⟨e, by rw [ents_cons]; exact List.mem_append_left _ he⟩
  | @cons k ks c cs h _ _ _ =>
    obtain ⟨e, he⟩ := List.exists_mem_of_ne_nil _ h
    exact ⟨e, by rw [ents_cons]; exact List.mem_append_left _ he⟩
theorem Sep.app {a b : List Str} {l r : List Ch} {k : Str} (s : Sep a l) (t : Sep b r) (h1 : ∀ e ∈ ents l, sLt e.1 k) (h2 : ∀ e ∈ ents r, ¬ sLt e.1 k) : Sep (a ++ k :: b) (l ++ r) := by
  induction s with
  | @one c h => exact .cons h (fun e he => h1 e (by rw [ents_cons]; exact List.mem_append_left _ he)) h2 t
  | @cons k0 ks c cs g0 g1 g2 s ih =>
    have hk : sLt k0 k := by
      obtain ⟨e, he⟩ := s.some
      exact le_lt (g2 e he) (h1 e (by rw [ents_cons]; exact List.mem_append_right _ he))
    refine .cons g0 g1 (fun e he => ?_) (ih fun e he => h1 e (by rw [ents_cons]; exact List.mem_append_right _ he))
    have he : e ∈ ents (cs ++ r) := he
    rw [ents_app] at he
    rcases List.mem_append.mp he with he | he
    · exact g2 e he
    · exact fun z => h2 e he (lt_tr z hk)
theorem Sep.split {b : List Str} {k : Str} : ∀ {a : List Str} {cs : List Ch}, Sep (a ++ k :: b) cs → ∃ l r, cs = l ++ r ∧ Sep a l ∧ Sep b r ∧ (∀ e ∈ ents l, sLt e.1 k) ∧ ∀ e ∈ ents r, ¬ sLt e.1 k
  | [], cs, s => by
    cases s with
    | @cons _ _ c cs g0 g1 g2 s => exact ⟨[c], cs, rfl, .one g0, s, fun e he => g1 e (by rw [ents_cons, ents_nil, List.append_nil] at he; exact he), g2⟩
  | k0 :: a, cs, s => by
    cases s with
    | @cons _ _ c cs g0 g1 g2 s =>
      obtain ⟨l, r, rfl, s1, s2, h1, h2⟩ := Sep.split (a := a) s
      have hk : sLt k0 k := by
        obtain ⟨e, he⟩ := s1.some
        exact le_lt (g2 e (by rw [ents_app]; exact List.mem_append_left _ he)) (h1 e he)
      refine ⟨c :: l, r, rfl, .cons g0 g1 (fun e he => g2 e (by rw [ents_app]; exact List.mem_append_left _ he)) s1, s2, fun e he => ?_, h2⟩
      rw [ents_cons] at he
      rcases List.mem_append.mp he with he | he
      · exact lt_tr (g1 e he) hk
      · exact h1 e he
theorem Sep.mono {ks : List Str} {cs : List Ch} (s : Sep ks cs) : ks.Pairwise sLt := by
  induction s with
  | one _ => exact .nil
  | @cons k ks c cs g0 g1 g2 s ih =>
    refine List.pairwise_cons.mpr ⟨fun k' hk' => ?_, ih⟩
    obtain ⟨a, b, rfl⟩ := List.append_of_mem hk'
    obtain ⟨l, r, rfl, s1, s2, h1, h2⟩ := s.split
    obtain ⟨e, he⟩ := s1.some
    exact le_lt (g2 e (by rw [ents_app]; exact List.mem_append_left _ he)) (h1 e he)
theorem Sep.full {ks : List Str} {cs : List Ch} (s : Sep ks cs) : ∀ c ∈ cs, c.2 ≠ [] := by
  induction s with
  | one h => intro c hc; rw [List.mem_singleton.mp hc]; exact h
  | cons h _ _ _ ih =>
    intro c hc
    rcases List.mem_cons.mp hc with rfl | hc
    · exact h
    · exact ih c hc
/-- the children ys between the keys mid, left and right of them -/
theorem Sep.zone {mid b : List Str} {ys r : List Ch} (hy : ys.length = mid.length + 1) : ∀ {a : List Str} {l : List Ch}, Sep (a ++ (mid ++ b)) (l ++ (ys ++ r)) → l.length = a.length →
    Sep mid ys ∧ (∀ e ∈ ents ys, (∀ k ∈ a, ¬ sLt e.1 k) ∧ ∀ k ∈ b, sLt e.1 k) ∧ (∀ e ∈ ents l, ∃ k ∈ a, sLt e.1 k) ∧ (∀ e ∈ ents r, ∃ k ∈ b, ¬ sLt e.1 k) ∧ r.length = b.length ∧
      ∀ {kx : List Str} {xs : List Ch}, Sep kx xs → (∀ e ∈ ents xs, (∀ k ∈ a, ¬ sLt e.1 k) ∧ ∀ k ∈ b, sLt e.1 k) → Sep (a ++ (kx ++ b)) (l ++ (xs ++ r))
  | [], l, s, hl => by
    have e0 : l = [] := List.eq_nil_of_length_eq_zero hl
    subst e0
    rw [List.nil_append, List.nil_append] at s
    cases b with
    | nil =>
      have hr : r = [] := by
        have := s.len
        rw [List.append_nil, List.length_append] at this
        exact List.eq_nil_of_length_eq_zero (by omega)
      subst hr
      rw [List.append_nil, List.append_nil] at s
      refine ⟨s, fun e he => ⟨(fun k hk => nomatch hk), (fun k hk => nomatch hk)⟩, (fun e he => nomatch he), (fun e he => nomatch he), rfl, fun {kx xs} t _ => ?_⟩
      rw [List.append_nil, List.append_nil]
      exact t
    | cons k b =>
      obtain ⟨l2, r2, e, s1, s2, h1, h2⟩ := s.split
      have hlen : ys.length = l2.length := by rw [hy, s1.len]
      obtain ⟨rfl, rfl⟩ := List.append_inj e hlen
      have mo := s.mono
      have kb : ∀ k' ∈ b, sLt k k' := fun k' hk' => by
        have := (List.pairwise_append.mp mo).2.1
        exact (List.pairwise_cons.mp this).1 k' hk'
      refine ⟨s1, fun e he => ⟨(fun k hk => nomatch hk), fun k' hk' => ?_⟩, (fun e he => nomatch he), fun e he => ⟨k, List.mem_cons_self, h2 e he⟩, by rw [s2.len, List.length_cons], fun {kx xs} t hx => ?_⟩
      · rcases List.mem_cons.mp hk' with rfl | hk'
        · exact h1 e he
        · exact lt_tr (h1 e he) (kb k' hk')
      · exact t.app s2 (fun e he => (hx e he).2 k List.mem_cons_self) h2
  | k :: a, l, s, hl => by
    cases l with
    | nil => simp at hl
    | cons c l =>
      cases s with
      | cons g0 g1 g2 s =>
        obtain ⟨z1, z2, z3, z4, z5, z6⟩ := Sep.zone hy s (by simpa using hl)
        have inY : ∀ e ∈ ents ys, ¬ sLt e.1 k := fun e he => g2 e (by show e ∈ ents (l ++ (ys ++ r)); rw [ents_app, ents_app]; exact List.mem_append_right _ (List.mem_append_left _ he))
        refine ⟨z1, fun e he => ⟨fun k' hk' => ?_, (z2 e he).2⟩, fun e he => ?_, z4, z5, fun {kx xs} t hx => ?_⟩
        · rcases List.mem_cons.mp hk' with rfl | hk'
          · exact inY e he
          · exact (z2 e he).1 k' hk'
        · rw [ents_cons] at he
          rcases List.mem_append.mp he with he | he
          · exact ⟨k, List.mem_cons_self, g1 e he⟩
          · obtain ⟨k', h1, h2⟩ := z3 e he
            exact ⟨k', List.mem_cons_of_mem _ h1, h2⟩
        · refine .cons g0 g1 (fun e he => ?_) (z6 t fun e he => ⟨fun k' hk' => (hx e he).1 k' (List.mem_cons_of_mem _ hk'), (hx e he).2⟩)
          have he : e ∈ ents (l ++ (xs ++ r)) := he
          rw [ents_app, ents_app] at he
          rcases List.mem_append.mp he with he | he
          · exact g2 e (by show e ∈ ents (l ++ (ys ++ r)); rw [ents_app]; exact List.mem_append_left _ he)
          · rcases List.mem_append.mp he with he | he
            · exact (hx e he).1 k List.mem_cons_self
            · exact g2 e (by show e ∈ ents (l ++ (ys ++ r)); rw [ents_app, ents_app]; exact List.mem_append_right _ (List.mem_append_right _ he))
def Ok (m : Nat) : Nat → D → List En → Prop
  | 0, d, es => d = leafD es ∧ es.length ≤ m
  | n + 1, d, es => ∃ ks cs, d = brD ks (cs.map (·.1)) ∧ Sep ks cs ∧ cs.length ≤ m ∧ es = ents cs ∧ ∀ c ∈ cs, Ok m n c.1 c.2 ∧ half m ≤ count c.1
abbrev Srt (es : List En) : Prop := es.Pairwise fun a b => sLt a.1 b.1
theorem Ok.full {m : Nat} {n : Nat} {d : D} {es : List En} (o : Ok m n d es) (h : 1 ≤ count d) : es ≠ [] := by
  cases n with
  | zero =>
    obtain ⟨rfl, _⟩ := o
    rw [count_l] at h
    exact List.length_pos_iff.mp h
  | succ n =>
    obtain ⟨ks, cs, rfl, s, _, rfl, _⟩ := o
    obtain ⟨e, he⟩ := s.some
    exact List.ne_nil_of_mem he
/-- what making room leaves: one page or two -/
def Pcs (m n : Nat) (es : List En) (c : Nat) (ps : List D) (ks : List Str) : Prop :=
  ∃ xs : List Ch, ps = xs.map (·.1) ∧ Sep ks xs ∧ es = ents xs ∧ (∀ x ∈ xs, Ok m n x.1 x.2) ∧ ((xs.length = 1 ∧ ∀ x ∈ xs, c ≤ count x.1) ∨ (xs.length = 2 ∧ ∀ x ∈ xs, half m ≤ count x.1))
def psD (ps : List D) (ks : List Str) : D := .tup [.lst ps, .lst (ks.map D.str)]
section
variable {m : Nat} {A : AH}
theorem packed_leaf_ok {es : List En} (h3 : 3 ≤ m) (hm : m ≤ 16) (h0 : es ≠ []) (h1 : es.length ≤ 2 * m) (hs : Srt es) : ∃ ps ks, f_packed_leaf [.int (m : Int), .tup (es.map enD)] A = .ok (psD ps ks) A ∧ Pcs m 0 es es.length ps ks := by
  have ln : fLen [.tup (es.map enD)] A = .ok (.int (es.length : Nat)) A := by rw [len_t, List.length_map]
  by_cases hle : es.length ≤ m
  · refine ⟨[leafD es], [], ?_, [(leafD es, es)], rfl, .one h0, by rw [ents_cons, ents_nil, List.append_nil], fun x hx => ?_, .inl ⟨rfl, fun x hx => ?_⟩⟩
    · have t0 : decide (((es.length : Nat) : Int) ≤ (m : Int)) = true := decide_eq_true (by omega)
      unfold f_packed_leaf
      refine fun_rt ?_
      refine seq_rt ?_
      simp only [EVa, List.getElem?_cons_zero, List.getElem?_cons_succ, List.set_cons_zero, List.set_cons_succ, bind_ok, lift_ok, List.length_cons, List.length_nil, Nat.reduceAdd, Nat.reduceLeDiff, ↓reduceIte, if_true, if_false, Bool.false_eq_true, ev_raise, and_self, List.map_cons, List.map_nil, List.replicate, List.cons_append, List.nil_append, Nat.reduceSub, ln, le_ii, t0]
      rfl
    · rw [List.mem_singleton.mp hx]; exact ⟨rfl, hle⟩
    · rw [List.mem_singleton.mp hx]; exact Nat.le_of_eq count_l.symm
  · have hc : es.length / 2 < es.length := by omega
    have t0 : decide (((es.length : Nat) : Int) ≤ (m : Int)) = false := decide_eq_false (by omega)
    have cd : CDiv ((es.length : Nat) : Int) 2 := ⟨by decide, by decide⟩
    have dv : ((es.length : Nat) : Int) / 2 = ((es.length / 2 : Nat) : Int) := by omega
    have sT := sl_to (A := A) (xs := es.map enD) (i := es.length / 2)
    have sD := sl_from (A := A) (xs := es.map enD) (i := es.length / 2) (by rw [List.length_map]; omega)
    have hx : (es.map enD)[es.length / 2]? = some (enD es[es.length / 2]) := by rw [List.getElem?_map, List.getElem?_eq_getElem hc]; rfl
    have ix := ixt (A := A) hx
    have ix0 : fIx (enD es[es.length / 2]) (.int 0) A = .ok (.str es[es.length / 2].1) A := rfl
    have hh : half m ≤ es.length / 2 := by unfold half; omega
    have spl : es = es.take (es.length / 2) ++ es.drop (es.length / 2) := (List.take_append_drop _ _).symm
    have hd : es.drop (es.length / 2) = es[es.length / 2] :: es.drop (es.length / 2 + 1) := List.drop_eq_getElem_cons hc
    have hs2 := hs
    rw [spl] at hs2
    obtain ⟨s1, s2, s3⟩ := List.pairwise_append.mp hs2
    refine ⟨[leafD (es.take (es.length / 2)), leafD (es.drop (es.length / 2))], [es[es.length / 2].1], ?_, [(leafD (es.take (es.length / 2)), es.take (es.length / 2)), (leafD (es.drop (es.length / 2)), es.drop (es.length / 2))], rfl, ?_, ?_, fun x hx => ?_, .inr ⟨rfl, fun x hx => ?_⟩⟩
    · unfold f_packed_leaf
      refine fun_rt ?_
      refine (seq_nx (ρ1 := [some (.int (m : Int)), some (.tup (es.map enD)), none]) (A1 := A) ?_).trans ?_
      · simp only [EVa, List.getElem?_cons_zero, List.getElem?_cons_succ, List.set_cons_zero, List.set_cons_succ, bind_ok, lift_ok, List.length_cons, List.length_nil, Nat.reduceAdd, Nat.reduceLeDiff, ↓reduceIte, if_true, if_false, Bool.false_eq_true, ev_raise, and_self, List.map_cons, List.map_nil, List.replicate, List.cons_append, List.nil_append, Nat.reduceSub, ln, le_ii, t0]
      refine (seq_nx (ρ1 := [some (.int (m : Int)), some (.tup (es.map enD)), some (.int (es.length / 2 : Nat))]) (A1 := A) ?_).trans ?_
      · simp only [EVa, List.getElem?_cons_zero, List.getElem?_cons_succ, List.set_cons_zero, List.set_cons_succ, bind_ok, lift_ok, List.length_cons, List.length_nil, Nat.reduceAdd, Nat.reduceLeDiff, ↓reduceIte, if_true, if_false, Bool.false_eq_true, ev_raise, and_self, List.map_cons, List.map_nil, List.replicate, List.cons_append, List.nil_append, Nat.reduceSub, ln, div_ii cd, dv]
      · simp only [EVa, List.getElem?_cons_zero, List.getElem?_cons_succ, List.set_cons_zero, List.set_cons_succ, bind_ok, lift_ok, List.length_cons, List.length_nil, Nat.reduceAdd, Nat.reduceLeDiff, ↓reduceIte, if_true, if_false, Bool.false_eq_true, ev_raise, and_self, List.map_cons, List.map_nil, List.replicate, List.cons_append, List.nil_append, Nat.reduceSub, sT, sD, ix, ix0]
        unfold psD leafD
        rw [List.map_take, List.map_drop]
        rfl
    · refine .cons ?_ (fun e he => ?_) (fun e he => ?_) (.one ?_)
      · show es.take (es.length / 2) ≠ []
        refine List.ne_nil_of_length_pos ?_
        have : 2 ≤ half m := by unfold half; omega
        rw [List.length_take]; omega
      · exact s3 e he _ (by rw [hd]; exact List.mem_cons_self)
      · rw [ents_cons, ents_nil, List.append_nil] at he
        have he : e ∈ es.drop (es.length / 2) := he
        rw [hd] at he s2
        rcases List.mem_cons.mp he with rfl | he
        · exact lt_ir
        · exact lt_as ((List.pairwise_cons.mp s2).1 e he)
      · show es.drop (es.length / 2) ≠ []
        rw [hd]; exact List.cons_ne_nil _ _
    · rw [ents_cons, ents_cons, ents_nil, List.append_nil]
      exact spl
    · simp only [List.mem_cons, List.not_mem_nil, or_false] at hx
      rcases hx with rfl | rfl
      · exact ⟨rfl, by show (es.take _).length ≤ m; rw [List.length_take]; omega⟩
      · exact ⟨rfl, by show (es.drop _).length ≤ m; rw [List.length_drop]; omega⟩
    · simp only [List.mem_cons, List.not_mem_nil, or_false] at hx
      rcases hx with rfl | rfl
      · show half m ≤ count (leafD _); rw [count_l, List.length_take]; omega
      · show half m ≤ count (leafD _); rw [count_l, List.length_drop]; omega
theorem packed_branch_ok {n : Nat} {ks : List Str} {cs : List Ch} (h3 : 3 ≤ m) (hm : m ≤ 16) (h1 : cs.length ≤ 2 * m) (s : Sep ks cs) (hc : ∀ c ∈ cs, Ok m n c.1 c.2 ∧ half m ≤ count c.1) :
    ∃ ps kx, f_packed_branch [.int (m : Int), .tup (ks.map D.str), .tup (cs.map (·.1))] A = .ok (psD ps kx) A ∧ Pcs m (n + 1) (ents cs) cs.length ps kx := by
  have ln : fLen [.tup (cs.map (·.1))] A = .ok (.int (cs.length : Nat)) A := by rw [len_t, List.length_map]
  have hl := s.len
  by_cases hle : cs.length ≤ m
  · refine ⟨[brD ks (cs.map (·.1))], [], ?_, [(brD ks (cs.map (·.1)), ents cs)], rfl, .one (by obtain ⟨e, he⟩ := s.some; exact List.ne_nil_of_mem he), by rw [ents_cons, ents_nil, List.append_nil], fun x hx => ?_, .inl ⟨rfl, fun x hx => ?_⟩⟩
    · have t0 : decide (((cs.length : Nat) : Int) ≤ (m : Int)) = true := decide_eq_true (by omega)
      unfold f_packed_branch
      refine fun_rt ?_
      refine seq_rt ?_
      simp only [EVa, List.getElem?_cons_zero, List.getElem?_cons_succ, List.set_cons_zero, List.set_cons_succ, bind_ok, lift_ok, List.length_cons, List.length_nil, Nat.reduceAdd, Nat.reduceLeDiff, ↓reduceIte, if_true, if_false, Bool.false_eq_true, ev_raise, and_self, List.map_cons, List.map_nil, List.replicate, List.cons_append, List.nil_append, Nat.reduceSub, ln, le_ii, t0]
      rfl
    · rw [List.mem_singleton.mp hx]; exact ⟨ks, cs, rfl, s, hle, rfl, hc⟩
    · rw [List.mem_singleton.mp hx]; exact Nat.le_of_eq (by show _ = (cs.map (·.1)).length; rw [List.length_map])
  · have hcut : 1 ≤ cs.length / 2 := by omega
    have hk : cs.length / 2 - 1 < ks.length := by omega
    have t0 : decide (((cs.length : Nat) : Int) ≤ (m : Int)) = false := decide_eq_false (by omega)
    have cd : CDiv ((cs.length : Nat) : Int) 2 := ⟨by decide, by decide⟩
    have dv : ((cs.length : Nat) : Int) / 2 = ((cs.length / 2 : Nat) : Int) := by omega
    have e1 : ((cs.length / 2 : Nat) : Int) - 1 = ((cs.length / 2 - 1 : Nat) : Int) := by omega
    have pT := sl_to (A := A) (xs := cs.map (·.1)) (i := cs.length / 2)
    have pD := sl_from (A := A) (xs := cs.map (·.1)) (i := cs.length / 2) (by rw [List.length_map]; omega)
    have kT := sl_to (A := A) (xs := ks.map D.str) (i := cs.length / 2 - 1)
    have kD := sl_from (A := A) (xs := ks.map D.str) (i := cs.length / 2) (by rw [List.length_map]; omega)
    have hx : (ks.map D.str)[cs.length / 2 - 1]? = some (.str ks[cs.length / 2 - 1]) := by rw [List.getElem?_map, List.getElem?_eq_getElem hk]; rfl
    have ix := ixt (A := A) hx
    have hh : half m ≤ cs.length / 2 := by unfold half; omega
    have ek : ks = ks.take (cs.length / 2 - 1) ++ ks[cs.length / 2 - 1] :: ks.drop (cs.length / 2) := by
      have := List.drop_eq_getElem_cons hk
      rw [show cs.length / 2 - 1 + 1 = cs.length / 2 by omega] at this
      rw [← this, List.take_append_drop]
    have s' := s
    rw [ek] at s'
    obtain ⟨l, r, ecs, s1, s2, g1, g2⟩ := s'.split
    have ll : l.length = cs.length / 2 := by rw [s1.len, List.length_take]; omega
    have eT : cs.take (cs.length / 2) = l := by
      rw [← ll, ecs, List.take_left]
    have eD : cs.drop (cs.length / 2) = r := by
      rw [← ll, ecs, List.drop_left]
    have lr : r.length = cs.length - cs.length / 2 := by rw [← eD, List.length_drop]
    refine ⟨[brD (ks.take (cs.length / 2 - 1)) (l.map (·.1)), brD (ks.drop (cs.length / 2)) (r.map (·.1))], [ks[cs.length / 2 - 1]], ?_, [(brD (ks.take (cs.length / 2 - 1)) (l.map (·.1)), ents l), (brD (ks.drop (cs.length / 2)) (r.map (·.1)), ents r)], rfl, ?_, ?_, fun x hx => ?_, .inr ⟨rfl, fun x hx => ?_⟩⟩
    · unfold f_packed_branch
      refine fun_rt ?_
      refine (seq_nx (ρ1 := [some (.int (m : Int)), some (.tup (ks.map D.str)), some (.tup (cs.map (·.1))), none]) (A1 := A) ?_).trans ?_
      · simp only [EVa, List.getElem?_cons_zero, List.getElem?_cons_succ, List.set_cons_zero, List.set_cons_succ, bind_ok, lift_ok, List.length_cons, List.length_nil, Nat.reduceAdd, Nat.reduceLeDiff, ↓reduceIte, if_true, if_false, Bool.false_eq_true, ev_raise, and_self, List.map_cons, List.map_nil, List.replicate, List.cons_append, List.nil_append, Nat.reduceSub, ln, le_ii, t0]
      refine (seq_nx (ρ1 := [some (.int (m : Int)), some (.tup (ks.map D.str)), some (.tup (cs.map (·.1))), some (.int (cs.length / 2 : Nat))]) (A1 := A) ?_).trans ?_
      · simp only [EVa, List.getElem?_cons_zero, List.getElem?_cons_succ, List.set_cons_zero, List.set_cons_succ, bind_ok, lift_ok, List.length_cons, List.length_nil, Nat.reduceAdd, Nat.reduceLeDiff, ↓reduceIte, if_true, if_false, Bool.false_eq_true, ev_raise, and_self, List.map_cons, List.map_nil, List.replicate, List.cons_append, List.nil_append, Nat.reduceSub, ln, div_ii cd, dv]
      · simp only [EVa, List.getElem?_cons_zero, List.getElem?_cons_succ, List.set_cons_zero, List.set_cons_succ, bind_ok, lift_ok, List.length_cons, List.length_nil, Nat.reduceAdd, Nat.reduceLeDiff, ↓reduceIte, if_true, if_false, Bool.false_eq_true, ev_raise, and_self, List.map_cons, List.map_nil, List.replicate, List.cons_append, List.nil_append, Nat.reduceSub, sub_ii, e1, pT, pD, kT, kD, ix]
        unfold psD brD
        rw [← List.map_take, ← List.map_take, ← List.map_drop, ← List.map_drop, eT, eD]
        rfl
    · refine .cons ?_ (fun e he => g1 e he) (fun e he => ?_) (.one ?_)
      · obtain ⟨e, he⟩ := s1.some; exact List.ne_nil_of_mem he
      · rw [ents_cons, ents_nil, List.append_nil] at he; exact g2 e he
      · obtain ⟨e, he⟩ := s2.some; exact List.ne_nil_of_mem he
    · rw [ents_cons, ents_cons, ents_nil, List.append_nil]
      conv => lhs; rw [ecs]
      exact ents_app l r
    · simp only [List.mem_cons, List.not_mem_nil, or_false] at hx
      rcases hx with rfl | rfl
      · exact ⟨_, l, rfl, s1, by omega, rfl, fun c h => hc c (by rw [ecs]; exact List.mem_append_left _ h)⟩
      · exact ⟨_, r, rfl, s2, by omega, rfl, fun c h => hc c (by rw [ecs]; exact List.mem_append_right _ h)⟩
    · simp only [List.mem_cons, List.not_mem_nil, or_false] at hx
      rcases hx with rfl | rfl
      · show half m ≤ (l.map (·.1)).length; rw [List.length_map]; omega
      · show half m ≤ (r.map (·.1)).length; rw [List.length_map]; omega
end
end TR
end
section
set_option maxHeartbeats 1000000
namespace TR
open PySem PySem.Spec PyProof.Rows L2 DM
/-! ### entries put in, taken out -/
def insE (es : List En) (k : Str) (v : D) : List En := es.filter (fun e => decide (sLt e.1 k)) ++ (k, v) :: es.filter (fun e => decide (sLt k e.1))
def delE (es : List En) (k : Str) : List En := es.filter fun e => decide (e.1 ≠ k)
theorem srt_cut {k : Str} : ∀ {es : List En}, Srt es → ∃ a b, es = a ++ b ∧ (∀ e ∈ a, sLt e.1 k) ∧ (∀ e ∈ b, ¬ sLt e.1 k) ∧ a = es.filter (fun e => decide (sLt e.1 k)) ∧ ((b = es.filter (fun e => decide (sLt k e.1)) ∧ ∀ e ∈ b, sLt k e.1) ∨ ∃ w b', b = (k, w) :: b' ∧ b' = es.filter (fun e => decide (sLt k e.1)) ∧ ∀ e ∈ b', sLt k e.1)
  | [], _ => ⟨[], [], rfl, (fun e he => nomatch he), (fun e he => nomatch he), rfl, .inl ⟨rfl, (fun e he => nomatch he)⟩⟩
  | (x, w) :: es, h => by
    obtain ⟨h1, h2⟩ := List.pairwise_cons.mp h
    rcases tri x k with hx | rfl | hx
    · obtain ⟨a, b, e, p1, p2, p3, p4⟩ := srt_cut (k := k) h2
      refine ⟨(x, w) :: a, b, by rw [e]; rfl, fun z hz => ?_, p2, ?_, ?_⟩
      · rcases List.mem_cons.mp hz with rfl | hz
        · exact hx
        · exact p1 z hz
      · rw [List.filter_cons_of_pos (by exact decide_eq_true hx), ← p3]
      · rw [List.filter_cons_of_neg (by simpa using lt_as hx)]
        exact p4
    · have g : ∀ e ∈ es, sLt x e.1 := h1
      refine ⟨[], (x, w) :: es, rfl, (fun e he => nomatch he), fun z hz => ?_, ?_, .inr ⟨w, es, rfl, ?_, g⟩⟩
      · rcases List.mem_cons.mp hz with rfl | hz
        · exact lt_ir
        · exact lt_as (g z hz)
      · rw [List.filter_cons_of_neg (by simpa using lt_ir (a := x)), List.filter_eq_nil_iff.mpr fun e he => by simpa using lt_as (g e he)]
      · rw [List.filter_cons_of_neg (by simpa using lt_ir (a := x)), List.filter_eq_self.mpr fun e he => decide_eq_true (g e he)]
    · have g : ∀ e ∈ (x, w) :: es, sLt k e.1 := fun e he => by
        rcases List.mem_cons.mp he with rfl | he
        · exact hx
        · exact lt_tr hx (h1 e he)
      refine ⟨[], (x, w) :: es, rfl, (fun e he => nomatch he), fun z hz => lt_as (g z hz), ?_, .inl ⟨?_, g⟩⟩
      · rw [List.filter_eq_nil_iff.mpr fun e he => by simpa using lt_as (g e he)]
      · rw [List.filter_eq_self.mpr fun e he => decide_eq_true (g e he)]
theorem fil_all {p : En → Bool} {l : List En} (h : ∀ e ∈ l, p e = true) : l.filter p = l := List.filter_eq_self.mpr h
theorem fil_no {p : En → Bool} {l : List En} (h : ∀ e ∈ l, p e = false) : l.filter p = [] := List.filter_eq_nil_iff.mpr fun e he => by rw [h e he]; decide
theorem insE_mid {l x r : List En} {k : Str} {v : D} (hl : ∀ e ∈ l, sLt e.1 k) (hr : ∀ e ∈ r, sLt k e.1) : insE (l ++ (x ++ r)) k v = l ++ (insE x k v ++ r) := by
  unfold insE
  rw [List.filter_append, List.filter_append, List.filter_append, List.filter_append, fil_all (l := l) fun e he => decide_eq_true (hl e he), fil_no (l := r) fun e he => decide_eq_false (lt_as (hr e he)),
    fil_no (l := l) fun e he => decide_eq_false (lt_as (hl e he)), fil_all (l := r) fun e he => decide_eq_true (hr e he)]
  simp
theorem delE_mid {l x r : List En} {k : Str} (hl : ∀ e ∈ l, sLt e.1 k) (hr : ∀ e ∈ r, sLt k e.1) : delE (l ++ (x ++ r)) k = l ++ (delE x k ++ r) := by
  have h1 : ∀ e ∈ l, decide (e.1 ≠ k) = true := fun e he => decide_eq_true fun z => lt_ir (a := k) (by have := hl e he; rw [z] at this; exact this)
  have h2 : ∀ e ∈ r, decide (e.1 ≠ k) = true := fun e he => decide_eq_true fun z => lt_ir (a := k) (by have := hr e he; rw [z] at this; exact this)
  unfold delE
  rw [List.filter_append, List.filter_append, fil_all h1, fil_all h2]
theorem insE_in {es : List En} {k : Str} {v : D} {e : En} (h : e ∈ insE es k v) : e ∈ es ∨ e = (k, v) := by
  unfold insE at h
  rcases List.mem_append.mp h with h | h
  · exact .inl (List.mem_filter.mp h).1
  · rcases List.mem_cons.mp h with h | h
    · exact .inr h
    · exact .inl (List.mem_filter.mp h).1
theorem insE_srt {es : List En} {k : Str} {v : D} (h : Srt es) : Srt (insE es k v) := by
  unfold insE
  refine List.pairwise_append.mpr ⟨h.filter _, List.pairwise_cons.mpr ⟨fun e he => of_decide_eq_true (List.mem_filter.mp he).2, h.filter _⟩, fun a ha b hb => ?_⟩
  have h1 := of_decide_eq_true (List.mem_filter.mp ha).2
  rcases List.mem_cons.mp hb with rfl | hb
  · exact h1
  · exact lt_tr h1 (of_decide_eq_true (List.mem_filter.mp hb).2)
theorem insE_len {es : List En} {k : Str} {v : D} (h : Srt es) : es.length ≤ (insE es k v).length ∧ (insE es k v).length ≤ es.length + 1 := by
  obtain ⟨a, b, e, _, _, p3, p4⟩ := srt_cut (k := k) h
  unfold insE
  rw [← p3, List.length_append, List.length_cons]
  rcases p4 with ⟨p4, _⟩ | ⟨w, b', rfl, p4, _⟩
  · rw [← p4]
    conv => lhs; lhs; rw [e]
    conv => rhs; rhs; rw [e]
    rw [List.length_append]
    omega
  · rw [← p4]
    conv => lhs; lhs; rw [e]
    conv => rhs; rhs; rw [e]
    rw [List.length_append, List.length_cons]
    omega
theorem Pcs.mono {m n : Nat} {es : List En} {c c' : Nat} {ps : List D} {ks : List Str} (h : Pcs m n es c ps ks) (hc : c' ≤ c) : Pcs m n es c' ps ks := by
  obtain ⟨xs, h1, h2, h3, h4, h5⟩ := h
  exact ⟨xs, h1, h2, h3, h4, h5.imp (fun ⟨a, b⟩ => ⟨a, fun x hx => Nat.le_trans hc (b x hx)⟩) id⟩
section
variable {m : Nat} {A : AH}
theorem spliced_ok {a mid b kx : List Str} {l ys r xs : List D} (hl : l.length = a.length) (hy : ys.length = mid.length + 1) (hr : r.length = b.length) (hz : (l ++ (ys ++ r)).length ≤ 1000) (hx : xs.length ≤ 1000) (hx2 : kx.length ≤ 1000) {e : Int} (he : e = ((l.length + ys.length : Nat) : Int)) :
    f_spliced [.int (m : Int), brD (a ++ (mid ++ b)) (l ++ (ys ++ r)), .int (l.length : Nat), .int e, psD xs kx] A = f_packed_branch [.int (m : Int), .tup ((a ++ (kx ++ b)).map D.str), .tup (l ++ (xs ++ r))] A := by
  subst he
  rw [List.length_append, List.length_append] at hz
  have i1 : fIx (brD (a ++ (mid ++ b)) (l ++ (ys ++ r))) (.int 1) A = .ok (.tup ((a ++ (mid ++ b)).map D.str)) A := rfl
  have i2 : fIx (brD (a ++ (mid ++ b)) (l ++ (ys ++ r))) (.int 2) A = .ok (.tup (l ++ (ys ++ r))) A := rfl
  have j0 : fIx (psD xs kx) (.int 0) A = .ok (.lst xs) A := rfl
  have j1 : fIx (psD xs kx) (.int 1) A = .ok (.lst (kx.map D.str)) A := rfl
  have t0 : fTup [.lst xs] A = .ok (.tup xs) A := rfl
  have t1 : fTup [.lst (kx.map D.str)] A = .ok (.tup (kx.map D.str)) A := rfl
  have sT : fSl (.tup (l ++ (ys ++ r))) none (some ((l.length : Nat) : Int)) A = .ok (.tup l) A := by rw [sl_to, List.take_left]
  have sD : fSl (.tup (l ++ (ys ++ r))) (some ((l.length + ys.length : Nat) : Int)) none A = .ok (.tup r) A := by
    rw [sl_from (by rw [List.length_append, List.length_append]; omega), ← List.append_assoc, ← List.length_append, List.drop_left]
  have kT : fSl (.tup ((a ++ (mid ++ b)).map D.str)) none (some ((l.length : Nat) : Int)) A = .ok (.tup (a.map D.str)) A := by
    rw [sl_to, hl, List.map_append, show a.length = (a.map D.str).length by rw [List.length_map], List.take_left]
  have e1 : ((l.length + ys.length : Nat) : Int) - 1 = ((a.length + mid.length : Nat) : Int) := by omega
  have kD : fSl (.tup ((a ++ (mid ++ b)).map D.str)) (some ((a.length + mid.length : Nat) : Int)) none A = .ok (.tup (b.map D.str)) A := by
    rw [sl_from (by rw [List.length_map, List.length_append, List.length_append]; omega), ← List.append_assoc, List.map_append, show a.length + mid.length = ((a ++ mid).map D.str).length by rw [List.length_map, List.length_append], List.drop_left]
  have a1 : fAdd (.tup l) (.tup xs) A = .ok (.tup (l ++ xs)) A := add_t (by omega)
  have a2 : fAdd (.tup (l ++ xs)) (.tup r) A = .ok (.tup (l ++ xs ++ r)) A := add_t (by rw [List.length_append]; omega)
  have a3 : fAdd (.tup (a.map D.str)) (.tup (kx.map D.str)) A = .ok (.tup (a.map D.str ++ kx.map D.str)) A := add_t (by rw [List.length_map, List.length_map]; omega)
  have a4 : fAdd (.tup (a.map D.str ++ kx.map D.str)) (.tup (b.map D.str)) A = .ok (.tup (a.map D.str ++ kx.map D.str ++ b.map D.str)) A := add_t (by rw [List.length_append, List.length_map, List.length_map, List.length_map]; omega)
  have ek : (a ++ (kx ++ b)).map D.str = a.map D.str ++ kx.map D.str ++ b.map D.str := by rw [List.map_append, List.map_append, List.append_assoc]
  obtain ⟨res, hres⟩ : ∃ res, res = f_packed_branch [.int (m : Int), .tup ((a ++ (kx ++ b)).map D.str), .tup (l ++ (xs ++ r))] A := ⟨_, rfl⟩
  rw [← hres]
  unfold f_spliced mFun
  simp only [List.map_cons, List.map_nil, List.length_cons, List.length_nil, Nat.reduceAdd, Nat.reduceSub, List.replicate, List.cons_append, List.nil_append]
  rw [seq_nx (ρ1 := [some (.int (m : Int)), some (brD (a ++ (mid ++ b)) (l ++ (ys ++ r))), some (.int (l.length : Nat)), some (.int ((l.length + ys.length : Nat) : Int)), some (psD xs kx), some (.tup (l ++ (xs ++ r))), none]) (A1 := A) (by
    simp only [EVa, List.getElem?_cons_zero, List.getElem?_cons_succ, List.set_cons_zero, List.set_cons_succ, bind_ok, lift_ok, List.length_cons, List.length_nil, Nat.reduceAdd, Nat.reduceLeDiff, ↓reduceIte, if_true, if_false, Bool.false_eq_true, ev_raise, and_self, List.map_cons, List.map_nil, List.replicate, List.cons_append, List.nil_append, Nat.reduceSub, i2, sT, j0, t0, a1, sD, a2]
    rw [List.append_assoc])]
  rw [seq_nx (ρ1 := [some (.int (m : Int)), some (brD (a ++ (mid ++ b)) (l ++ (ys ++ r))), some (.int (l.length : Nat)), some (.int ((l.length + ys.length : Nat) : Int)), some (psD xs kx), some (.tup (l ++ (xs ++ r))), some (.tup ((a ++ (kx ++ b)).map D.str))]) (A1 := A) (by
    simp only [EVa, List.getElem?_cons_zero, List.getElem?_cons_succ, List.set_cons_zero, List.set_cons_succ, bind_ok, lift_ok, List.length_cons, List.length_nil, Nat.reduceAdd, Nat.reduceLeDiff, ↓reduceIte, if_true, if_false, Bool.false_eq_true, ev_raise, and_self, List.map_cons, List.map_nil, List.replicate, List.cons_append, List.nil_append, Nat.reduceSub, i1, kT, j1, t1, a3, sub_ii, e1, kD, a4]
    rw [ek])]
  have q : mCallF 3 f_packed_branch (mCons (mVar 0) (mCons (mVar 6) (mCons (mVar 5) (mNil)))) [some (.int (m : Int)), some (brD (a ++ (mid ++ b)) (l ++ (ys ++ r))), some (.int (l.length : Nat)), some (.int ((l.length + ys.length : Nat) : Int)), some (psD xs kx), some (.tup (l ++ (xs ++ r))), some (.tup ((a ++ (kx ++ b)).map D.str))] A = res := callF_at (A1 := A) (ds := [.int (m : Int), .tup ((a ++ (kx ++ b)).map D.str), .tup (l ++ (xs ++ r))]) (by simp only [EVa, List.getElem?_cons_zero, List.getElem?_cons_succ, List.set_cons_zero, List.set_cons_succ, bind_ok, lift_ok, List.length_cons, List.length_nil, Nat.reduceAdd, Nat.reduceLeDiff, ↓reduceIte, if_true, if_false, Bool.false_eq_true, ev_raise, and_self, List.map_cons, List.map_nil, List.replicate, List.cons_append, List.nil_append, Nat.reduceSub]) rfl hres.symm
  rw [ev_ret, q]
  cases res <;> rfl
theorem fused_l {e1 e2 : List En} {k : Str} (h : (e1 ++ e2).length ≤ 1000) : f_fused [.int (m : Int), leafD e1, .str k, leafD e2] A = f_packed_leaf [.int (m : Int), .tup ((e1 ++ e2).map enD)] A := by
  have i1 : fIx (leafD e1) (.int 1) A = .ok (.tup (e1.map enD)) A := rfl
  have i2 : fIx (leafD e2) (.int 1) A = .ok (.tup (e2.map enD)) A := rfl
  have a1 : fAdd (.tup (e1.map enD)) (.tup (e2.map enD)) A = .ok (.tup ((e1 ++ e2).map enD)) A := by rw [add_t (by rw [List.length_map, List.length_map, ← List.length_append]; omega), List.map_append]
  have il := is_leaf_l (A := A) (es := e1)
  obtain ⟨res, hres⟩ : ∃ res, res = f_packed_leaf [.int (m : Int), .tup ((e1 ++ e2).map enD)] A := ⟨_, rfl⟩
  rw [← hres]
  have q : mCallF 2 f_packed_leaf (mCons (mVar 0) (mCons (mOp fAdd (mOp fIx (mVar 1) (mK (.int 1))) (mOp fIx (mVar 3) (mK (.int 1)))) (mNil))) [some (.int (m : Int)), some (leafD e1), some (.str k), some (leafD e2)] A = res := callF_at (A1 := A) (ds := [.int (m : Int), .tup ((e1 ++ e2).map enD)]) (by simp only [EVa, List.getElem?_cons_zero, List.getElem?_cons_succ, List.set_cons_zero, List.set_cons_succ, bind_ok, lift_ok, List.length_cons, List.length_nil, Nat.reduceAdd, Nat.reduceLeDiff, ↓reduceIte, if_true, if_false, Bool.false_eq_true, ev_raise, and_self, List.map_cons, List.map_nil, List.replicate, List.cons_append, List.nil_append, Nat.reduceSub, i1, i2, a1]) rfl hres.symm
  have t : mTst (mCallF 1 f_is_leaf (mCons (mVar 1) (mNil))) [some (.int (m : Int)), some (leafD e1), some (.str k), some (leafD e2)] A = .ok true A := by simp only [EVa, List.getElem?_cons_zero, List.getElem?_cons_succ, List.set_cons_zero, List.set_cons_succ, bind_ok, lift_ok, List.length_cons, List.length_nil, Nat.reduceAdd, Nat.reduceLeDiff, ↓reduceIte, if_true, if_false, Bool.false_eq_true, ev_raise, and_self, List.map_cons, List.map_nil, List.replicate, List.cons_append, List.nil_append, Nat.reduceSub, il]
  unfold f_fused mFun
  simp only [List.map_cons, List.map_nil, List.length_cons, List.length_nil, Nat.reduceAdd, Nat.reduceSub, List.replicate, List.cons_append, List.nil_append]
  unfold mSeq
  rw [ev_ifs, t, lift_ok, if_pos rfl, ev_ret, q]
  cases res <;> rfl
theorem fused_b {k1 k2 : List Str} {p1 p2 : List D} {k : Str} (h : p1.length + p2.length ≤ 1000) (h2 : k1.length + k2.length ≤ 1000) : f_fused [.int (m : Int), brD k1 p1, .str k, brD k2 p2] A = f_packed_branch [.int (m : Int), .tup ((k1 ++ k :: k2).map D.str), .tup (p1 ++ p2)] A := by
  have i1 : fIx (brD k1 p1) (.int 1) A = .ok (.tup (k1.map D.str)) A := rfl
  have i2 : fIx (brD k2 p2) (.int 1) A = .ok (.tup (k2.map D.str)) A := rfl
  have j1 : fIx (brD k1 p1) (.int 2) A = .ok (.tup p1) A := rfl
  have j2 : fIx (brD k2 p2) (.int 2) A = .ok (.tup p2) A := rfl
  have a1 : fAdd (.tup (k1.map D.str)) (.tup [.str k]) A = .ok (.tup (k1.map D.str ++ [.str k])) A := add_t (by rw [List.length_map]; show _ + 1 ≤ _; omega)
  have a2 : fAdd (.tup (k1.map D.str ++ [.str k])) (.tup (k2.map D.str)) A = .ok (.tup ((k1 ++ k :: k2).map D.str)) A := by
    rw [add_t (by rw [List.length_append, List.length_map, List.length_map]; show _ + 1 + _ ≤ _; omega), List.map_append, List.append_assoc]; rfl
  have a3 : fAdd (.tup p1) (.tup p2) A = .ok (.tup (p1 ++ p2)) A := add_t (by omega)
  have il := is_leaf_b (A := A) (ks := k1) (ps := p1)
  obtain ⟨res, hres⟩ : ∃ res, res = f_packed_branch [.int (m : Int), .tup ((k1 ++ k :: k2).map D.str), .tup (p1 ++ p2)] A := ⟨_, rfl⟩
  rw [← hres]
  have q : mCallF 3 f_packed_branch (mCons (mVar 0) (mCons (mOp fAdd (mOp fAdd (mOp fIx (mVar 1) (mK (.int 1))) (mTup (mCons (mVar 2) (mNil)))) (mOp fIx (mVar 3) (mK (.int 1)))) (mCons (mOp fAdd (mOp fIx (mVar 1) (mK (.int 2))) (mOp fIx (mVar 3) (mK (.int 2)))) (mNil)))) [some (.int (m : Int)), some (brD k1 p1), some (.str k), some (brD k2 p2)] A = res := callF_at (A1 := A) (ds := [.int (m : Int), .tup ((k1 ++ k :: k2).map D.str), .tup (p1 ++ p2)]) (by simp only [EVa, List.getElem?_cons_zero, List.getElem?_cons_succ, List.set_cons_zero, List.set_cons_succ, bind_ok, lift_ok, List.length_cons, List.length_nil, Nat.reduceAdd, Nat.reduceLeDiff, ↓reduceIte, if_true, if_false, Bool.false_eq_true, ev_raise, and_self, List.map_cons, List.map_nil, List.replicate, List.cons_append, List.nil_append, Nat.reduceSub, i1, i2, j1, j2, a1, a2, a3]) rfl hres.symm
  have t : mTst (mCallF 1 f_is_leaf (mCons (mVar 1) (mNil))) [some (.int (m : Int)), some (brD k1 p1), some (.str k), some (brD k2 p2)] A = .ok false A := by simp only [EVa, List.getElem?_cons_zero, List.getElem?_cons_succ, List.set_cons_zero, List.set_cons_succ, bind_ok, lift_ok, List.length_cons, List.length_nil, Nat.reduceAdd, Nat.reduceLeDiff, ↓reduceIte, if_true, if_false, Bool.false_eq_true, ev_raise, and_self, List.map_cons, List.map_nil, List.replicate, List.cons_append, List.nil_append, Nat.reduceSub, il]
  unfold f_fused mFun
  simp only [List.map_cons, List.map_nil, List.length_cons, List.length_nil, Nat.reduceAdd, Nat.reduceSub, List.replicate, List.cons_append, List.nil_append]
  rw [seq_nx (ρ1 := [some (.int (m : Int)), some (brD k1 p1), some (.str k), some (brD k2 p2)]) (A1 := A) (by rw [ev_ifs, t, lift_ok, if_neg (by decide)]; rfl), ev_ret, q]
  cases res <;> rfl
/-! ### the keys of a page about a key -/
theorem take_le {key : Str} : ∀ {ks : List Str}, ks.Pairwise sLt → ∃ a b, ks = a ++ b ∧ (∀ k ∈ a, sLe k key = true) ∧ ∀ k ∈ b, sLt key k
  | [], _ => ⟨[], [], rfl, (fun e he => nomatch he), (fun e he => nomatch he)⟩
  | x :: ks, h => by
    obtain ⟨h1, h2⟩ := List.pairwise_cons.mp h
    by_cases hx : sLt key x
    · refine ⟨[], x :: ks, rfl, (fun e he => nomatch he), fun k hk => ?_⟩
      rcases List.mem_cons.mp hk with rfl | hk
      · exact hx
      · exact lt_tr hx (h1 k hk)
    · obtain ⟨a, b, e, p1, p2⟩ := take_le (key := key) h2
      refine ⟨x :: a, b, by rw [e]; rfl, fun k hk => ?_, p2⟩
      rcases List.mem_cons.mp hk with rfl | hk
      · exact le_of_nlt hx
      · exact p1 k hk
/-- the child that a key leads to -/
theorem Sep.find {key : Str} {ks : List Str} {cs : List Ch} (s : Sep ks cs) : ∃ a b l x r, ks = a ++ ([] ++ b) ∧ cs = l ++ ([x] ++ r) ∧ l.length = a.length ∧ r.length = b.length ∧ (∀ k ∈ a, sLe k key = true) ∧ (∀ k ∈ b, sLt key k) ∧
    (∀ e ∈ ents l, sLt e.1 key) ∧ (∀ e ∈ ents r, sLt key e.1) ∧ (∀ e ∈ x.2, (∀ k ∈ a, ¬ sLt e.1 k) ∧ ∀ k ∈ b, sLt e.1 k) := by
  obtain ⟨a, b, rfl, h1, h2⟩ := take_le (key := key) s.mono
  have hl := s.len
  rw [List.length_append] at hl
  obtain ⟨l, t, rfl, ll⟩ : ∃ l t, cs = l ++ t ∧ l.length = a.length := ⟨cs.take a.length, cs.drop a.length, (List.take_append_drop _ _).symm, by rw [List.length_take]; omega⟩
  obtain ⟨x, r, rfl⟩ : ∃ x r, t = x :: r := by
    cases t with
    | nil => rw [List.append_nil] at hl; omega
    | cons x r => exact ⟨x, r, rfl⟩
  have s' : Sep (a ++ ([] ++ b)) (l ++ ([x] ++ r)) := s
  obtain ⟨z1, z2, z3, z4, z5, z6⟩ := Sep.zone (ys := [x]) (mid := []) rfl s' ll
  refine ⟨a, b, l, x, r, rfl, rfl, ll, z5, h1, h2, fun e he => ?_, fun e he => ?_, fun e he => z2 e (by rw [ents_cons, ents_nil, List.append_nil]; exact he)⟩
  · obtain ⟨k, hk, hlt⟩ := z3 e he
    exact lt_le hlt (nlt_of_le (h1 k hk))
  · obtain ⟨k, hk, hlt⟩ := z4 e he
    exact lt_le (h2 k hk) hlt
end
end TR
end
section
set_option maxHeartbeats 1000000
namespace TR
open PySem PySem.Spec PyProof.Rows L2 DM
theorem not_le {a b : Str} (h : sLt a b) : sLe b a = false := by unfold sLe; rw [decide_eq_true h]; rfl
theorem map3 (l r : List Ch) (ys : List Ch) : (l ++ (ys ++ r)).map (·.1) = l.map (·.1) ++ (ys.map (·.1) ++ r.map (·.1)) := by rw [List.map_append, List.map_append]
theorem ents3 (l r : List Ch) (ys : List Ch) : ents (l ++ (ys ++ r)) = ents l ++ (ents ys ++ ents r) := by rw [ents_app, ents_app]
theorem ents1 (x : Ch) : ents [x] = x.2 := by rw [ents_cons, ents_nil, List.append_nil]
theorem srt_mid {a x b : List En} (h : Srt (a ++ (x ++ b))) : Srt x := (List.pairwise_append.mp (List.pairwise_append.mp h).2.1).1
section
variable {m : Nat} {A : AH} {key : Str}
theorem leaf_test {x0 : Option D} {pg : D} {R : DM.Env} {k : Bool} (il : f_is_leaf [pg] A = .ok (.bl k) A) : mTst (mCallF 1 f_is_leaf (mCons (mVar 1) (mNil))) (x0 :: some pg :: R) A = .ok k A := by
  simp only [EVa, List.getElem?_cons_zero, List.getElem?_cons_succ, List.set_cons_zero, List.set_cons_succ, bind_ok, lift_ok, List.length_cons, List.length_nil, Nat.reduceAdd, Nat.reduceLeDiff, ↓reduceIte, if_true, if_false, Bool.false_eq_true, ev_raise, and_self, List.map_cons, List.map_nil, List.replicate, List.cons_append, List.nil_append, Nat.reduceSub, il]
theorem put_ok {v : D} (h3 : 3 ≤ m) (hm : m ≤ 16) : ∀ (n N : Nat) (d : D) (es : List En), n < N → Ok m n d es → Srt es → ∃ ps ks, f_put_pieces N [.int (m : Int), d, .str key, v] A = .ok (psD ps ks) A ∧ Pcs m n (insE es key v) (count d) ps ks
  | _, 0, _, _, h, _, _ => absurd h (Nat.not_lt_zero _)
  | 0, N + 1, d, es, _, o, hs => by
    have o : d = leafD es ∧ es.length ≤ m := o
    obtain ⟨rfl, hl⟩ := o
    obtain ⟨a, b, e, p1, p2, p3, p4⟩ := srt_cut (k := key) hs
    have en := entry_ok (A := A) p1 p2 (by rw [← e]; omega)
    rw [← e] at en
    have ln : fLen [.tup (es.map enD)] A = .ok (.int (es.length : Nat)) A := by rw [len_t, List.length_map]
    have hle : es.length = a.length + b.length := by rw [← List.length_append, ← e]
    have i1 : fIx (leafD es) (.int 1) A = .ok (.tup (es.map enD)) A := rfl
    have il := is_leaf_l (A := A) (es := es)
    have sT : fSl (.tup (es.map enD)) none (some ((a.length : Nat) : Int)) A = .ok (.tup (a.map enD)) A := by
      rw [sl_to, e, List.map_append, show a.length = (a.map enD).length by rw [List.length_map], List.take_left]
    have pe : ((a.length : Nat) : Int) + 1 = ((a.length + 1 : Nat) : Int) := by omega
    -- what stands behind
    have rest : mIf (mAnd (mTst (mOp fLt (mVar 4) (mCall fLen (mCons (mVar 5) (mNil))))) (mTst (mOp (fEq false) (mOp fIx (mOp fIx (mVar 5) (mVar 4)) (mK (.int 0))) (mVar 2)))) (mSl (mVar 5) (mSome (mOp fAdd (mVar 4) (mK (.int 1)))) (mNone)) (mSl (mVar 5) (mSome (mVar 4)) (mNone))
        [some (.int (m : Int)), some (leafD es), some (.str key), some v, some (.int (a.length : Nat)), some (.tup (es.map enD)), none] A = .ok (.tup ((es.filter fun e => decide (sLt key e.1)).map enD)) A := by
      have sD : fSl (.tup (es.map enD)) (some ((a.length : Nat) : Int)) none A = .ok (.tup (b.map enD)) A := by
        rw [sl_from (by rw [List.length_map]; omega), e, List.map_append, show a.length = (a.map enD).length by rw [List.length_map], List.drop_left]
      rcases p4 with ⟨p4, p5⟩ | ⟨w, b', eb, p4, p5⟩
      · rw [← p4]
        cases hb : b with
        | nil =>
          have t0 : decide (((a.length : Nat) : Int) < ((es.length : Nat) : Int)) = false := decide_eq_false (by rw [hle, hb]; show ¬ ((a.length : Nat) : Int) < ((a.length + 0 : Nat) : Int); omega)
          rw [hb] at sD
          simp only [EVa, List.getElem?_cons_zero, List.getElem?_cons_succ, List.set_cons_zero, List.set_cons_succ, bind_ok, lift_ok, List.length_cons, List.length_nil, Nat.reduceAdd, Nat.reduceLeDiff, ↓reduceIte, if_true, if_false, Bool.false_eq_true, ev_raise, and_self, List.map_cons, List.map_nil, List.replicate, List.cons_append, List.nil_append, Nat.reduceSub, ln, lt_ii, t0, sD]
        | cons x b'' =>
          have hx : (es.map enD)[a.length]? = some (enD x) := by rw [e, hb, List.getElem?_map]; simp
          have ix := ixt (A := A) hx
          have ix0 : fIx (enD x) (.int 0) A = .ok (.str x.1) A := rfl
          have t0 : decide (((a.length : Nat) : Int) < ((es.length : Nat) : Int)) = true := decide_eq_true (by rw [hle, hb, List.length_cons]; omega)
          have nx : x.1 ≠ key := fun z => by
            have := p5 x (by rw [hb]; exact List.mem_cons_self)
            rw [z] at this
            exact lt_ir this
          have eq : fEq false (.str x.1) (.str key) A = .ok (.bl false) A := by rw [eq_ss, decide_eq_false nx]; rfl
          rw [hb] at sD
          simp only [EVa, List.getElem?_cons_zero, List.getElem?_cons_succ, List.set_cons_zero, List.set_cons_succ, bind_ok, lift_ok, List.length_cons, List.length_nil, Nat.reduceAdd, Nat.reduceLeDiff, ↓reduceIte, if_true, if_false, Bool.false_eq_true, ev_raise, and_self, List.map_cons, List.map_nil, List.replicate, List.cons_append, List.nil_append, Nat.reduceSub, ln, lt_ii, t0, ix, ix0, eq, sD]
      · have hx : (es.map enD)[a.length]? = some (enD (key, w)) := by rw [e, eb, List.getElem?_map]; simp
        have ix := ixt (A := A) hx
        have ix0 : fIx (enD (key, w)) (.int 0) A = .ok (.str key) A := rfl
        have t0 : decide (((a.length : Nat) : Int) < ((es.length : Nat) : Int)) = true := decide_eq_true (by rw [hle, eb, List.length_cons]; omega)
        have eq : fEq false (.str key) (.str key) A = .ok (.bl true) A := by rw [eq_ss, decide_eq_true rfl]; rfl
        have sD2 : fSl (.tup (es.map enD)) (some ((a.length + 1 : Nat) : Int)) none A = .ok (.tup (b'.map enD)) A := by
          rw [sl_from (by rw [List.length_map, hle, eb, List.length_cons]; omega), e, eb, List.map_append, List.map_cons, show a.map enD ++ enD (key, w) :: b'.map enD = (a.map enD ++ [enD (key, w)]) ++ b'.map enD by simp, show a.length + 1 = (a.map enD ++ [enD (key, w)]).length by simp, List.drop_left]
        rw [← p4]
        simp only [EVa, List.getElem?_cons_zero, List.getElem?_cons_succ, List.set_cons_zero, List.set_cons_succ, bind_ok, lift_ok, List.length_cons, List.length_nil, Nat.reduceAdd, Nat.reduceLeDiff, ↓reduceIte, if_true, if_false, Bool.false_eq_true, ev_raise, and_self, List.map_cons, List.map_nil, List.replicate, List.cons_append, List.nil_append, Nat.reduceSub, ln, lt_ii, t0, ix, ix0, eq, add_ii, pe, sD2]
    have hi := insE_len (k := key) (v := v) hs
    obtain ⟨ps, ks, e9, pc⟩ := packed_leaf_ok (A := A) (m := m) (es := insE es key v) h3 hm (by unfold insE; simp) (by omega) (insE_srt hs)
    refine ⟨ps, ks, ?_, pc.mono (by rw [count_l]; exact hi.1)⟩
    have la : (es.filter fun e => decide (sLt key e.1)).length ≤ es.length := List.length_filter_le _ _
    have a1 : fAdd (.tup (a.map enD)) (.tup [.tup [.str key, v]]) A = .ok (.tup (a.map enD ++ [.tup [.str key, v]])) A := add_t (by rw [List.length_map]; show _ + 1 ≤ _; omega)
    have a2 : fAdd (.tup (a.map enD ++ [.tup [.str key, v]])) (.tup ((es.filter fun e => decide (sLt key e.1)).map enD)) A = .ok (.tup ((insE es key v).map enD)) A := by
      rw [add_t (by rw [List.length_append, List.length_map, List.length_map]; show _ + 1 + _ ≤ _; omega)]
      unfold insE
      rw [← p3, List.map_append, List.map_cons, List.append_assoc]
      rfl
    have t : mTst (mCallF 1 f_is_leaf (mCons (mVar 1) (mNil))) [some (.int (m : Int)), some (leafD es), some (.str key), some v, none, none, none] A = .ok true A := by simp only [EVa, List.getElem?_cons_zero, List.getElem?_cons_succ, List.set_cons_zero, List.set_cons_succ, bind_ok, lift_ok, List.length_cons, List.length_nil, Nat.reduceAdd, Nat.reduceLeDiff, ↓reduceIte, if_true, if_false, Bool.false_eq_true, ev_raise, and_self, List.map_cons, List.map_nil, List.replicate, List.cons_append, List.nil_append, Nat.reduceSub, il]
    show g_put_pieces (f_put_pieces N) _ A = _
    unfold g_put_pieces
    refine fun_rt ?_
    refine seq_rt ?_
    simp only [List.map_cons, List.map_nil, List.length_cons, List.length_nil, Nat.reduceAdd, Nat.reduceSub, List.replicate, List.cons_append, List.nil_append]
    rw [ev_ifs, t, lift_ok, if_pos rfl]
    refine (seq_nx (ρ1 := [some (.int (m : Int)), some (leafD es), some (.str key), some v, none, some (.tup (es.map enD)), none]) (A1 := A) ?_).trans ?_
    · simp only [EVa, List.getElem?_cons_zero, List.getElem?_cons_succ, List.set_cons_zero, List.set_cons_succ, bind_ok, lift_ok, List.length_cons, List.length_nil, Nat.reduceAdd, Nat.reduceLeDiff, ↓reduceIte, if_true, if_false, Bool.false_eq_true, ev_raise, and_self, List.map_cons, List.map_nil, List.replicate, List.cons_append, List.nil_append, Nat.reduceSub, i1]
    refine (seq_nx (ρ1 := [some (.int (m : Int)), some (leafD es), some (.str key), some v, some (.int (a.length : Nat)), some (.tup (es.map enD)), none]) (A1 := A) ?_).trans ?_
    · simp only [EVa, List.getElem?_cons_zero, List.getElem?_cons_succ, List.set_cons_zero, List.set_cons_succ, bind_ok, lift_ok, List.length_cons, List.length_nil, Nat.reduceAdd, Nat.reduceLeDiff, ↓reduceIte, if_true, if_false, Bool.false_eq_true, ev_raise, and_self, List.map_cons, List.map_nil, List.replicate, List.cons_append, List.nil_append, Nat.reduceSub, en]
    refine (seq_nx (ρ1 := [some (.int (m : Int)), some (leafD es), some (.str key), some v, some (.int (a.length : Nat)), some (.tup (es.map enD)), some (.tup ((es.filter fun e => decide (sLt key e.1)).map enD))]) (A1 := A) ?_).trans ?_
    · rw [ev_set, rest, lift_ok]
      rfl
    · simp only [EVa, List.getElem?_cons_zero, List.getElem?_cons_succ, List.set_cons_zero, List.set_cons_succ, bind_ok, lift_ok, List.length_cons, List.length_nil, Nat.reduceAdd, Nat.reduceLeDiff, ↓reduceIte, if_true, if_false, Bool.false_eq_true, ev_raise, and_self, List.map_cons, List.map_nil, List.replicate, List.cons_append, List.nil_append, Nat.reduceSub, sT, a1, a2, e9]
  | n + 1, N + 1, d, es, hN, o, hs => by
    have o : ∃ ks cs, d = brD ks (cs.map (·.1)) ∧ Sep ks cs ∧ cs.length ≤ m ∧ es = ents cs ∧ ∀ c ∈ cs, Ok m n c.1 c.2 ∧ half m ≤ count c.1 := o
    obtain ⟨ks, cs, rfl, s, hc, rfl, ok⟩ := o
    obtain ⟨a, b, l, x, r, rfl, rfl, hl, hr, ha, hb, gl, gr, gx⟩ := s.find (key := key)
    obtain ⟨z1, z2, z3, z4, z5, z6⟩ := Sep.zone (ys := [x]) (mid := []) rfl s hl
    rw [ents3, ents1] at hs
    have hxs := srt_mid hs
    obtain ⟨okx, hcx⟩ := ok x (List.mem_append_right _ (List.mem_append_left _ List.mem_cons_self))
    obtain ⟨ps, kx, e1, xs, rfl, sx, ex, okxs, cx⟩ := put_ok (v := v) h3 hm n N x.1 x.2 (by omega) okx hxs
    have cl : (l ++ ([x] ++ r)).length = l.length + (1 + r.length) := by rw [List.length_append, List.length_append]; rfl
    rw [cl] at hc
    have ch := child_ok (A := A) (key := key) (a := a) (b := b) ha (fun k hk => not_le (hb k hk)) (by rw [List.length_append]; omega)
    rw [← hl] at ch
    have xl : xs.length ≤ 2 := by rcases cx with ⟨h, _⟩ | ⟨h, _⟩ <;> omega
    have kl : kx.length ≤ 2 := by have := sx.len; omega
    have sS := z6 sx fun e he => by
      rw [← ex] at he
      rcases insE_in he with h | rfl
      · exact gx e h
      · exact ⟨fun k hk => nlt_of_le (ha k hk), fun k hk => hb k hk⟩
    obtain ⟨ps2, k2, e2, pc⟩ := packed_branch_ok (A := A) (m := m) (n := n) (cs := l ++ (xs ++ r)) h3 hm (by rw [List.length_append, List.length_append]; omega) sS fun c hc2 => by
      rcases List.mem_append.mp hc2 with h | h
      · exact ok c (List.mem_append_left _ h)
      · rcases List.mem_append.mp h with h | h
        · refine ⟨okxs c h, ?_⟩
          rcases cx with ⟨_, g⟩ | ⟨_, g⟩
          · exact Nat.le_trans hcx (g c h)
          · exact g c h
        · exact ok c (List.mem_append_right _ (List.mem_append_right _ h))
    have x1 : 1 ≤ xs.length := by rcases cx with ⟨h, _⟩ | ⟨h, _⟩ <;> omega
    refine ⟨ps2, k2, ?_, ?_⟩
    · have i1 : fIx (brD (a ++ ([] ++ b)) ((l ++ ([x] ++ r)).map (·.1))) (.int 1) A = .ok (.tup ((a ++ b).map D.str)) A := rfl
      have i2 : fIx (brD (a ++ ([] ++ b)) ((l ++ ([x] ++ r)).map (·.1))) (.int 2) A = .ok (.tup ((l ++ ([x] ++ r)).map (·.1))) A := rfl
      have hx : ((l ++ ([x] ++ r)).map (·.1))[l.length]? = some x.1 := by rw [List.getElem?_map]; simp
      have ix := ixt (A := A) hx
      have il := is_leaf_b (A := A) (ks := a ++ ([] ++ b)) (ps := (l ++ ([x] ++ r)).map (·.1))
      have pe : ((l.length : Nat) : Int) + 1 = ((l.length + 1 : Nat) : Int) := by omega
      have sp := spliced_ok (m := m) (A := A) (a := a) (mid := []) (b := b) (kx := kx) (l := l.map (·.1)) (ys := [x.1]) (r := r.map (·.1)) (xs := xs.map (·.1)) (by rw [List.length_map]; exact hl) rfl (by rw [List.length_map]; exact hr) (by rw [List.length_append, List.length_append, List.length_map, List.length_map]; show _ + (1 + _) ≤ _; omega) (by rw [List.length_map]; omega) (by omega) (e := ((l.length + 1 : Nat) : Int)) (by rw [List.length_map]; rfl)
      rw [← map3 l r xs, e2, List.length_map] at sp
      have sp : f_spliced [.int (m : Int), brD (a ++ ([] ++ b)) ((l ++ ([x] ++ r)).map (·.1)), .int (l.length : Nat), .int ((l.length + 1 : Nat) : Int), psD (xs.map (·.1)) kx] A = .ok (psD ps2 k2) A := by rw [map3]; exact sp
      have t : mTst (mCallF 1 f_is_leaf (mCons (mVar 1) (mNil))) [some (.int (m : Int)), some (brD (a ++ ([] ++ b)) ((l ++ ([x] ++ r)).map (·.1))), some (.str key), some v, none, none, none] A = .ok false A := leaf_test il
      show g_put_pieces (f_put_pieces N) _ A = _
      unfold g_put_pieces
      refine fun_rt ?_
      simp only [List.map_cons, List.map_nil, List.length_cons, List.length_nil, Nat.reduceAdd, Nat.reduceSub, List.replicate, List.cons_append, List.nil_append]
      refine (seq_nx (ρ1 := [some (.int (m : Int)), some (brD (a ++ ([] ++ b)) ((l ++ ([x] ++ r)).map (·.1))), some (.str key), some v, none, none, none]) (A1 := A) ?_).trans ?_
      · have t' := t
        rw [ev_ifs]
        exact (congrArg (fun z => lift z _ _) t').trans rfl
      refine (seq_nx (ρ1 := [some (.int (m : Int)), some (brD (a ++ ([] ++ b)) ((l ++ ([x] ++ r)).map (·.1))), some (.str key), some v, some (.int (l.length : Nat)), none, none]) (A1 := A) ?_).trans ?_
      · have q : mCallF 2 f_child_number (mCons (mOp fIx (mVar 1) (mK (.int 1))) (mCons (mVar 2) (mNil))) [some (.int (m : Int)), some (brD (a ++ ([] ++ b)) ((l ++ ([x] ++ r)).map (·.1))), some (.str key), some v, none, none, none] A = .ok (.int (l.length : Nat)) A := callF_at (A1 := A) (ds := [.tup ((a ++ b).map D.str), .str key]) rfl rfl ch
        rw [ev_set]
        exact (congrArg (fun z => lift z _ _) q).trans rfl
      have q4 : mCallF 4 (f_put_pieces N) (mCons (mVar 0) (mCons (mOp fIx (mOp fIx (mVar 1) (mK (.int 2))) (mVar 4)) (mCons (mVar 2) (mCons (mVar 3) (mNil))))) [some (.int (m : Int)), some (brD (a ++ ([] ++ b)) ((l ++ ([x] ++ r)).map (·.1))), some (.str key), some v, some (.int (l.length : Nat)), none, none] A = .ok (psD (xs.map (·.1)) kx) A := by
        refine callF_at (A1 := A) (ds := [.int (m : Int), x.1, .str key, v]) ?_ rfl e1
        rw [ev_cons, ev_var]
        simp only [List.getElem?_cons_zero, List.getElem?_cons_succ, bind_ok]
        rw [ev_cons, ev_op, ev_op, ev_var]
        simp only [List.getElem?_cons_zero, List.getElem?_cons_succ, bind_ok, ev_K, i2]
        rw [ev_var]
        simp only [List.getElem?_cons_zero, List.getElem?_cons_succ, bind_ok, ix]
        simp only [EVa, List.getElem?_cons_zero, List.getElem?_cons_succ, List.set_cons_zero, List.set_cons_succ, bind_ok, lift_ok, List.length_cons, List.length_nil, Nat.reduceAdd, Nat.reduceLeDiff, ↓reduceIte, if_true, if_false, Bool.false_eq_true, ev_raise, and_self, List.map_cons, List.map_nil, List.replicate, List.cons_append, List.nil_append, Nat.reduceSub]
      have q5 : mCallF 5 f_spliced (mCons (mVar 0) (mCons (mVar 1) (mCons (mVar 4) (mCons (mOp fAdd (mVar 4) (mK (.int 1))) (mCons (mCallF 4 (f_put_pieces N) (mCons (mVar 0) (mCons (mOp fIx (mOp fIx (mVar 1) (mK (.int 2))) (mVar 4)) (mCons (mVar 2) (mCons (mVar 3) (mNil)))))) (mNil)))))) [some (.int (m : Int)), some (brD (a ++ ([] ++ b)) ((l ++ ([x] ++ r)).map (·.1))), some (.str key), some v, some (.int (l.length : Nat)), none, none] A = .ok (psD ps2 k2) A := by
        refine callF_at (A1 := A) (ds := [.int (m : Int), brD (a ++ ([] ++ b)) ((l ++ ([x] ++ r)).map (·.1)), .int (l.length : Nat), .int ((l.length + 1 : Nat) : Int), psD (xs.map (·.1)) kx]) ?_ rfl sp
        rw [ev_cons, ev_var]
        simp only [List.getElem?_cons_zero, List.getElem?_cons_succ, bind_ok]
        rw [ev_cons, ev_var]
        simp only [List.getElem?_cons_zero, List.getElem?_cons_succ, bind_ok]
        rw [ev_cons, ev_var]
        simp only [List.getElem?_cons_zero, List.getElem?_cons_succ, bind_ok]
        rw [ev_cons, ev_op, ev_var]
        simp only [List.getElem?_cons_zero, List.getElem?_cons_succ, bind_ok, ev_K, add_ii, pe]
        rw [ev_cons, q4, bind_ok, ev_nil]
        simp only [bind_ok]
      rw [ev_ret]
      exact (congrArg (fun z => lift z _ _) q5).trans rfl
    · rw [ents3, ents1, insE_mid gl gr, ex, ← ents3]
      refine pc.mono ?_
      rw [count_b, List.length_map, cl, List.length_append, List.length_append]
      omega
end
end TR
end
section
set_option maxHeartbeats 1000000
namespace TR
open PySem PySem.Spec PyProof.Rows L2 DM
section
variable {m : Nat} {A : AH} {key : Str}
theorem pb_one {ks : List Str} {ps : List D} (h : ps.length ≤ m) : f_packed_branch [.int (m : Int), .tup (ks.map D.str), .tup ps] A = .ok (psD [brD ks ps] []) A := by
  have ln : fLen [.tup ps] A = .ok (.int (ps.length : Nat)) A := len_t
  have t0 : decide (((ps.length : Nat) : Int) ≤ (m : Int)) = true := decide_eq_true (by omega)
  unfold f_packed_branch
  refine fun_rt ?_
  refine seq_rt ?_
  simp only [EVa, List.getElem?_cons_zero, List.getElem?_cons_succ, List.set_cons_zero, List.set_cons_succ, bind_ok, lift_ok, List.length_cons, List.length_nil, Nat.reduceAdd, Nat.reduceLeDiff, ↓reduceIte, if_true, if_false, Bool.false_eq_true, ev_raise, and_self, List.map_cons, List.map_nil, List.replicate, List.cons_append, List.nil_append, Nat.reduceSub, ln, le_ii, t0]
  rfl
theorem fuse_ok {n : Nat} {p1 p2 : D} {e1 e2 : List En} {k : Str} (h3 : 3 ≤ m) (hm : m ≤ 16) (o1 : Ok m n p1 e1) (o2 : Ok m n p2 e2) (f1 : e1 ≠ []) (g1 : ∀ e ∈ e1, sLt e.1 k) (g2 : ∀ e ∈ e2, ¬ sLt e.1 k) (hs : Srt (e1 ++ e2)) (hc : count p1 + count p2 ≤ 2 * m) :
    ∃ ps kx, f_fused [.int (m : Int), p1, .str k, p2] A = .ok (psD ps kx) A ∧ Pcs m n (e1 ++ e2) (count p1 + count p2) ps kx := by
  cases n with
  | zero =>
    have o1 : p1 = leafD e1 ∧ e1.length ≤ m := o1
    have o2 : p2 = leafD e2 ∧ e2.length ≤ m := o2
    obtain ⟨rfl, h1⟩ := o1
    obtain ⟨rfl, h2⟩ := o2
    rw [count_l, count_l] at hc ⊢
    obtain ⟨ps, kx, e, pc⟩ := packed_leaf_ok (A := A) (m := m) (es := e1 ++ e2) h3 hm (by intro z; exact f1 (List.append_eq_nil_iff.mp z).1) (by rw [List.length_append]; omega) hs
    exact ⟨ps, kx, (fused_l (by rw [List.length_append]; omega)).trans e, by rw [← List.length_append]; exact pc⟩
  | succ n =>
    have o1 : ∃ ks cs, p1 = brD ks (cs.map (·.1)) ∧ Sep ks cs ∧ cs.length ≤ m ∧ e1 = ents cs ∧ ∀ c ∈ cs, Ok m n c.1 c.2 ∧ half m ≤ count c.1 := o1
    have o2 : ∃ ks cs, p2 = brD ks (cs.map (·.1)) ∧ Sep ks cs ∧ cs.length ≤ m ∧ e2 = ents cs ∧ ∀ c ∈ cs, Ok m n c.1 c.2 ∧ half m ≤ count c.1 := o2
    obtain ⟨k1, c1, rfl, s1, l1, rfl, q1⟩ := o1
    obtain ⟨k2, c2, rfl, s2, l2, rfl, q2⟩ := o2
    rw [count_b, count_b, List.length_map, List.length_map] at hc ⊢
    have w1 := s1.len
    have w2 := s2.len
    obtain ⟨ps, kx, e, pc⟩ := packed_branch_ok (A := A) (m := m) (n := n) (cs := c1 ++ c2) h3 hm (by rw [List.length_append]; omega) (s1.app s2 g1 g2) fun c h => (List.mem_append.mp h).elim (q1 c) (q2 c)
    have em : (c1 ++ c2).map (fun x : Ch => x.1) = c1.map (fun x : Ch => x.1) ++ c2.map (fun x : Ch => x.1) := List.map_append
    rw [em] at e
    exact ⟨ps, kx, (fused_b (by rw [List.length_map, List.length_map]; omega) (by omega)).trans e, by rw [← ents_app, ← List.length_append]; exact pc⟩
theorem ge_ii {a b : Int} : fGe (.int a) (.int b) A = .ok (.bl (decide (b ≤ a))) A := rfl
theorem things_len {n : Nat} {d : D} {es : List En} (o : Ok m n d es) : ∃ xs, f_things_on [d] A = .ok (.tup xs) A ∧ xs.length = count d := by
  cases n with
  | zero =>
    have o : d = leafD es ∧ es.length ≤ m := o
    obtain ⟨rfl, _⟩ := o
    exact ⟨es.map enD, rfl, rfl⟩
  | succ n =>
    obtain ⟨ks, cs, rfl, _⟩ := o
    exact ⟨cs.map (·.1), rfl, rfl⟩
theorem del_leaf {a b : List En} {w : D} (p1 : ∀ e ∈ a, sLt e.1 key) (p5 : ∀ e ∈ b, sLt key e.1) : delE (a ++ (key, w) :: b) key = a ++ b := by
  have h := delE_mid (x := [(key, w)]) p1 p5
  have e : delE [(key, w)] key = [] := by
    unfold delE
    rw [List.filter_cons_of_neg (by simp)]
    rfl
  rw [e] at h
  exact h
theorem delE_srt {es : List En} (h : Srt es) : Srt (delE es key) := h.filter _
theorem delE_in {es : List En} {e : En} (h : e ∈ delE es key) : e ∈ es := (List.mem_filter.mp h).1
/-- two neighbours joined -/
theorem join_ok {n : Nat} {a b : List Str} {k' : Str} {l r : List Ch} {y1 y2 z1 z2 : Ch} (h3 : 3 ≤ m) (hm : m ≤ 16) (s : Sep (a ++ ([k'] ++ b)) (l ++ ([y1, y2] ++ r))) (hl : l.length = a.length) (hc : l.length + (2 + r.length) ≤ m) (ok : ∀ c, c ∈ l ∨ c ∈ r → Ok m n c.1 c.2 ∧ half m ≤ count c.1)
    (o1 : Ok m n z1.1 z1.2) (o2 : Ok m n z2.1 z2.2) (f1 : z1.2 ≠ []) (i1 : ∀ e ∈ z1.2, e ∈ y1.2) (i2 : ∀ e ∈ z2.2, e ∈ y2.2) (hs : Srt (z1.2 ++ z2.2)) (hh : half m ≤ count z1.1 + count z2.1) (h2 : count z1.1 + count z2.1 ≤ 2 * m) :
    ∃ ps kx d', f_fused [.int (m : Int), z1.1, .str k', z2.1] A = .ok (psD ps kx) A ∧ f_spliced [.int (m : Int), brD (a ++ ([k'] ++ b)) ((l ++ ([y1, y2] ++ r)).map (·.1)), .int (l.length : Nat), .int ((l.length + 2 : Nat) : Int), psD ps kx] A = .ok (psD [d'] []) A ∧
      Ok m (n + 1) d' (ents l ++ ((z1.2 ++ z2.2) ++ ents r)) ∧ l.length + (2 + r.length) ≤ count d' + 1 := by
  obtain ⟨w1, w2, w3, w4, w5, w6⟩ := Sep.zone (ys := [y1, y2]) (mid := [k']) rfl s hl
  obtain ⟨g1, g2⟩ : (∀ e ∈ y1.2, sLt e.1 k') ∧ ∀ e ∈ y2.2, ¬ sLt e.1 k' := by
    cases w1 with
    | cons _ q1 q2 _ => exact ⟨q1, fun e he => q2 e (by rw [ents1]; exact he)⟩
  obtain ⟨ps, kx, e1, xs, rfl, sx, ex, okxs, cx⟩ := fuse_ok (A := A) (k := k') h3 hm o1 o2 f1 (fun e he => g1 e (i1 e he)) (fun e he => g2 e (i2 e he)) hs h2
  have xl : 1 ≤ xs.length ∧ xs.length ≤ 2 := by rcases cx with ⟨h, _⟩ | ⟨h, _⟩ <;> omega
  have kl : kx.length ≤ 2 := by have := sx.len; omega
  have sS := w6 sx fun e he => by
    rw [← ex] at he
    refine w2 e ?_
    rw [ents_cons, ents1]
    rcases List.mem_append.mp he with h | h
    · exact List.mem_append_left _ (i1 e h)
    · exact List.mem_append_right _ (i2 e h)
  have lx : (l ++ (xs ++ r)).length = l.length + (xs.length + r.length) := by rw [List.length_append, List.length_append]
  refine ⟨xs.map (·.1), kx, brD (a ++ (kx ++ b)) ((l ++ (xs ++ r)).map (·.1)), e1, ?_, ⟨_, l ++ (xs ++ r), rfl, sS, by omega, ?_, fun c hc2 => ?_⟩, ?_⟩
  · have sp := spliced_ok (m := m) (A := A) (a := a) (mid := [k']) (b := b) (kx := kx) (l := l.map (·.1)) (ys := [y1.1, y2.1]) (r := r.map (·.1)) (xs := xs.map (·.1)) (by rw [List.length_map]; exact hl) rfl (by rw [List.length_map]; exact w5) (by rw [List.length_append, List.length_append, List.length_map, List.length_map]; show _ + (2 + _) ≤ _; omega) (by rw [List.length_map]; omega) (by omega) (e := ((l.length + 2 : Nat) : Int)) (by rw [List.length_map]; rfl)
    rw [← map3 l r xs, pb_one (by rw [List.length_map]; omega), List.length_map] at sp
    rw [map3]
    exact sp
  · rw [ents3, ← ex]
  · rcases List.mem_append.mp hc2 with h | h
    · exact ok c (.inl h)
    · rcases List.mem_append.mp h with h | h
      · refine ⟨okxs c h, ?_⟩
        rcases cx with ⟨_, g⟩ | ⟨_, g⟩
        · exact Nat.le_trans hh (g c h)
        · exact g c h
      · exact ok c (.inr h)
  · rw [count_b, List.length_map, lx]
    omega
theorem less_ok (h3 : 3 ≤ m) (hm : m ≤ 16) : ∀ (n N : Nat) (d : D) (es : List En), n < N → Ok m n d es → Srt es → (∃ v, (key, v) ∈ es) → (1 ≤ n → 2 ≤ count d) → ∃ d', f_less_page N [.int (m : Int), d, .str key] A = .ok d' A ∧ Ok m n d' (delE es key) ∧ count d ≤ count d' + 1
  | _, 0, _, _, h, _, _, _, _ => absurd h (Nat.not_lt_zero _)
  | 0, N + 1, d, es, _, o, hs, hk, _ => by
    have o : d = leafD es ∧ es.length ≤ m := o
    obtain ⟨rfl, hl⟩ := o
    obtain ⟨a, b, e, p1, p2, p3, p4⟩ := srt_cut (k := key) hs
    obtain ⟨w, b', eb, p5⟩ : ∃ w b', b = (key, w) :: b' ∧ ∀ e ∈ b', sLt key e.1 := by
      rcases p4 with ⟨_, p5⟩ | ⟨w, b', h, _, p5⟩
      · obtain ⟨v, hv⟩ := hk
        rw [e] at hv
        rcases List.mem_append.mp hv with h | h
        · exact absurd (p1 _ h) lt_ir
        · exact absurd (p5 _ h) lt_ir
      · exact ⟨w, b', h, p5⟩
    subst eb
    have en := entry_ok (A := A) p1 p2 (by rw [← e]; omega)
    rw [← e] at en
    have hle : es.length = a.length + (b'.length + 1) := by rw [← List.length_cons, ← List.length_append, ← e]
    have i1 : fIx (leafD es) (.int 1) A = .ok (.tup (es.map enD)) A := rfl
    have il := is_leaf_l (A := A) (es := es)
    have sT : fSl (.tup (es.map enD)) none (some ((a.length : Nat) : Int)) A = .ok (.tup (a.map enD)) A := by
      rw [sl_to, e, List.map_append, show a.length = (a.map enD).length by rw [List.length_map], List.take_left]
    have pe : ((a.length : Nat) : Int) + 1 = ((a.length + 1 : Nat) : Int) := by omega
    have sD : fSl (.tup (es.map enD)) (some ((a.length + 1 : Nat) : Int)) none A = .ok (.tup (b'.map enD)) A := by
      rw [sl_from (by rw [List.length_map]; omega), e, List.map_append, List.map_cons, show a.map enD ++ enD (key, w) :: b'.map enD = (a.map enD ++ [enD (key, w)]) ++ b'.map enD by simp, show a.length + 1 = (a.map enD ++ [enD (key, w)]).length by simp, List.drop_left]
    have a1 : fAdd (.tup (a.map enD)) (.tup (b'.map enD)) A = .ok (.tup ((a ++ b').map enD)) A := by rw [add_t (by rw [List.length_map, List.length_map]; omega), List.map_append]
    have ed : delE es key = a ++ b' := by rw [e]; exact del_leaf p1 p5
    rw [ed]
    refine ⟨leafD (a ++ b'), ?_, ⟨rfl, by rw [List.length_append]; omega⟩, by rw [count_l, count_l, List.length_append]; omega⟩
    have t := leaf_test (x0 := some (.int (m : Int))) (R := [some (.str key), none, none, none, none]) il
    show g_less_page (f_less_page N) _ A = _
    unfold g_less_page
    refine fun_rt ?_
    refine seq_rt ?_
    simp only [List.map_cons, List.map_nil, List.length_cons, List.length_nil, Nat.reduceAdd, Nat.reduceSub, List.replicate, List.cons_append, List.nil_append]
    rw [ev_ifs, t, lift_ok, if_pos rfl]
    refine (seq_nx (ρ1 := [some (.int (m : Int)), some (leafD es), some (.str key), some (.int (a.length : Nat)), none, none, none]) (A1 := A) ?_).trans ?_
    · simp only [EVa, List.getElem?_cons_zero, List.getElem?_cons_succ, List.set_cons_zero, List.set_cons_succ, bind_ok, lift_ok, List.length_cons, List.length_nil, Nat.reduceAdd, Nat.reduceLeDiff, ↓reduceIte, if_true, if_false, Bool.false_eq_true, ev_raise, and_self, List.map_cons, List.map_nil, List.replicate, List.cons_append, List.nil_append, Nat.reduceSub, i1, en]
    · simp only [EVa, List.getElem?_cons_zero, List.getElem?_cons_succ, List.set_cons_zero, List.set_cons_succ, bind_ok, lift_ok, List.length_cons, List.length_nil, Nat.reduceAdd, Nat.reduceLeDiff, ↓reduceIte, if_true, if_false, Bool.false_eq_true, ev_raise, and_self, List.map_cons, List.map_nil, List.replicate, List.cons_append, List.nil_append, Nat.reduceSub, i1, sT, add_ii, pe, sD, a1]
      rfl
  | n + 1, N + 1, d, es, hN, o, hs, hk, h2 => by
    have o : ∃ ks cs, d = brD ks (cs.map (·.1)) ∧ Sep ks cs ∧ cs.length ≤ m ∧ es = ents cs ∧ ∀ c ∈ cs, Ok m n c.1 c.2 ∧ half m ≤ count c.1 := o
    obtain ⟨ks, cs, rfl, s, hc, rfl, ok⟩ := o
    have h2c := h2 (Nat.succ_le_succ (Nat.zero_le n))
    clear h2
    obtain ⟨a, b, l, x, r, rfl, rfl, hl, hr, ha, hb, gl, gr, gx⟩ := s.find (key := key)
    obtain ⟨z1, z2, z3, z4, z5, z6⟩ := Sep.zone (ys := [x]) (mid := []) rfl s hl
    have hs0 := hs
    rw [ents3, ents1] at hs
    have hxs := srt_mid hs
    obtain ⟨okx, hcx⟩ := ok x (List.mem_append_right _ (List.mem_append_left _ List.mem_cons_self))
    have half2 : 2 ≤ half m := by unfold half; omega
    have hkx : ∃ v, (key, v) ∈ x.2 := by
      obtain ⟨v, hv⟩ := hk
      rw [ents3, ents1] at hv
      rcases List.mem_append.mp hv with h | h
      · exact absurd (gl _ h) lt_ir
      · rcases List.mem_append.mp h with h | h
        · exact ⟨v, h⟩
        · exact absurd (gr _ h) lt_ir
    obtain ⟨dx, e1, odx, cdx⟩ := less_ok h3 hm n N x.1 x.2 (by omega) okx hxs hkx (fun _ => Nat.le_trans half2 hcx)
    have cl : (l ++ ([x] ++ r)).length = l.length + (1 + r.length) := by rw [List.length_append, List.length_append]; rfl
    rw [count_b, List.length_map, cl] at h2c
    rw [cl] at hc
    have ch := child_ok (A := A) (key := key) (a := a) (b := b) ha (fun k hk => not_le (hb k hk)) (by rw [List.length_append]; omega)
    rw [← hl] at ch
    have hd1 : 1 ≤ count dx := by omega
    have fdx := odx.full hd1
    have i1 : fIx (brD (a ++ ([] ++ b)) ((l ++ ([x] ++ r)).map (·.1))) (.int 1) A = .ok (.tup ((a ++ b).map D.str)) A := rfl
    have i2 : fIx (brD (a ++ ([] ++ b)) ((l ++ ([x] ++ r)).map (·.1))) (.int 2) A = .ok (.tup ((l ++ ([x] ++ r)).map (·.1))) A := rfl
    have hx : ((l ++ ([x] ++ r)).map (·.1))[l.length]? = some x.1 := by rw [List.getElem?_map]; simp
    have ix := ixt (A := A) hx
    have il := is_leaf_b (A := A) (ks := a ++ ([] ++ b)) (ps := (l ++ ([x] ++ r)).map (·.1))
    obtain ⟨tx, et, lt⟩ := things_len (A := A) odx
    have ho := half_ok (A := A) h3 hm
    have del : delE (ents (l ++ ([x] ++ r))) key = ents l ++ (delE x.2 key ++ ents r) := by rw [ents3, ents1, delE_mid gl gr]
    obtain ⟨pg, hpg⟩ : ∃ pg, pg = brD (a ++ ([] ++ b)) ((l ++ ([x] ++ r)).map (·.1)) := ⟨_, rfl⟩
    rw [← hpg] at i1 i2 il
    obtain ⟨pl, hpl⟩ : ∃ pl, pl = (l ++ ([x] ++ r)).map (fun c : Ch => c.1) := ⟨_, rfl⟩
    rw [← hpl] at i2 ix
    rw [← hpg, del]
    have t := leaf_test (x0 := some (.int (m : Int))) (R := [some (.str key), none, none, none, none]) il
    -- the first steps
    have first : ∀ kt : MS, (fun kt => mSeq (mIfS (mTst (mCallF 1 f_is_leaf (mCons (mVar 1) (mNil)))) (mSeq (mSet 3 (mCallF 2 f_entry_number (mCons (mOp fIx (mVar 1) (mK (.int 1))) (mCons (mVar 2) (mNil))))) (mRet (mTup (mCons (mK (.str "leaf")) (mCons (mOp fAdd (mSl (mOp fIx (mVar 1) (mK (.int 1))) (mNone) (mSome (mVar 3))) (mSl (mOp fIx (mVar 1) (mK (.int 1))) (mSome (mOp fAdd (mVar 3) (mK (.int 1)))) (mNone))) (mNil)))))) (mNext)) (mSeq (mSet 3 (mCallF 2 f_child_number (mCons (mOp fIx (mVar 1) (mK (.int 1))) (mCons (mVar 2) (mNil))))) (mSeq (mSet 4 (mCallF 3 (f_less_page N) (mCons (mVar 0) (mCons (mOp fIx (mOp fIx (mVar 1) (mK (.int 2))) (mVar 3)) (mCons (mVar 2) (mNil)))))) kt))) kt [some (.int (m : Int)), some pg, some (.str key), none, none, none, none] A = kt [some (.int (m : Int)), some pg, some (.str key), some (.int (l.length : Nat)), some dx, none, none] A := fun kt => by
      refine (seq_nx (ρ1 := [some (.int (m : Int)), some pg, some (.str key), none, none, none, none]) (A1 := A) ?_).trans ?_
      · rw [ev_ifs, t, lift_ok, if_neg (by decide)]
        rfl
      refine (seq_nx (ρ1 := [some (.int (m : Int)), some pg, some (.str key), some (.int (l.length : Nat)), none, none, none]) (A1 := A) ?_).trans ?_
      · simp only [EVa, List.getElem?_cons_zero, List.getElem?_cons_succ, List.set_cons_zero, List.set_cons_succ, bind_ok, lift_ok, List.length_cons, List.length_nil, Nat.reduceAdd, Nat.reduceLeDiff, ↓reduceIte, if_true, if_false, Bool.false_eq_true, ev_raise, and_self, List.map_cons, List.map_nil, List.replicate, List.cons_append, List.nil_append, Nat.reduceSub, i1, ch]
      refine seq_nx ?_
      have q : mCallF 3 (f_less_page N) (mCons (mVar 0) (mCons (mOp fIx (mOp fIx (mVar 1) (mK (.int 2))) (mVar 3)) (mCons (mVar 2) (mNil)))) [some (.int (m : Int)), some pg, some (.str key), some (.int (l.length : Nat)), none, none, none] A = .ok dx A := by
        refine callF_at (A1 := A) (ds := [.int (m : Int), x.1, .str key]) ?_ rfl e1
        simp only [EVa, List.getElem?_cons_zero, List.getElem?_cons_succ, List.set_cons_zero, List.set_cons_succ, bind_ok, lift_ok, List.length_cons, List.length_nil, Nat.reduceAdd, Nat.reduceLeDiff, ↓reduceIte, if_true, if_false, Bool.false_eq_true, ev_raise, and_self, List.map_cons, List.map_nil, List.replicate, List.cons_append, List.nil_append, Nat.reduceSub, i2, ix]
      rw [ev_set, q, lift_ok]
      rfl
    have tst : mTst (mOp fGe (mCall fLen (mCons (mCallF 1 f_things_on (mCons (mVar 4) (mNil))) (mNil))) (mCallF 1 f_half_of (mCons (mVar 0) (mNil)))) [some (.int (m : Int)), some pg, some (.str key), some (.int (l.length : Nat)), some dx, none, none] A = .ok (decide (half m ≤ count dx)) A := by
      have ln : fLen [.tup tx] A = .ok (.int (count dx : Nat)) A := by rw [len_t, lt]
      have d0 : decide (((half m : Nat) : Int) ≤ ((count dx : Nat) : Int)) = decide (half m ≤ count dx) := by
        by_cases z : half m ≤ count dx
        · rw [decide_eq_true z, decide_eq_true (by omega)]
        · rw [decide_eq_false z, decide_eq_false (by omega)]
      simp only [EVa, List.getElem?_cons_zero, List.getElem?_cons_succ, List.set_cons_zero, List.set_cons_succ, bind_ok, lift_ok, List.length_cons, List.length_nil, Nat.reduceAdd, Nat.reduceLeDiff, ↓reduceIte, if_true, if_false, Bool.false_eq_true, ev_raise, and_self, List.map_cons, List.map_nil, List.replicate, List.cons_append, List.nil_append, Nat.reduceSub, et, ln, ho, ge_ii, d0]
    show ∃ d', g_less_page (f_less_page N) [.int (m : Int), pg, .str key] A = .ok d' A ∧ _
    unfold g_less_page
    by_cases big : half m ≤ count dx
    · -- the page stays great enough
      rw [decide_eq_true big] at tst
      have sS := z6 (kx := []) (xs := [(dx, delE x.2 key)]) (.one fdx) fun e he => gx e (delE_in (by rw [ents1] at he; exact he))
      have sp := spliced_ok (m := m) (A := A) (a := a) (mid := []) (b := b) (kx := []) (l := l.map (·.1)) (ys := [x.1]) (r := r.map (·.1)) (xs := [dx]) (by rw [List.length_map]; exact hl) rfl (by rw [List.length_map]; exact hr) (by rw [List.length_append, List.length_append, List.length_map, List.length_map]; show _ + (1 + _) ≤ _; omega) (by show 1 ≤ 1000; omega) (by show 0 ≤ 1000; omega) (e := ((l.length + 1 : Nat) : Int)) (by rw [List.length_map]; rfl)
      rw [pb_one (by rw [List.length_append, List.length_append, List.length_map, List.length_map]; show _ + (1 + _) ≤ m; omega), List.length_map] at sp
      have sp : f_spliced [.int (m : Int), pg, .int (l.length : Nat), .int ((l.length + 1 : Nat) : Int), psD [dx] []] A = .ok (psD [brD (a ++ ([] ++ b)) (l.map (·.1) ++ ([dx] ++ r.map (·.1)))] []) A := by rw [hpg, map3]; exact sp
      have pe : ((l.length : Nat) : Int) + 1 = ((l.length + 1 : Nat) : Int) := by omega
      refine ⟨brD (a ++ ([] ++ b)) (l.map (·.1) ++ ([dx] ++ r.map (·.1))), ?_, ⟨_, l ++ ([(dx, delE x.2 key)] ++ r), by rw [map3]; rfl, sS, by rw [List.length_append, List.length_append]; show _ + (1 + _) ≤ m; omega, by rw [ents3, ents1], fun c h => ?_⟩, ?_⟩
      · refine fun_rt ((first _).trans (seq_rt ?_))
        have q : mCallF 5 f_spliced (mCons (mVar 0) (mCons (mVar 1) (mCons (mVar 3) (mCons (mOp fAdd (mVar 3) (mK (.int 1))) (mCons (mTup (mCons (mLst (mCons (mVar 4) (mNil))) (mCons (mLst (mNil)) (mNil)))) (mNil)))))) [some (.int (m : Int)), some pg, some (.str key), some (.int (l.length : Nat)), some dx, none, none] A = .ok (psD [brD (a ++ ([] ++ b)) (l.map (·.1) ++ ([dx] ++ r.map (·.1)))] []) A := by
          refine callF_at (A1 := A) (ds := [.int (m : Int), pg, .int (l.length : Nat), .int ((l.length + 1 : Nat) : Int), psD [dx] []]) ?_ rfl sp
          simp only [EVa, List.getElem?_cons_zero, List.getElem?_cons_succ, List.set_cons_zero, List.set_cons_succ, bind_ok, lift_ok, List.length_cons, List.length_nil, Nat.reduceAdd, Nat.reduceLeDiff, ↓reduceIte, if_true, if_false, Bool.false_eq_true, ev_raise, and_self, List.map_cons, List.map_nil, List.replicate, List.cons_append, List.nil_append, Nat.reduceSub, add_ii, pe]
          rfl
        rw [ev_ifs, tst, lift_ok, if_pos rfl, ev_ret, ev_op, ev_op, q, bind_ok]
        rfl
      · rcases List.mem_append.mp h with h | h
        · exact ok c (List.mem_append_left _ h)
        · rcases List.mem_append.mp h with h | h
          · rw [List.mem_singleton.mp h]; exact ⟨odx, big⟩
          · exact ok c (List.mem_append_right _ (List.mem_append_right _ h))
      · rw [hpg, count_b, count_b, List.length_map, cl, List.length_append, List.length_append, List.length_map, List.length_map]
        show _ ≤ _ + (1 + _) + 1
        omega
    · -- it is joined with a neighbour
      rw [decide_eq_false big] at tst
      have hcd : count dx + 1 = half m := by omega
      have cnt : ∀ {c : Ch}, Ok m n c.1 c.2 → count c.1 ≤ m := fun {c} o => by
        cases n with
        | zero =>
          have o : c.1 = leafD c.2 ∧ c.2.length ≤ m := o
          rw [o.1, count_l]
          exact o.2
        | succ n =>
          obtain ⟨ks, cs, e, _, h, _⟩ := o
          rw [e, count_b, List.length_map]
          exact h
      have pe2 : ∀ j : Nat, ((j : Nat) : Int) + 2 = ((j + 2 : Nat) : Int) := fun j => by omega
      have fin : ∀ {low : Nat} {w1 w2 d' : D} {k' : Str} {ps : List D} {kx : List Str}, ((a ++ b).map D.str)[low]? = some (.str k') → f_fused [.int (m : Int), w1, .str k', w2] A = .ok (psD ps kx) A → f_spliced [.int (m : Int), pg, .int (low : Nat), .int ((low + 2 : Nat) : Int), psD ps kx] A = .ok (psD [d'] []) A →
          (mRet (mOp fIx (mOp fIx (mCallF 5 f_spliced (mCons (mVar 0) (mCons (mVar 1) (mCons (mVar 5) (mCons (mOp fAdd (mVar 5) (mK (.int 2))) (mCons (mCallF 4 f_fused (mCons (mVar 0) (mCons (mOp fIx (mVar 6) (mK (.int 0))) (mCons (mOp fIx (mOp fIx (mVar 1) (mK (.int 1))) (mVar 5)) (mCons (mOp fIx (mVar 6) (mK (.int 1))) (mNil)))))) (mNil))))))) (mK (.int 0))) (mK (.int 0)))) [some (.int (m : Int)), some pg, some (.str key), some (.int (l.length : Nat)), some dx, some (.int (low : Nat)), some (.tup [w1, w2])] A = .rt d' A := fun {low w1 w2 d' k' ps kx} hk1 ef es => by
        have ik := ixt (A := A) hk1
        have j0 : fIx (.tup [w1, w2]) (.int 0) A = .ok w1 A := rfl
        have j1 : fIx (.tup [w1, w2]) (.int 1) A = .ok w2 A := rfl
        have q1 : mCallF 4 f_fused (mCons (mVar 0) (mCons (mOp fIx (mVar 6) (mK (.int 0))) (mCons (mOp fIx (mOp fIx (mVar 1) (mK (.int 1))) (mVar 5)) (mCons (mOp fIx (mVar 6) (mK (.int 1))) (mNil))))) [some (.int (m : Int)), some pg, some (.str key), some (.int (l.length : Nat)), some dx, some (.int (low : Nat)), some (.tup [w1, w2])] A = .ok (psD ps kx) A := by
          refine callF_at (A1 := A) (ds := [.int (m : Int), w1, .str k', w2]) ?_ rfl ef
          simp only [EVa, List.getElem?_cons_zero, List.getElem?_cons_succ, List.set_cons_zero, List.set_cons_succ, bind_ok, lift_ok, List.length_cons, List.length_nil, Nat.reduceAdd, Nat.reduceLeDiff, ↓reduceIte, if_true, if_false, Bool.false_eq_true, ev_raise, and_self, List.map_cons, List.map_nil, List.replicate, List.cons_append, List.nil_append, Nat.reduceSub, j0, j1, i1, ik]
        have q2 : mCallF 5 f_spliced (mCons (mVar 0) (mCons (mVar 1) (mCons (mVar 5) (mCons (mOp fAdd (mVar 5) (mK (.int 2))) (mCons (mCallF 4 f_fused (mCons (mVar 0) (mCons (mOp fIx (mVar 6) (mK (.int 0))) (mCons (mOp fIx (mOp fIx (mVar 1) (mK (.int 1))) (mVar 5)) (mCons (mOp fIx (mVar 6) (mK (.int 1))) (mNil)))))) (mNil)))))) [some (.int (m : Int)), some pg, some (.str key), some (.int (l.length : Nat)), some dx, some (.int (low : Nat)), some (.tup [w1, w2])] A = .ok (psD [d'] []) A := by
          refine callF_at (A1 := A) (ds := [.int (m : Int), pg, .int (low : Nat), .int ((low + 2 : Nat) : Int), psD ps kx]) ?_ rfl es
          rw [ev_cons, ev_var]
          simp only [List.getElem?_cons_zero, List.getElem?_cons_succ, bind_ok]
          rw [ev_cons, ev_var]
          simp only [List.getElem?_cons_zero, List.getElem?_cons_succ, bind_ok]
          rw [ev_cons, ev_var]
          simp only [List.getElem?_cons_zero, List.getElem?_cons_succ, bind_ok]
          rw [ev_cons, ev_op, ev_var]
          simp only [List.getElem?_cons_zero, List.getElem?_cons_succ, bind_ok, ev_K, add_ii, pe2]
          rw [ev_cons, q1, bind_ok, ev_nil]
          simp only [bind_ok]
        rw [ev_ret, ev_op, ev_op, q2, bind_ok]
        rfl
      by_cases h0 : a = []
      · -- with the next one
        subst h0
        have e0 : l = [] := List.eq_nil_of_length_eq_zero hl
        subst e0
        obtain ⟨y, r', rfl⟩ : ∃ y r', r = y :: r' := by
          cases r with
          | nil => exact absurd h2c (by show ¬ 2 ≤ 0 + (1 + 0); omega)
          | cons y r' => exact ⟨y, r', rfl⟩
        obtain ⟨k', b', rfl⟩ : ∃ k' b', b = k' :: b' := by
          cases b with
          | nil => simp at hr
          | cons k' b' => exact ⟨k', b', rfl⟩
        obtain ⟨oy, cy⟩ := ok y (by simp)
        have sj : Sep ([] ++ ([k'] ++ b')) ([] ++ ([x, y] ++ r')) := s
        have hl2 : r'.length + 2 ≤ m := by rw [List.length_cons] at hc; simp only [List.length_nil] at hc; omega
        obtain ⟨ps, kx, d', f1, f2, f3, f4⟩ := join_ok (A := A) (n := n) (z1 := (dx, delE x.2 key)) (z2 := y) h3 hm sj rfl (by show 0 + (2 + _) ≤ m; omega) (fun c h => by
          rcases h with h | h
          · cases h
          · exact ok c (by simp [h])) odx oy fdx (fun e he => delE_in he) (fun e he => he) (by
            have hs' : Srt (x.2 ++ (y.2 ++ ents r')) := hs
            rw [← List.append_assoc] at hs'
            obtain ⟨q1, q2, q3⟩ := List.pairwise_append.mp (List.pairwise_append.mp hs').1
            exact List.pairwise_append.mpr ⟨delE_srt q1, q2, fun e he e' he' => q3 e (delE_in he) e' he'⟩) (by show half m ≤ count dx + count y.1; omega) (by show count dx + count y.1 ≤ _; have := cnt oy; unfold half at hcd; omega)
        refine ⟨d', ?_, by show Ok m (n + 1) d' ([] ++ (delE x.2 key ++ ents (y :: r'))); rw [ents_cons]; rw [List.append_assoc] at f3; exact f3, by rw [hpg, count_b, List.length_map]; have : 0 + (2 + r'.length) ≤ count d' + 1 := f4; simp only [List.nil_append, List.length_append, List.length_cons, List.length_nil]; omega⟩
        have j1 : fIx (.tup pl) (.int 1) A = .ok y.1 A := ixt (j := 1) (by rw [hpl]; rfl)
        refine fun_rt ((first _).trans ?_)
        refine (seq_nx (ρ1 := [some (.int (m : Int)), some pg, some (.str key), some (.int ((0 : Nat) : Int)), some dx, none, none]) (A1 := A) ?_).trans ?_
        · rw [ev_ifs, tst, lift_ok, if_neg (by decide)]
          rfl
        refine (seq_nx (ρ1 := [some (.int (m : Int)), some pg, some (.str key), some (.int ((0 : Nat) : Int)), some dx, some (.int ((0 : Nat) : Int)), none]) (A1 := A) rfl).trans ?_
        refine (seq_nx (ρ1 := [some (.int (m : Int)), some pg, some (.str key), some (.int ((0 : Nat) : Int)), some dx, some (.int ((0 : Nat) : Int)), some (.tup [dx, y.1])]) (A1 := A) ?_).trans ?_
        · have t0 : mTst (mOp fGt (mVar 3) (mK (.int 0))) [some (.int (m : Int)), some pg, some (.str key), some (.int ((0 : Nat) : Int)), some dx, some (.int ((0 : Nat) : Int)), none] A = .ok false A := rfl
          rw [ev_set, ev_if, t0, bind_ok, if_neg (by decide)]
          simp only [EVa, List.getElem?_cons_zero, List.getElem?_cons_succ, List.set_cons_zero, List.set_cons_succ, bind_ok, lift_ok, List.length_cons, List.length_nil, Nat.reduceAdd, Nat.reduceLeDiff, ↓reduceIte, if_true, if_false, Bool.false_eq_true, ev_raise, and_self, List.map_cons, List.map_nil, List.replicate, List.cons_append, List.nil_append, Nat.reduceSub, i2, j1]
        · exact fin (low := 0) rfl f1 (by rw [hpg]; exact f2)
      · -- with the one ahead
        obtain ⟨a', k', rfl⟩ : ∃ a' k', a = a' ++ [k'] := ⟨a.dropLast, a.getLast h0, (List.dropLast_concat_getLast h0).symm⟩
        have ll : l.length = a'.length + 1 := by rw [hl, List.length_append]; rfl
        obtain ⟨l', y, rfl⟩ : ∃ l' y, l = l' ++ [y] := by
          have hne : l ≠ [] := by intro z; rw [z] at ll; simp at ll
          exact ⟨l.dropLast, l.getLast hne, (List.dropLast_concat_getLast hne).symm⟩
        have ll' : l'.length = a'.length := by rw [List.length_append] at ll; simpa using ll
        obtain ⟨oy, cy⟩ := ok y (by simp)
        have sj : Sep (a' ++ ([k'] ++ b)) (l' ++ ([y, x] ++ r)) := by
          have e1 : a' ++ ([k'] ++ b) = (a' ++ [k']) ++ ([] ++ b) := by simp
          have e2 : l' ++ ([y, x] ++ r) = (l' ++ [y]) ++ ([x] ++ r) := by simp
          rw [e1, e2]; exact s
        have lz : (l' ++ [y]).length = l'.length + 1 := by rw [List.length_append]; rfl
        rw [lz] at hc h2c
        have fy := oy.full (by omega)
        obtain ⟨ps, kx, d', f1, f2, f3, f4⟩ := join_ok (A := A) (n := n) (z1 := y) (z2 := (dx, delE x.2 key)) h3 hm sj ll' (by omega) (fun c h => by
          rcases h with h | h
          · exact ok c (by simp [h])
          · exact ok c (by simp [h])) oy odx fy (fun e he => he) (fun e he => delE_in he) (by
            rw [ents_app, ents1, List.append_assoc, ← List.append_assoc y.2] at hs
            have hs' : Srt (y.2 ++ x.2) := srt_mid hs
            obtain ⟨q1, q2, q3⟩ := List.pairwise_append.mp hs'
            exact List.pairwise_append.mpr ⟨q1, delE_srt q2, fun e he e' he' => q3 e he e' (delE_in he')⟩) (by show half m ≤ count y.1 + count dx; omega) (by show count y.1 + count dx ≤ _; have := cnt oy; unfold half at hcd; omega)
        refine ⟨d', ?_, ?_, by rw [hpg, count_b, List.length_map, cl, lz]; omega⟩
        · have e3 : (((l' ++ [y]).length : Nat) : Int) - 1 = ((l'.length : Nat) : Int) := by rw [lz]; omega
          have gt : decide ((0 : Int) < (((l' ++ [y]).length : Nat) : Int)) = true := decide_eq_true (by rw [lz]; omega)
          have hy : pl[l'.length]? = some y.1 := by rw [hpl, List.getElem?_map]; simp
          have jy := ixt (A := A) hy
          have hk' : ((a' ++ [k'] ++ b).map D.str)[l'.length]? = some (.str k') := by rw [ll', List.getElem?_map]; simp
          refine fun_rt ((first _).trans ?_)
          refine (seq_nx (ρ1 := [some (.int (m : Int)), some pg, some (.str key), some (.int ((l' ++ [y]).length : Nat)), some dx, none, none]) (A1 := A) ?_).trans ?_
          · rw [ev_ifs, tst, lift_ok, if_neg (by decide)]
            rfl
          have tg : ∀ x5 : Option D, mTst (mOp fGt (mVar 3) (mK (.int 0))) [some (.int (m : Int)), some pg, some (.str key), some (.int ((l' ++ [y]).length : Nat)), some dx, x5, none] A = .ok true A := fun x5 => by
            rw [ev_tst, ev_op, ev_var]
            simp only [List.getElem?_cons_zero, List.getElem?_cons_succ, bind_ok, ev_K, gt_ii, gt]
          refine (seq_nx (ρ1 := [some (.int (m : Int)), some pg, some (.str key), some (.int ((l' ++ [y]).length : Nat)), some dx, some (.int (l'.length : Nat)), none]) (A1 := A) ?_).trans ?_
          · rw [ev_set, ev_if, tg, bind_ok, if_pos rfl, ev_op, ev_var]
            simp only [List.getElem?_cons_zero, List.getElem?_cons_succ, bind_ok, ev_K, sub_ii, e3, lift_ok]
            rfl
          refine (seq_nx (ρ1 := [some (.int (m : Int)), some pg, some (.str key), some (.int ((l' ++ [y]).length : Nat)), some dx, some (.int (l'.length : Nat)), some (.tup [y.1, dx])]) (A1 := A) ?_).trans ?_
          · rw [ev_set, ev_if, tg, bind_ok, if_pos rfl, ev_tup, ev_cons, ev_op, ev_op, ev_var]
            simp only [List.getElem?_cons_zero, List.getElem?_cons_succ, bind_ok, ev_K, i2]
            rw [ev_var]
            simp only [List.getElem?_cons_zero, List.getElem?_cons_succ, bind_ok, jy]
            simp only [EVa, List.getElem?_cons_zero, List.getElem?_cons_succ, List.set_cons_zero, List.set_cons_succ, bind_ok, lift_ok, List.length_cons, List.length_nil, Nat.reduceAdd, Nat.reduceLeDiff, ↓reduceIte, if_true, if_false, Bool.false_eq_true, ev_raise, and_self, List.map_cons, List.map_nil, List.replicate, List.cons_append, List.nil_append, Nat.reduceSub]
          · refine fin (low := l'.length) hk' f1 ?_
            have e1 : a' ++ ([k'] ++ b) = (a' ++ [k']) ++ ([] ++ b) := by simp
            have e2 : l' ++ ([y, x] ++ r) = (l' ++ [y]) ++ ([x] ++ r) := by simp
            rw [hpg, ← e1, ← e2]
            exact f2
        · rw [ents_app, ents1, List.append_assoc, ← List.append_assoc y.2]
          exact f3
end
end TR
end
section
set_option maxHeartbeats 1000000
namespace TR
open PySem PySem.Spec PyProof.Rows L2 DM
/-! ### a root -/
def Root (m n : Nat) (d : D) (es : List En) : Prop := Ok m n d es ∧ (1 ≤ n → 2 ≤ count d)
theorem ents_len {K : Nat} : ∀ {cs : List Ch}, (∀ c ∈ cs, K ≤ c.2.length) → cs.length * K ≤ (ents cs).length
  | [], _ => by simp
  | c :: cs, h => by
    have := ents_len (cs := cs) fun z hz => h z (List.mem_cons_of_mem _ hz)
    have := h c List.mem_cons_self
    rw [ents_cons, List.length_append, List.length_cons, Nat.add_mul]
    omega
theorem deep {m : Nat} (h3 : 3 ≤ m) : ∀ (n : Nat) (d : D) (es : List En), Ok m n d es → half m ≤ count d → 2 ^ (n + 1) ≤ es.length
  | 0, d, es, o, h => by
    have o : d = leafD es ∧ es.length ≤ m := o
    rw [o.1, count_l] at h
    have : 2 ≤ half m := by unfold half; omega
    show 2 ≤ _
    omega
  | n + 1, d, es, o, h => by
    have o : ∃ ks cs, d = brD ks (cs.map (·.1)) ∧ Sep ks cs ∧ cs.length ≤ m ∧ es = ents cs ∧ ∀ c ∈ cs, Ok m n c.1 c.2 ∧ half m ≤ count c.1 := o
    obtain ⟨ks, cs, rfl, s, _, rfl, ok⟩ := o
    rw [count_b, List.length_map] at h
    have h2 : 2 ≤ half m := by unfold half; omega
    have := ents_len (K := 2 ^ (n + 1)) fun c hc => deep h3 n c.1 c.2 (ok c hc).1 (ok c hc).2
    have : 2 * 2 ^ (n + 1) ≤ cs.length * 2 ^ (n + 1) := Nat.mul_le_mul_right _ (by omega)
    rw [Nat.pow_succ]
    omega
theorem Root.deep {m n : Nat} {d : D} {es : List En} (r : Root m n d es) (h3 : 3 ≤ m) (hl : es.length ≤ 255) : n ≤ 7 := by
  obtain ⟨o, h2⟩ := r
  cases n with
  | zero => omega
  | succ n =>
    have h2 := h2 (Nat.succ_le_succ (Nat.zero_le n))
    have o : ∃ ks cs, d = brD ks (cs.map (·.1)) ∧ Sep ks cs ∧ cs.length ≤ m ∧ es = ents cs ∧ ∀ c ∈ cs, Ok m n c.1 c.2 ∧ half m ≤ count c.1 := o
    obtain ⟨ks, cs, rfl, s, _, rfl, ok⟩ := o
    rw [count_b, List.length_map] at h2
    have := ents_len (K := 2 ^ (n + 1)) fun c hc => TR.deep h3 n c.1 c.2 (ok c hc).1 (ok c hc).2
    have : 2 * 2 ^ (n + 1) ≤ cs.length * 2 ^ (n + 1) := Nat.mul_le_mul_right _ h2
    by_cases z : n + 1 ≤ 7
    · exact z
    · exfalso
      have : 2 ^ 8 ≤ 2 ^ (n + 1) := Nat.pow_le_pow_right (by decide) (by omega)
      have : (2 : Nat) ^ 8 = 256 := by decide
      omega
section
variable {m : Nat} {A : AH} {key : Str}
theorem leaf_of {n : Nat} {d : D} {es : List En} (o : Ok m n d es) : f_is_leaf [d] A = .ok (.bl (decide (n = 0))) A := by
  cases n with
  | zero =>
    have o : d = leafD es ∧ es.length ≤ m := o
    rw [o.1]; rfl
  | succ n =>
    obtain ⟨ks, cs, rfl, _⟩ := o
    rfl
theorem things_b2 {n : Nat} {d : D} {es : List En} (o : Ok m (n + 1) d es) : ∃ xs, fIx d (.int 2) A = .ok (.tup xs) A ∧ xs.length = count d := by
  obtain ⟨ks, cs, rfl, _⟩ := o
  exact ⟨cs.map (·.1), rfl, rfl⟩
theorem root_run {ps : List D} {kx : List Str} {p r : D} (h1 : mIf (mTst (mOp (fEq false) (mCall fLen (mCons (mVar 1) (mNil))) (mK (.int 1)))) (mOp fIx (mVar 1) (mK (.int 0))) (mTup (mCons (mK (.str "branch")) (mCons (mCall fTup (mCons (mVar 2) (mNil))) (mCons (mCall fTup (mCons (mVar 1) (mNil))) (mNil))))) [some (psD ps kx), some (.lst ps), some (.lst (kx.map D.str)), none] A = .ok p A)
    (h2 : mIf (mAnd (mNot (mTst (mCallF 1 f_is_leaf (mCons (mVar 3) (mNil))))) (mTst (mOp (fEq false) (mCall fLen (mCons (mOp fIx (mVar 3) (mK (.int 2))) (mNil))) (mK (.int 1))))) (mOp fIx (mOp fIx (mVar 3) (mK (.int 2))) (mK (.int 0))) (mVar 3) [some (psD ps kx), some (.lst ps), some (.lst (kx.map D.str)), some p] A = .ok r A) : f_root_of [psD ps kx] A = .ok r A := by
  unfold f_root_of
  refine fun_rt ?_
  refine (seq_nx (ρ1 := [some (psD ps kx), some (.lst ps), some (.lst (kx.map D.str)), none]) (A1 := A) rfl).trans ?_
  refine (seq_nx (ρ1 := [some (psD ps kx), some (.lst ps), some (.lst (kx.map D.str)), some p]) (A1 := A) ?_).trans ?_
  · rw [ev_set, h1, lift_ok]
    rfl
  · rw [ev_ret, h2, lift_ok]
theorem root_keep {x0 x1 x2 : Option D} {n : Nat} {p : D} {es : List En} (o : Ok m n p es) (h : 1 ≤ n → 2 ≤ count p) : mIf (mAnd (mNot (mTst (mCallF 1 f_is_leaf (mCons (mVar 3) (mNil))))) (mTst (mOp (fEq false) (mCall fLen (mCons (mOp fIx (mVar 3) (mK (.int 2))) (mNil))) (mK (.int 1))))) (mOp fIx (mOp fIx (mVar 3) (mK (.int 2))) (mK (.int 0))) (mVar 3) [x0, x1, x2, some p] A = .ok p A := by
  have il := leaf_of (A := A) o
  cases n with
  | zero =>
    have il : f_is_leaf [p] A = .ok (.bl true) A := il
    simp only [EVa, List.getElem?_cons_zero, List.getElem?_cons_succ, List.set_cons_zero, List.set_cons_succ, bind_ok, lift_ok, List.length_cons, List.length_nil, Nat.reduceAdd, Nat.reduceLeDiff, ↓reduceIte, if_true, if_false, Bool.false_eq_true, ev_raise, and_self, List.map_cons, List.map_nil, List.replicate, List.cons_append, List.nil_append, Nat.reduceSub, il, Bool.not_true]
  | succ n =>
    have il : f_is_leaf [p] A = .ok (.bl false) A := il
    obtain ⟨xs, e2, l2⟩ := things_b2 (A := A) o
    have h := h (Nat.succ_le_succ (Nat.zero_le n))
    have ln : fLen [.tup xs] A = .ok (.int (xs.length : Nat)) A := len_t
    have t0 : decide (((xs.length : Nat) : Int) = 1) = false := decide_eq_false (by omega)
    simp only [EVa, List.getElem?_cons_zero, List.getElem?_cons_succ, List.set_cons_zero, List.set_cons_succ, bind_ok, lift_ok, List.length_cons, List.length_nil, Nat.reduceAdd, Nat.reduceLeDiff, ↓reduceIte, if_true, if_false, Bool.false_eq_true, ev_raise, and_self, List.map_cons, List.map_nil, List.replicate, List.cons_append, List.nil_append, Nat.reduceSub, il, Bool.not_false, e2, ln, eq_ii, t0]
theorem root_one {n : Nat} {p : D} {es : List En} (o : Ok m n p es) (h : 1 ≤ n → 2 ≤ count p) : f_root_of [psD [p] []] A = .ok p A := root_run rfl (root_keep o h)
theorem root_two {n : Nat} {p q : D} {k : Str} {es : List En} (o : Ok m (n + 1) (brD [k] [p, q]) es) : f_root_of [psD [p, q] [k]] A = .ok (brD [k] [p, q]) A := root_run rfl (root_keep o (fun _ => by show 2 ≤ 2; omega))
/-- the only page of a root takes its place -/
theorem root_down {n : Nat} {p : D} {es : List En} (h3 : 3 ≤ m) (o : Ok m (n + 1) p es) (h : count p = 1) : ∃ d', f_root_of [psD [p] []] A = .ok d' A ∧ Root m n d' es := by
  have il : f_is_leaf [p] A = .ok (.bl false) A := leaf_of (A := A) o
  have o : ∃ ks cs, p = brD ks (cs.map (·.1)) ∧ Sep ks cs ∧ cs.length ≤ m ∧ es = ents cs ∧ ∀ c ∈ cs, Ok m n c.1 c.2 ∧ half m ≤ count c.1 := o
  obtain ⟨ks, cs, rfl, s, _, rfl, ok⟩ := o
  rw [count_b, List.length_map] at h
  obtain ⟨c, rfl⟩ : ∃ c, cs = [c] := by
    match cs, h with
    | [c], _ => exact ⟨c, rfl⟩
  obtain ⟨oc, hc⟩ := ok c List.mem_cons_self
  refine ⟨c.1, root_run rfl ?_, by rw [ents1]; exact oc, fun _ => by unfold half at hc; omega⟩
  have e2 : fIx (brD ks ([c].map (fun x : Ch => x.1))) (.int 2) A = .ok (.tup [c.1]) A := rfl
  have ln : fLen [.tup [c.1]] A = .ok (.int 1) A := rfl
  have e0 : fIx (.tup [c.1]) (.int 0) A = .ok c.1 A := rfl
  generalize brD ks ([c].map (fun x : Ch => x.1)) = pg at il e2
  simp only [EVa, List.getElem?_cons_zero, List.getElem?_cons_succ, List.set_cons_zero, List.set_cons_succ, bind_ok, lift_ok, List.length_cons, List.length_nil, Nat.reduceAdd, Nat.reduceLeDiff, ↓reduceIte, if_true, if_false, Bool.false_eq_true, ev_raise, and_self, List.map_cons, List.map_nil, List.replicate, List.cons_append, List.nil_append, Nat.reduceSub, il, Bool.not_false, e2, ln, eq_ii, decide_true, e0]
theorem with_ok {n : Nat} {d v : D} {es : List En} (h3 : 3 ≤ m) (hm : m ≤ 16) (r : Root m n d es) (hs : Srt es) (hl : es.length ≤ 255) : ∃ n' d', f_with_entry [.int (m : Int), d, .str key, v] A = .ok d' A ∧ Root m n' d' (insE es key v) := by
  have hn := r.deep h3 hl
  obtain ⟨ps, kx, e, xs, rfl, sx, ex, ok, cx⟩ := put_ok (A := A) (key := key) (v := v) h3 hm n 9 d es (by omega) r.1 hs
  have run : ∀ {d' : D}, f_root_of [psD (xs.map (·.1)) kx] A = .ok d' A → f_with_entry [.int (m : Int), d, .str key, v] A = .ok d' A := fun {d'} h => by
    have q : mCallF 4 (f_put_pieces 9) (mCons (mVar 0) (mCons (mVar 1) (mCons (mVar 2) (mCons (mVar 3) (mNil))))) [some (.int (m : Int)), some d, some (.str key), some v] A = .ok (psD (xs.map (·.1)) kx) A := callF_at (A1 := A) (ds := [.int (m : Int), d, .str key, v]) rfl rfl e
    have q2 : mCallF 1 f_root_of (mCons (mCallF 4 (f_put_pieces 9) (mCons (mVar 0) (mCons (mVar 1) (mCons (mVar 2) (mCons (mVar 3) (mNil)))))) (mNil)) [some (.int (m : Int)), some d, some (.str key), some v] A = .ok d' A := by
      refine callF_at (A1 := A) (ds := [psD (xs.map (·.1)) kx]) ?_ rfl h
      rw [ev_cons, q, bind_ok, ev_nil]
      rfl
    unfold f_with_entry
    refine fun_rt ?_
    rw [ev_ret]
    exact (congrArg (fun z => lift z _ _) q2).trans rfl
  rw [ex]
  rcases cx with ⟨h1, hc⟩ | ⟨h1, hc⟩
  · obtain ⟨x, rfl⟩ : ∃ x, xs = [x] := by
      match xs, h1 with
      | [x], _ => exact ⟨x, rfl⟩
    have k0 : kx = [] := by have := sx.len; simpa using this
    subst k0
    have ox := ok x List.mem_cons_self
    have hx : 1 ≤ n → 2 ≤ count x.1 := fun h => Nat.le_trans (r.2 h) (hc x List.mem_cons_self)
    rw [ents1]
    exact ⟨n, x.1, run (root_one ox hx), ox, hx⟩
  · obtain ⟨x, y, rfl⟩ : ∃ x y, xs = [x, y] := by
      match xs, h1 with
      | [x, y], _ => exact ⟨x, y, rfl⟩
    obtain ⟨k, rfl⟩ : ∃ k, kx = [k] := by
      have := sx.len
      match kx, this with
      | [k], _ => exact ⟨k, rfl⟩
    have o2 : Ok m (n + 1) (brD [k] [x.1, y.1]) (ents [x, y]) := ⟨[k], [x, y], rfl, sx, by show 2 ≤ m; omega, rfl, fun c h => ⟨ok c h, hc c h⟩⟩
    exact ⟨n + 1, brD [k] [x.1, y.1], run (root_two o2), o2, fun _ => by show 2 ≤ 2; omega⟩
theorem without_ok {n : Nat} {d : D} {es : List En} (h3 : 3 ≤ m) (hm : m ≤ 16) (r : Root m n d es) (hs : Srt es) (hl : es.length ≤ 255) (hk : ∃ v, (key, v) ∈ es) : ∃ n' d', f_without_entry [.int (m : Int), d, .str key] A = .ok d' A ∧ Root m n' d' (delE es key) := by
  have hn := r.deep h3 hl
  obtain ⟨p, e, op, cp⟩ := less_ok (A := A) (key := key) h3 hm n 9 d es (by omega) r.1 hs hk r.2
  have run : ∀ {d' : D}, f_root_of [psD [p] []] A = .ok d' A → f_without_entry [.int (m : Int), d, .str key] A = .ok d' A := fun {d'} h => by
    have q : mCallF 3 (f_less_page 9) (mCons (mVar 0) (mCons (mVar 1) (mCons (mVar 2) (mNil)))) [some (.int (m : Int)), some d, some (.str key)] A = .ok p A := callF_at (A1 := A) (ds := [.int (m : Int), d, .str key]) rfl rfl e
    have q2 : mCallF 1 f_root_of (mCons (mTup (mCons (mLst (mCons (mCallF 3 (f_less_page 9) (mCons (mVar 0) (mCons (mVar 1) (mCons (mVar 2) (mNil))))) (mNil))) (mCons (mLst (mNil)) (mNil)))) (mNil)) [some (.int (m : Int)), some d, some (.str key)] A = .ok d' A := by
      refine callF_at (A1 := A) (ds := [psD [p] []]) ?_ rfl h
      rw [ev_cons, ev_tup, ev_cons, ev_lst, ev_cons, q, bind_ok, ev_nil]
      rfl
    unfold f_without_entry
    refine fun_rt ?_
    rw [ev_ret]
    exact (congrArg (fun z => lift z _ _) q2).trans rfl
  by_cases hp : 1 ≤ n → 2 ≤ count p
  · exact ⟨n, p, run (root_one op hp), op, hp⟩
  · cases n with
    | zero => exact absurd (fun h => absurd h (by omega)) hp
    | succ n =>
      have h2 := r.2 (Nat.succ_le_succ (Nat.zero_le n))
      have hc : count p = 1 := by
        by_cases z : 2 ≤ count p
        · exact absurd (fun _ => z) hp
        · omega
      obtain ⟨d', e2, r2⟩ := root_down (A := A) h3 op hc
      exact ⟨n, d', run e2, r2⟩
end
end TR
end
section
set_option maxHeartbeats 1000000
namespace TR
open PySem PySem.Spec PyProof.Rows L2 DM
theorem Ok.small {m n : Nat} {d : D} {es : List En} (o : Ok m n d es) : count d ≤ m := by
  cases n with
  | zero =>
    have o : d = leafD es ∧ es.length ≤ m := o
    rw [o.1, count_l]; exact o.2
  | succ n =>
    obtain ⟨ks, cs, rfl, _, h, _⟩ := o
    rw [count_b, List.length_map]; exact h
section
variable {m : Nat} {A : AH} {key : Str}
theorem gt_int {a b : Int} : fGt (.int a) (.int b) A = .ok (.bl (decide (b < a))) A := rfl
theorem not_leaf {pg : D} {R : DM.Env} {k : Bool} (il : f_is_leaf [pg] A = .ok (.bl k) A) : mNot (mTst (mCallF 1 f_is_leaf (mCons (mVar 0) (mNil)))) (some pg :: R) A = .ok (!k) A := by
  simp only [EVa, List.getElem?_cons_zero, List.getElem?_cons_succ, List.set_cons_zero, List.set_cons_succ, bind_ok, lift_ok, List.length_cons, List.length_nil, Nat.reduceAdd, Nat.reduceLeDiff, ↓reduceIte, if_true, if_false, Bool.false_eq_true, ev_raise, and_self, List.map_cons, List.map_nil, List.replicate, List.cons_append, List.nil_append, Nat.reduceSub, il]
/-- the leaf that a key leads to; what stands behind and ahead of it, as the walks find them -/
theorem walk (hm : m ≤ 16) (h3 : 3 ≤ m) : ∀ (n : Nat) (d : D) (es : List En), Ok m n d es → ∃ e1 e2 e3, es = e1 ++ (e2 ++ e3) ∧ (∀ e ∈ e1, sLt e.1 key) ∧ (∀ e ∈ e3, sLt key e.1) ∧ e2.length ≤ m ∧
    Wh t_leaf_for1 b_leaf_for1 [some d, some (.str key)] A (.nx [some (leafD e2), some (.str key)] A) ∧
    (∀ x2 x3 x4 : Option D, ∃ y3 y4, Wh t_behind_of1 b_behind_of1 [some d, some (.str key), x2, x3, x4] A (.nx [some (leafD e2), some (.str key), x2, y3, y4] A) ∧ ((y3 = x3 ∧ e3 = []) ∨ ∃ f nf ef post, y3 = some f ∧ Ok m nf f ef ∧ ef ≠ [] ∧ e3 = ef ++ post)) ∧
    (∀ x2 x3 x4 x5 : Option D, ∃ y4 y5, Wh t_before1 b_before1 [some d, some (.str key), x2, x3, x4, x5] A (.nx [some (leafD e2), some (.str key), x2, x3, y4, y5] A) ∧ ((y4 = x4 ∧ e1 = []) ∨ ∃ f nf ef pre, y4 = some f ∧ Ok m nf f ef ∧ ef ≠ [] ∧ e1 = pre ++ ef))
  | 0, d, es, o => by
    have o : d = leafD es ∧ es.length ≤ m := o
    obtain ⟨rfl, hl⟩ := o
    have il := is_leaf_l (A := A) (es := es)
    exact ⟨[], es, [], by simp, (fun e he => nomatch he), (fun e he => nomatch he), hl, Wh.stop (not_leaf il), fun x2 x3 x4 => ⟨x3, x4, Wh.stop (not_leaf il), .inl ⟨rfl, rfl⟩⟩, fun x2 x3 x4 x5 => ⟨x4, x5, Wh.stop (not_leaf il), .inl ⟨rfl, rfl⟩⟩⟩
  | n + 1, d, es, o => by
    have o : ∃ ks cs, d = brD ks (cs.map (·.1)) ∧ Sep ks cs ∧ cs.length ≤ m ∧ es = ents cs ∧ ∀ c ∈ cs, Ok m n c.1 c.2 ∧ half m ≤ count c.1 := o
    obtain ⟨ks, cs, rfl, s, hc, rfl, ok⟩ := o
    obtain ⟨a, b, l, x, r, rfl, rfl, hl, hr, ha, hb, gl, gr, gx⟩ := s.find (key := key)
    obtain ⟨okx, hcx⟩ := ok x (List.mem_append_right _ (List.mem_append_left _ List.mem_cons_self))
    have half2 : 2 ≤ half m := by unfold half; omega
    obtain ⟨e1, e2, e3, ee, g1, g3, g2, w1, w2, w3⟩ := walk hm h3 n x.1 x.2 okx
    have cl : (l ++ ([x] ++ r)).length = l.length + (1 + r.length) := by rw [List.length_append, List.length_append]; rfl
    rw [cl] at hc
    have ch := child_ok (A := A) (key := key) (a := a) (b := b) ha (fun k hk => not_le (hb k hk)) (by rw [List.length_append]; omega)
    rw [← hl] at ch
    have i1 : fIx (brD (a ++ ([] ++ b)) ((l ++ ([x] ++ r)).map (·.1))) (.int 1) A = .ok (.tup ((a ++ b).map D.str)) A := rfl
    have i2 : fIx (brD (a ++ ([] ++ b)) ((l ++ ([x] ++ r)).map (·.1))) (.int 2) A = .ok (.tup ((l ++ ([x] ++ r)).map (·.1))) A := rfl
    have hx : ((l ++ ([x] ++ r)).map (·.1))[l.length]? = some x.1 := by rw [List.getElem?_map]; simp
    have ix := ixt (A := A) hx
    have il := is_leaf_b (A := A) (ks := a ++ ([] ++ b)) (ps := (l ++ ([x] ++ r)).map (·.1))
    have nl := fun R => not_leaf (R := R) il
    obtain ⟨pg, hpg⟩ : ∃ pg, pg = brD (a ++ ([] ++ b)) ((l ++ ([x] ++ r)).map (·.1)) := ⟨_, rfl⟩
    obtain ⟨pl, hpl⟩ : ∃ pl, pl = (l ++ ([x] ++ r)).map (fun c : Ch => c.1) := ⟨_, rfl⟩
    rw [← hpg] at i1 i2 nl
    rw [← hpl] at i2 ix
    rw [← hpg]
    refine ⟨ents l ++ e1, e2, e3 ++ ents r, by rw [ents3, ents1, ee]; simp only [List.append_assoc], fun e he => ?_, fun e he => ?_, g2, ?_, fun x2 x3 x4 => ?_, fun x2 x3 x4 x5 => ?_⟩
    · rcases List.mem_append.mp he with h | h
      · exact gl e h
      · exact g1 e h
    · rcases List.mem_append.mp he with h | h
      · exact g3 e h
      · exact gr e h
    · refine Wh.next (ρ2 := [some x.1, some (.str key)]) (nl _) ?_ w1
      unfold b_leaf_for1
      simp only [EVa, List.getElem?_cons_zero, List.getElem?_cons_succ, List.set_cons_zero, List.set_cons_succ, bind_ok, lift_ok, List.length_cons, List.length_nil, Nat.reduceAdd, Nat.reduceLeDiff, ↓reduceIte, if_true, if_false, Bool.false_eq_true, ev_raise, and_self, List.map_cons, List.map_nil, List.replicate, List.cons_append, List.nil_append, Nat.reduceSub, i1, i2, ch, ix]
    · have fst : ∀ kt : MS, mSeq (mSet 4 (mCallF 2 f_child_number (mCons (mOp fIx (mVar 0) (mK (.int 1))) (mCons (mVar 1) (mNil))))) kt [some pg, some (.str key), x2, x3, x4] A = kt [some pg, some (.str key), x2, x3, some (.int (l.length : Nat))] A := fun kt => by
        refine seq_nx ?_
        simp only [EVa, List.getElem?_cons_zero, List.getElem?_cons_succ, List.set_cons_zero, List.set_cons_succ, bind_ok, lift_ok, List.length_cons, List.length_nil, Nat.reduceAdd, Nat.reduceLeDiff, ↓reduceIte, if_true, if_false, Bool.false_eq_true, ev_raise, and_self, List.map_cons, List.map_nil, List.replicate, List.cons_append, List.nil_append, Nat.reduceSub, i1, ch]
      have lnk : fLen [.tup ((a ++ b).map D.str)] A = .ok (.int ((a ++ b).length : Nat)) A := by rw [len_t, List.length_map]
      cases r with
      | nil =>
        have hb0 : b = [] := List.eq_nil_of_length_eq_zero (by rw [← hr]; rfl)
        obtain ⟨y3, y4, w, h⟩ := w2 x2 x3 (some (.int (l.length : Nat)))
        refine ⟨y3, y4, Wh.next (ρ2 := [some x.1, some (.str key), x2, x3, some (.int (l.length : Nat))]) (nl _) ?_ w, ?_⟩
        · have t0 : decide (((l.length : Nat) : Int) < (((a ++ b).length : Nat) : Int)) = false := decide_eq_false (by rw [hb0, List.append_nil]; omega)
          unfold b_behind_of1
          refine (fst _).trans ?_
          refine (seq_nx (ρ1 := [some pg, some (.str key), x2, x3, some (.int (l.length : Nat))]) (A1 := A) ?_).trans ?_
          · simp only [EVa, List.getElem?_cons_zero, List.getElem?_cons_succ, List.set_cons_zero, List.set_cons_succ, bind_ok, lift_ok, List.length_cons, List.length_nil, Nat.reduceAdd, Nat.reduceLeDiff, ↓reduceIte, if_true, if_false, Bool.false_eq_true, ev_raise, and_self, List.map_cons, List.map_nil, List.replicate, List.cons_append, List.nil_append, Nat.reduceSub, i1, lnk, lt_ii, t0]
          · simp only [EVa, List.getElem?_cons_zero, List.getElem?_cons_succ, List.set_cons_zero, List.set_cons_succ, bind_ok, lift_ok, List.length_cons, List.length_nil, Nat.reduceAdd, Nat.reduceLeDiff, ↓reduceIte, if_true, if_false, Bool.false_eq_true, ev_raise, and_self, List.map_cons, List.map_nil, List.replicate, List.cons_append, List.nil_append, Nat.reduceSub, i2, ix]
        · rw [ents_nil, List.append_nil]
          exact h
      | cons y r =>
        obtain ⟨y3, y4, w, h⟩ := w2 x2 (some y.1) (some (.int (l.length : Nat)))
        obtain ⟨oy, cy⟩ := ok y (List.mem_append_right _ (List.mem_append_right _ List.mem_cons_self))
        refine ⟨y3, y4, Wh.next (ρ2 := [some x.1, some (.str key), x2, some y.1, some (.int (l.length : Nat))]) (nl _) ?_ w, .inr ?_⟩
        · have t0 : decide (((l.length : Nat) : Int) < (((a ++ b).length : Nat) : Int)) = true := decide_eq_true (by rw [List.length_append]; rw [List.length_cons] at hr; omega)
          have pe : ((l.length : Nat) : Int) + 1 = ((l.length + 1 : Nat) : Int) := by omega
          have hy : pl[l.length + 1]? = some y.1 := by rw [hpl, List.getElem?_map]; simp
          have iy := ixt (A := A) hy
          unfold b_behind_of1
          refine (fst _).trans ?_
          refine (seq_nx (ρ1 := [some pg, some (.str key), x2, some y.1, some (.int (l.length : Nat))]) (A1 := A) ?_).trans ?_
          · simp only [EVa, List.getElem?_cons_zero, List.getElem?_cons_succ, List.set_cons_zero, List.set_cons_succ, bind_ok, lift_ok, List.length_cons, List.length_nil, Nat.reduceAdd, Nat.reduceLeDiff, ↓reduceIte, if_true, if_false, Bool.false_eq_true, ev_raise, and_self, List.map_cons, List.map_nil, List.replicate, List.cons_append, List.nil_append, Nat.reduceSub, i1, lnk, lt_ii, t0, i2, add_ii, pe, iy]
          · simp only [EVa, List.getElem?_cons_zero, List.getElem?_cons_succ, List.set_cons_zero, List.set_cons_succ, bind_ok, lift_ok, List.length_cons, List.length_nil, Nat.reduceAdd, Nat.reduceLeDiff, ↓reduceIte, if_true, if_false, Bool.false_eq_true, ev_raise, and_self, List.map_cons, List.map_nil, List.replicate, List.cons_append, List.nil_append, Nat.reduceSub, i2, ix]
        · rcases h with ⟨rfl, rfl⟩ | ⟨f, nf, ef, post, h1, h2, h3, h4⟩
          · exact ⟨y.1, n, y.2, ents r, rfl, oy, oy.full (by omega), rfl⟩
          · exact ⟨f, nf, ef, post ++ ents (y :: r), h1, h2, h3, by rw [h4, List.append_assoc]⟩
    · have fst : ∀ kt : MS, mSeq (mSet 5 (mCallF 2 f_child_number (mCons (mOp fIx (mVar 0) (mK (.int 1))) (mCons (mVar 1) (mNil))))) kt [some pg, some (.str key), x2, x3, x4, x5] A = kt [some pg, some (.str key), x2, x3, x4, some (.int (l.length : Nat))] A := fun kt => by
        refine seq_nx ?_
        simp only [EVa, List.getElem?_cons_zero, List.getElem?_cons_succ, List.set_cons_zero, List.set_cons_succ, bind_ok, lift_ok, List.length_cons, List.length_nil, Nat.reduceAdd, Nat.reduceLeDiff, ↓reduceIte, if_true, if_false, Bool.false_eq_true, ev_raise, and_self, List.map_cons, List.map_nil, List.replicate, List.cons_append, List.nil_append, Nat.reduceSub, i1, ch]
      by_cases hl0 : l = []
      · subst hl0
        obtain ⟨y4, y5, w, h⟩ := w3 x2 x3 x4 (some (.int ((0 : Nat) : Int)))
        refine ⟨y4, y5, Wh.next (ρ2 := [some x.1, some (.str key), x2, x3, x4, some (.int ((0 : Nat) : Int))]) (nl _) ?_ w, ?_⟩
        · unfold b_before1
          refine (fst _).trans ?_
          refine (seq_nx (ρ1 := [some pg, some (.str key), x2, x3, x4, some (.int ((0 : Nat) : Int))]) (A1 := A) rfl).trans ?_
          have ix : fIx (.tup pl) (.int ((0 : Nat) : Int)) A = .ok x.1 A := ix
          rw [ev_set, ev_op, ev_op, ev_var]
          simp only [List.getElem?_cons_zero, List.getElem?_cons_succ, bind_ok, ev_K, i2]
          rw [ev_var]
          simp only [List.getElem?_cons_zero, List.getElem?_cons_succ, bind_ok, ix, lift_ok]
          rfl
        · rw [ents_nil, List.nil_append]
          exact h
      · obtain ⟨l', y, rfl⟩ : ∃ l' y, l = l' ++ [y] := ⟨l.dropLast, l.getLast hl0, (List.dropLast_concat_getLast hl0).symm⟩
        have lz : (l' ++ [y]).length = l'.length + 1 := by rw [List.length_append]; rfl
        obtain ⟨oy, cy⟩ := ok y (by simp)
        obtain ⟨y4, y5, w, h⟩ := w3 x2 x3 (some y.1) (some (.int ((l' ++ [y]).length : Nat)))
        refine ⟨y4, y5, Wh.next (ρ2 := [some x.1, some (.str key), x2, x3, some y.1, some (.int ((l' ++ [y]).length : Nat))]) (nl _) ?_ w, .inr ?_⟩
        · have t0 : decide ((0 : Int) < (((l' ++ [y]).length : Nat) : Int)) = true := decide_eq_true (by omega)
          have pe : (((l' ++ [y]).length : Nat) : Int) - 1 = ((l'.length : Nat) : Int) := by omega
          have hy : pl[l'.length]? = some y.1 := by rw [hpl, List.getElem?_map]; simp
          have iy := ixt (A := A) hy
          obtain ⟨ll, hll⟩ : ∃ ll, ll = (l' ++ [y]).length := ⟨_, rfl⟩
          rw [← hll] at t0 pe ix fst ⊢
          unfold b_before1
          refine (fst _).trans ?_
          refine (seq_nx (ρ1 := [some pg, some (.str key), x2, x3, some y.1, some (.int (ll : Nat))]) (A1 := A) ?_).trans ?_
          · simp only [EVa, List.getElem?_cons_zero, List.getElem?_cons_succ, List.set_cons_zero, List.set_cons_succ, bind_ok, lift_ok, List.length_cons, List.length_nil, Nat.reduceAdd, Nat.reduceLeDiff, ↓reduceIte, if_true, if_false, Bool.false_eq_true, ev_raise, and_self, List.map_cons, List.map_nil, List.replicate, List.cons_append, List.nil_append, Nat.reduceSub, gt_int, t0, i2, sub_ii, pe, iy]
          · simp only [EVa, List.getElem?_cons_zero, List.getElem?_cons_succ, List.set_cons_zero, List.set_cons_succ, bind_ok, lift_ok, List.length_cons, List.length_nil, Nat.reduceAdd, Nat.reduceLeDiff, ↓reduceIte, if_true, if_false, Bool.false_eq_true, ev_raise, and_self, List.map_cons, List.map_nil, List.replicate, List.cons_append, List.nil_append, Nat.reduceSub, i2, ix]
        · rcases h with ⟨rfl, rfl⟩ | ⟨f, nf, ef, pre, h1, h2, h3, h4⟩
          · exact ⟨y.1, n, y.2, ents l', rfl, oy, oy.full (by omega), by rw [List.append_nil, ents_app, ents1]⟩
          · exact ⟨f, nf, ef, ents (l' ++ [y]) ++ pre, h1, h2, h3, by rw [h4, List.append_assoc]⟩
def enO : Option En → D
  | some e => enD e
  | none => .non
def getE (es : List En) (k : Str) : Option En := es.find? fun e => decide (e.1 = k)
def nextE (es : List En) (k : Str) : Option En := es.find? fun e => decide (sLt k e.1)
def prevE (es : List En) (k : Str) : Option En := (es.filter fun e => decide (sLt e.1 k)).getLast?
theorem leaf_run {e2 : List En} {d : D} (w : Wh t_leaf_for1 b_leaf_for1 [some d, some (.str key)] A (.nx [some (leafD e2), some (.str key)] A)) : f_leaf_for [d, .str key] A = .ok (leafD e2) A := by
  unfold f_leaf_for
  refine fun_rt ?_
  refine (seq_nx (w.run (by simp))).trans ?_
  simp only [EVa, List.getElem?_cons_zero, List.getElem?_cons_succ, List.set_cons_zero, List.set_cons_succ, bind_ok, lift_ok, List.length_cons, List.length_nil, Nat.reduceAdd, Nat.reduceLeDiff, ↓reduceIte, if_true, if_false, Bool.false_eq_true, ev_raise, and_self, List.map_cons, List.map_nil, List.replicate, List.cons_append, List.nil_append, Nat.reduceSub]
theorem find_no {p : En → Bool} {l : List En} (h : ∀ e ∈ l, p e = false) : l.find? p = none := List.find?_eq_none.mpr fun e he => by rw [h e he]; decide
theorem entry_at {n : Nat} {d : D} {es : List En} (h3 : 3 ≤ m) (hm : m ≤ 16) (o : Ok m n d es) (hs : Srt es) : f_entry_of [d, .str key] A = .ok (enO (getE es key)) A := by
  obtain ⟨e1, e2, e3, ee, g1, g3, g2, w1, _, _⟩ := walk (A := A) (key := key) hm h3 n d es o
  have lf := leaf_run w1
  have hs2 : Srt e2 := srt_mid (ee ▸ hs)
  have g : getE es key = getE e2 key := by
    unfold getE
    rw [ee, List.find?_append, List.find?_append, find_no (l := e1) fun e he => decide_eq_false fun z => lt_ir (a := key) (by have := g1 e he; rw [z] at this; exact this), find_no (l := e3) fun e he => decide_eq_false fun z => lt_ir (a := key) (by have := g3 e he; rw [z] at this; exact this)]
    simp
  rw [g]
  obtain ⟨a, b, e, p1, p2, p3, p4⟩ := srt_cut (k := key) hs2
  have en := entry_ok (A := A) p1 p2 (by rw [← e]; omega)
  rw [← e] at en
  have ln : fLen [.tup (e2.map enD)] A = .ok (.int (e2.length : Nat)) A := by rw [len_t, List.length_map]
  have hle : e2.length = a.length + b.length := by rw [← List.length_append, ← e]
  have i1 : fIx (leafD e2) (.int 1) A = .ok (.tup (e2.map enD)) A := rfl
  unfold f_entry_of
  refine fun_rt ?_
  refine (seq_nx (ρ1 := [some d, some (.str key), some (.tup (e2.map enD)), none]) (A1 := A) ?_).trans ?_
  · simp only [EVa, List.getElem?_cons_zero, List.getElem?_cons_succ, List.set_cons_zero, List.set_cons_succ, bind_ok, lift_ok, List.length_cons, List.length_nil, Nat.reduceAdd, Nat.reduceLeDiff, ↓reduceIte, if_true, if_false, Bool.false_eq_true, ev_raise, and_self, List.map_cons, List.map_nil, List.replicate, List.cons_append, List.nil_append, Nat.reduceSub, lf, i1]
  refine (seq_nx (ρ1 := [some d, some (.str key), some (.tup (e2.map enD)), some (.int (a.length : Nat))]) (A1 := A) ?_).trans ?_
  · simp only [EVa, List.getElem?_cons_zero, List.getElem?_cons_succ, List.set_cons_zero, List.set_cons_succ, bind_ok, lift_ok, List.length_cons, List.length_nil, Nat.reduceAdd, Nat.reduceLeDiff, ↓reduceIte, if_true, if_false, Bool.false_eq_true, ev_raise, and_self, List.map_cons, List.map_nil, List.replicate, List.cons_append, List.nil_append, Nat.reduceSub, en]
  have na : a.find? (fun e => decide (e.1 = key)) = none := find_no fun e he => decide_eq_false fun z => lt_ir (a := key) (by have := p1 e he; rw [z] at this; exact this)
  rcases p4 with ⟨p4, p5⟩ | ⟨w, b', eb, p4, p5⟩
  · have gn : getE e2 key = none := by
      unfold getE
      rw [e, List.find?_append, na, find_no (l := b) fun e he => decide_eq_false fun z => lt_ir (a := key) (by have := p5 e he; rw [z] at this; exact this)]
      rfl
    rw [gn]
    cases hb : b with
    | nil =>
      have t0 : decide (((a.length : Nat) : Int) < ((e2.length : Nat) : Int)) = false := decide_eq_false (by rw [hle, hb]; show ¬ ((a.length : Nat) : Int) < ((a.length + 0 : Nat) : Int); omega)
      simp only [EVa, List.getElem?_cons_zero, List.getElem?_cons_succ, List.set_cons_zero, List.set_cons_succ, bind_ok, lift_ok, List.length_cons, List.length_nil, Nat.reduceAdd, Nat.reduceLeDiff, ↓reduceIte, if_true, if_false, Bool.false_eq_true, ev_raise, and_self, List.map_cons, List.map_nil, List.replicate, List.cons_append, List.nil_append, Nat.reduceSub, ln, lt_ii, t0]
      rfl
    | cons x b'' =>
      have hx : (e2.map enD)[a.length]? = some (enD x) := by rw [e, hb, List.getElem?_map]; simp
      have ix := ixt (A := A) hx
      have ix0 : fIx (enD x) (.int 0) A = .ok (.str x.1) A := rfl
      have t0 : decide (((a.length : Nat) : Int) < ((e2.length : Nat) : Int)) = true := decide_eq_true (by rw [hle, hb, List.length_cons]; omega)
      have nx : x.1 ≠ key := fun z => by
        have := p5 x (by rw [hb]; exact List.mem_cons_self)
        rw [z] at this
        exact lt_ir this
      have eq : fEq false (.str x.1) (.str key) A = .ok (.bl false) A := by rw [eq_ss, decide_eq_false nx]; rfl
      simp only [EVa, List.getElem?_cons_zero, List.getElem?_cons_succ, List.set_cons_zero, List.set_cons_succ, bind_ok, lift_ok, List.length_cons, List.length_nil, Nat.reduceAdd, Nat.reduceLeDiff, ↓reduceIte, if_true, if_false, Bool.false_eq_true, ev_raise, and_self, List.map_cons, List.map_nil, List.replicate, List.cons_append, List.nil_append, Nat.reduceSub, ln, lt_ii, t0, ix, ix0, eq]
      rfl
  · have gs : getE e2 key = some (key, w) := by
      unfold getE
      rw [e, List.find?_append, na, eb, List.find?_cons_of_pos (by simp)]
      rfl
    rw [gs]
    have hx : (e2.map enD)[a.length]? = some (enD (key, w)) := by rw [e, eb, List.getElem?_map]; simp
    have ix := ixt (A := A) hx
    have ix0 : fIx (enD (key, w)) (.int 0) A = .ok (.str key) A := rfl
    have t0 : decide (((a.length : Nat) : Int) < ((e2.length : Nat) : Int)) = true := decide_eq_true (by rw [hle, eb, List.length_cons]; omega)
    have eq : fEq false (.str key) (.str key) A = .ok (.bl true) A := by rw [eq_ss, decide_eq_true rfl]; rfl
    simp only [EVa, List.getElem?_cons_zero, List.getElem?_cons_succ, List.set_cons_zero, List.set_cons_succ, bind_ok, lift_ok, List.length_cons, List.length_nil, Nat.reduceAdd, Nat.reduceLeDiff, ↓reduceIte, if_true, if_false, Bool.false_eq_true, ev_raise, and_self, List.map_cons, List.map_nil, List.replicate, List.cons_append, List.nil_append, Nat.reduceSub, ln, lt_ii, t0, ix, ix0, eq]
    rfl
theorem has_at {n : Nat} {d : D} {es : List En} (h3 : 3 ≤ m) (hm : m ≤ 16) (o : Ok m n d es) (hs : Srt es) : f_has [d, .str key] A = .ok (.bl (getE es key).isSome) A := by
  have e := entry_at (A := A) (key := key) h3 hm o hs
  have q : fIsN true (enO (getE es key)) .non A = .ok (.bl (getE es key).isSome) A := by cases getE es key <;> rfl
  unfold f_has
  refine fun_rt ?_
  simp only [EVa, List.getElem?_cons_zero, List.getElem?_cons_succ, List.set_cons_zero, List.set_cons_succ, bind_ok, lift_ok, List.length_cons, List.length_nil, Nat.reduceAdd, Nat.reduceLeDiff, ↓reduceIte, if_true, if_false, Bool.false_eq_true, ev_raise, and_self, List.map_cons, List.map_nil, List.replicate, List.cons_append, List.nil_append, Nat.reduceSub, e, q]
end
end TR
end
section
set_option maxHeartbeats 1000000
namespace TR
open PySem PySem.Spec PyProof.Rows L2 DM
section
variable {m : Nat} {A : AH} {key : Str}
/-! ### the first and the last entry -/
theorem first_go : ∀ (n : Nat) (d : D) (es : List En), Ok m n d es → ∃ e2 e3, es = e2 ++ e3 ∧ (es ≠ [] → e2 ≠ []) ∧ Wh t_first1 b_first1 [some d] A (.nx [some (leafD e2)] A)
  | 0, d, es, o => by
    have o : d = leafD es ∧ es.length ≤ m := o
    obtain ⟨rfl, hl⟩ := o
    exact ⟨es, [], by simp, id, Wh.stop (not_leaf (is_leaf_l (A := A) (es := es)))⟩
  | n + 1, d, es, o => by
    have o : ∃ ks cs, d = brD ks (cs.map (·.1)) ∧ Sep ks cs ∧ cs.length ≤ m ∧ es = ents cs ∧ ∀ c ∈ cs, Ok m n c.1 c.2 ∧ half m ≤ count c.1 := o
    obtain ⟨ks, cs, rfl, s, hc, rfl, ok⟩ := o
    obtain ⟨c, r, rfl⟩ : ∃ c r, cs = c :: r := by
      cases cs with
      | nil => have := s.len; simp at this
      | cons c r => exact ⟨c, r, rfl⟩
    obtain ⟨e2, e3, e, h, w⟩ := first_go n c.1 c.2 (ok c List.mem_cons_self).1
    refine ⟨e2, e3 ++ ents r, by rw [ents_cons, e, List.append_assoc], fun _ => h (s.full c List.mem_cons_self), Wh.next (ρ2 := [some c.1]) (not_leaf (R := []) (is_leaf_b (A := A) (ks := ks) (ps := (c :: r).map (·.1)))) ?_ w⟩
    have i2 : fIx (brD ks ((c :: r).map (fun x : Ch => x.1))) (.int 2) A = .ok (.tup ((c :: r).map (fun x : Ch => x.1))) A := rfl
    have i0 : fIx (.tup ((c :: r).map (fun x : Ch => x.1))) (.int 0) A = .ok c.1 A := ixt (j := 0) rfl
    generalize brD ks ((c :: r).map (fun x : Ch => x.1)) = pg at i2
    generalize (c :: r).map (fun x : Ch => x.1) = pl at i2 i0
    unfold b_first1
    simp only [EVa, List.getElem?_cons_zero, List.getElem?_cons_succ, List.set_cons_zero, List.set_cons_succ, bind_ok, lift_ok, List.length_cons, List.length_nil, Nat.reduceAdd, Nat.reduceLeDiff, ↓reduceIte, if_true, if_false, Bool.false_eq_true, ev_raise, and_self, List.map_cons, List.map_nil, List.replicate, List.cons_append, List.nil_append, Nat.reduceSub, i2, i0]
theorem last_go : ∀ (n : Nat) (d : D) (es : List En), Ok m n d es → ∃ e1 e2, es = e1 ++ e2 ∧ (es ≠ [] → e2 ≠ []) ∧ Wh t_last1 b_last1 [some d] A (.nx [some (leafD e2)] A)
  | 0, d, es, o => by
    have o : d = leafD es ∧ es.length ≤ m := o
    obtain ⟨rfl, hl⟩ := o
    exact ⟨[], es, rfl, id, Wh.stop (not_leaf (is_leaf_l (A := A) (es := es)))⟩
  | n + 1, d, es, o => by
    have o : ∃ ks cs, d = brD ks (cs.map (·.1)) ∧ Sep ks cs ∧ cs.length ≤ m ∧ es = ents cs ∧ ∀ c ∈ cs, Ok m n c.1 c.2 ∧ half m ≤ count c.1 := o
    obtain ⟨ks, cs, rfl, s, hc, rfl, ok⟩ := o
    obtain ⟨l, c, rfl⟩ : ∃ l c, cs = l ++ [c] := by
      have hne : cs ≠ [] := by intro z; rw [z] at s; have := s.len; simp at this
      exact ⟨cs.dropLast, cs.getLast hne, (List.dropLast_concat_getLast hne).symm⟩
    obtain ⟨e1, e2, e, h, w⟩ := last_go n c.1 c.2 (ok c (by simp)).1
    refine ⟨ents l ++ e1, e2, by rw [ents_app, ents1, e, List.append_assoc], fun _ => h (s.full c (by simp)), Wh.next (ρ2 := [some c.1]) (not_leaf (R := []) (is_leaf_b (A := A) (ks := ks) (ps := (l ++ [c]).map (·.1)))) ?_ w⟩
    have i2 : fIx (brD ks ((l ++ [c]).map (fun x : Ch => x.1))) (.int 2) A = .ok (.tup ((l ++ [c]).map (fun x : Ch => x.1))) A := rfl
    have i0 : fIx (.tup ((l ++ [c]).map (fun x : Ch => x.1))) (.int (-1)) A = .ok c.1 A := ix_tup (by rw [List.map_append]; exact atI_last _ _)
    generalize brD ks ((l ++ [c]).map (fun x : Ch => x.1)) = pg at i2
    generalize (l ++ [c]).map (fun x : Ch => x.1) = pl at i2 i0
    unfold b_last1
    simp only [EVa, List.getElem?_cons_zero, List.getElem?_cons_succ, List.set_cons_zero, List.set_cons_succ, bind_ok, lift_ok, List.length_cons, List.length_nil, Nat.reduceAdd, Nat.reduceLeDiff, ↓reduceIte, if_true, if_false, Bool.false_eq_true, ev_raise, and_self, List.map_cons, List.map_nil, List.replicate, List.cons_append, List.nil_append, Nat.reduceSub, i2, i0]
theorem tru_t {xs : List D} {R : DM.Env} {me : ME} (h : me R A = .ok (.tup xs) A) : mTru me R A = .ok (!xs.isEmpty) A := by
  unfold mTru
  rw [h, bind_ok]
  rfl
theorem first_at {n : Nat} {d : D} {es : List En} (o : Ok m n d es) : f_first [d] A = .ok (enO es.head?) A := by
  obtain ⟨e2, e3, rfl, h, w⟩ := first_go (A := A) n d es o
  have i1 : fIx (leafD e2) (.int 1) A = .ok (.tup (e2.map enD)) A := rfl
  have v1 : mOp fIx (mVar 0) (mK (.int 1)) [some (leafD e2)] A = .ok (.tup (e2.map enD)) A := rfl
  have t := tru_t (A := A) v1
  unfold f_first
  refine fun_rt ?_
  refine (seq_nx (w.run (by simp))).trans ?_
  cases e2 with
  | nil =>
    have e3n : e3 = [] := by
      cases e3 with
      | nil => rfl
      | cons x e3 => exact absurd rfl (h (by simp))
    subst e3n
    rw [ev_ret, ev_if, t, bind_ok]
    rfl
  | cons x e2 =>
    have i0 : fIx (.tup ((x :: e2).map enD)) (.int 0) A = .ok (enD x) A := ixt (j := 0) rfl
    rw [ev_ret, ev_if, t, bind_ok]
    show lift (mOp fIx (mOp fIx (mVar 0) (mK (.int 1))) (mK (.int 0)) [some (leafD (x :: e2))] A) _ _ = _
    rw [ev_op, v1, bind_ok, ev_K, bind_ok, i0]
    rfl
theorem last_at {n : Nat} {d : D} {es : List En} (o : Ok m n d es) : f_last [d] A = .ok (enO es.getLast?) A := by
  obtain ⟨e1, e2, rfl, h, w⟩ := last_go (A := A) n d es o
  have v1 : mOp fIx (mVar 0) (mK (.int 1)) [some (leafD e2)] A = .ok (.tup (e2.map enD)) A := rfl
  have t := tru_t (A := A) v1
  unfold f_last
  refine fun_rt ?_
  refine (seq_nx (w.run (by simp))).trans ?_
  by_cases he : e2 = []
  · subst he
    have e1n : e1 = [] := by
      cases e1 with
      | nil => rfl
      | cons x e1 => exact absurd rfl (h (by simp))
    subst e1n
    rw [ev_ret, ev_if, t, bind_ok]
    rfl
  · obtain ⟨l, x, rfl⟩ : ∃ l x, e2 = l ++ [x] := ⟨e2.dropLast, e2.getLast he, (List.dropLast_concat_getLast he).symm⟩
    have i0 : fIx (.tup ((l ++ [x]).map enD)) (.int (-1)) A = .ok (enD x) A := ix_tup (by rw [List.map_append]; exact atI_last _ _)
    have ne : (!((l ++ [x]).map enD).isEmpty) = true := by simp
    have gl : (e1 ++ (l ++ [x])).getLast? = some x := by rw [← List.append_assoc]; simp
    rw [gl, ev_ret, ev_if, t, bind_ok, ne, if_pos rfl, ev_op, v1, bind_ok]
    show lift (fIx (.tup ((l ++ [x]).map enD)) (.int (-1)) A) _ _ = _
    rw [i0]
    rfl
theorem first_key_at {n : Nat} {d : D} {es : List En} (o : Ok m n d es) {x : En} {r : List En} (he : es = x :: r) : f_first_key [d] A = .ok (.str x.1) A := by
  obtain ⟨e2, e3, e, h, w⟩ := first_go (A := A) n d es o
  have w : Wh t_first_key1 b_first_key1 [some d] A (.nx [some (leafD e2)] A) := w
  have hne := h (by rw [he]; simp)
  obtain ⟨y, e2', rfl⟩ : ∃ y e2', e2 = y :: e2' := by
    cases e2 with
    | nil => exact absurd rfl hne
    | cons y e2' => exact ⟨y, e2', rfl⟩
  have hy : y = x := by rw [he] at e; exact (List.cons.inj e).1.symm
  subst hy
  have i1 : fIx (leafD (y :: e2')) (.int 1) A = .ok (.tup ((y :: e2').map enD)) A := rfl
  have i0 : fIx (.tup ((y :: e2').map enD)) (.int 0) A = .ok (enD y) A := ixt (j := 0) rfl
  have ix0 : fIx (enD y) (.int 0) A = .ok (.str y.1) A := rfl
  generalize (y :: e2').map enD = pl at i1 i0
  unfold f_first_key
  refine fun_rt ?_
  refine (seq_nx (w.run (by simp))).trans ?_
  simp only [EVa, List.getElem?_cons_zero, List.getElem?_cons_succ, List.set_cons_zero, List.set_cons_succ, bind_ok, lift_ok, List.length_cons, List.length_nil, Nat.reduceAdd, Nat.reduceLeDiff, ↓reduceIte, if_true, if_false, Bool.false_eq_true, ev_raise, and_self, List.map_cons, List.map_nil, List.replicate, List.cons_append, List.nil_append, Nat.reduceSub, i1, i0, ix0]
/-! ### the key behind another one -/
theorem scan_go {all : List D} {iv : ItV} {R : DM.Env} {x0 : Option D} (hit : itemsOf A iv = some all) : ∀ (xs : List En) (x2 : Option D), 
    (∃ x, xs.find? (fun e => decide (sLt key e.1)) = some x ∧ forGo iv all (.nm 2) b_behind_of2 (xs.map enD) (x0 :: some (.str key) :: x2 :: R) A = .rt (.str x.1) A) ∨ (xs.find? (fun e => decide (sLt key e.1)) = none ∧ ∃ y2, forGo iv all (.nm 2) b_behind_of2 (xs.map enD) (x0 :: some (.str key) :: x2 :: R) A = .nx (x0 :: some (.str key) :: y2 :: R) A)
  | [], x2 => .inr ⟨rfl, x2, for_nil hit⟩
  | x :: xs, x2 => by
    have ix0 : fIx (enD x) (.int 0) A = .ok (.str x.1) A := rfl
    have gt := gt_ss (A := A) (x := x.1) (y := key)
    by_cases h : sLt key x.1
    · refine .inl ⟨x, by rw [List.find?_cons_of_pos (by simpa using h)], ?_⟩
      rw [decide_eq_true h] at gt
      refine for_rt (ρ1 := x0 :: some (.str key) :: some (enD x) :: R) hit rfl ?_
      unfold b_behind_of2
      simp only [EVa, List.getElem?_cons_zero, List.getElem?_cons_succ, List.set_cons_zero, List.set_cons_succ, bind_ok, lift_ok, List.length_cons, List.length_nil, Nat.reduceAdd, Nat.reduceLeDiff, ↓reduceIte, if_true, if_false, Bool.false_eq_true, ev_raise, and_self, List.map_cons, List.map_nil, List.replicate, List.cons_append, List.nil_append, Nat.reduceSub, ix0, gt]
    · rw [List.find?_cons_of_neg (by simpa using h)]
      rw [decide_eq_false h] at gt
      have nx : forGo iv all (.nm 2) b_behind_of2 ((x :: xs).map enD) (x0 :: some (.str key) :: x2 :: R) A = forGo iv all (.nm 2) b_behind_of2 (xs.map enD) (x0 :: some (.str key) :: some (enD x) :: R) A := for_nx (ρ1 := x0 :: some (.str key) :: some (enD x) :: R) hit rfl (by
        unfold b_behind_of2
        simp only [EVa, List.getElem?_cons_zero, List.getElem?_cons_succ, List.set_cons_zero, List.set_cons_succ, bind_ok, lift_ok, List.length_cons, List.length_nil, Nat.reduceAdd, Nat.reduceLeDiff, ↓reduceIte, if_true, if_false, Bool.false_eq_true, ev_raise, and_self, List.map_cons, List.map_nil, List.replicate, List.cons_append, List.nil_append, Nat.reduceSub, ix0, gt])
      rw [nx]
      exact scan_go hit xs (some (enD x))
theorem behind_at {n : Nat} {d : D} {es : List En} (h3 : 3 ≤ m) (hm : m ≤ 16) (o : Ok m n d es) : f_behind_of [d, .str key] A = .ok (match nextE es key with | some e => .str e.1 | none => .non) A := by
  obtain ⟨e1, e2, e3, ee, g1, g3, g2, w1, w2, _⟩ := walk (A := A) (key := key) hm h3 n d es o
  have lf := leaf_run w1
  have i1 : fIx (leafD e2) (.int 1) A = .ok (.tup (e2.map enD)) A := rfl
  have sq : mSq (mOp fIx (mCallF 2 f_leaf_for (mCons (mVar 0) (mCons (mVar 1) (mNil)))) (mK (.int 1))) [some d, some (.str key), none, none, none] A = .ok (.sq (.tup (e2.map enD))) A := by
    simp only [EVa, List.getElem?_cons_zero, List.getElem?_cons_succ, List.set_cons_zero, List.set_cons_succ, bind_ok, lift_ok, List.length_cons, List.length_nil, Nat.reduceAdd, Nat.reduceLeDiff, ↓reduceIte, if_true, if_false, Bool.false_eq_true, ev_raise, and_self, List.map_cons, List.map_nil, List.replicate, List.cons_append, List.nil_append, Nat.reduceSub, lf, i1]
    rfl
  have nE : nextE es key = (e2.find? (fun e => decide (sLt key e.1))).or (e3.find? fun e => decide (sLt key e.1)) := by
    unfold nextE
    rw [ee, List.find?_append, List.find?_append, find_no (l := e1) fun e he => decide_eq_false (lt_as (g1 e he))]
    simp
  have h3f : e3.find? (fun e => decide (sLt key e.1)) = e3.head? := by
    cases e3 with
    | nil => rfl
    | cons x r => rw [List.find?_cons_of_pos (by simpa using g3 x List.mem_cons_self)]; rfl
  rw [nE, h3f]
  have hit : itemsOf A (.sq (.tup (e2.map enD))) = some (e2.map enD) := rfl
  unfold f_behind_of
  refine fun_rt ?_
  rcases scan_go (key := key) (x0 := some d) (R := [none, none]) hit e2 none with ⟨x, hx, e⟩ | ⟨hx, y2, e⟩
  · rw [hx]
    refine seq_rt ?_
    show mFor _ _ _ [some d, some (.str key), none, none, none] A = _
    rw [ev_for, sq, lift_ok, hit]
    exact e
  · rw [hx]
    refine (seq_nx (ρ1 := [some d, some (.str key), y2, none, none]) (A1 := A) ?_).trans ?_
    · show mFor _ _ _ [some d, some (.str key), none, none, none] A = _
      rw [ev_for, sq, lift_ok, hit]
      exact e
    refine (seq_nx (ρ1 := [some d, some (.str key), y2, some .non, none]) (A1 := A) rfl).trans ?_
    obtain ⟨y3, y4, w, h⟩ := w2 y2 (some .non) none
    refine (seq_nx (w.run (by simp))).trans ?_
    rcases h with ⟨rfl, rfl⟩ | ⟨f, nf, ef, post, rfl, of, ne, e3e⟩
    · rfl
    · obtain ⟨x, r, rfl⟩ : ∃ x r, ef = x :: r := by
        cases ef with
        | nil => exact absurd rfl ne
        | cons x r => exact ⟨x, r, rfl⟩
      have fk := first_key_at (A := A) of rfl
      have iN : fIsN false f .non A = .ok (.bl false) A := by
        cases nf with
        | zero =>
          have of : f = leafD (x :: r) ∧ (x :: r).length ≤ m := of
          rw [of.1]; rfl
        | succ nf =>
          obtain ⟨ks, cs, rfl, _⟩ := of
          rfl
      rw [e3e]
      simp only [EVa, List.getElem?_cons_zero, List.getElem?_cons_succ, List.set_cons_zero, List.set_cons_succ, bind_ok, lift_ok, List.length_cons, List.length_nil, Nat.reduceAdd, Nat.reduceLeDiff, ↓reduceIte, if_true, if_false, Bool.false_eq_true, ev_raise, and_self, List.map_cons, List.map_nil, List.replicate, List.cons_append, List.nil_append, Nat.reduceSub, iN, fk]
      rfl
end
end TR
end
section
set_option maxHeartbeats 1000000
namespace TR
open PySem PySem.Spec PyProof.Rows L2 DM
/-! ### what is a key -/
def SG : Str := "0123456789_abcdefghijklmnopqrstuvwxyz"
def wrongI : Nat → List Nat → Option Nat
  | _, [] => none
  | j, c :: r => if j = 16 ∨ c ∉ SG.cps.toList then some j else wrongI (j + 1) r
structure KG (k : Str) : Prop where
  ne : k.cps.toList ≠ []
  len : k.cps.toList.length ≤ 16
  sg : ∀ c ∈ k.cps.toList, c ∈ SG.cps.toList
theorem wrong_none : ∀ {j : Nat} {cs : List Nat}, j + cs.length ≤ 16 → (∀ c ∈ cs, c ∈ SG.cps.toList) → wrongI j cs = none
  | _, [], _, _ => rfl
  | j, c :: r, h, g => by
    rw [List.length_cons] at h
    unfold wrongI
    rw [if_neg (by rintro (h1 | h1); omega; exact h1 (g c List.mem_cons_self))]
    exact wrong_none (by omega) fun z hz => g z (List.mem_cons_of_mem _ hz)
def atO : Option Nat → D
  | some i => .int (i : Nat)
  | none => .non
section
variable {m : Nat} {A : AH} {key : Str}
theorem inC {c : Nat} {z : Str} {neg : Bool} : fInC neg (.str ⟨#[c]⟩) (.str z) A = .ok (.bl (if neg then !decide (c ∈ z.cps.toList) else decide (c ∈ z.cps.toList))) A := rfl
theorem wrong_go {iv : ItV} {all : List D} {x0 : Option D} (hit : itemsOf A iv = some all) : ∀ (cs : List Nat) (j : Nat) (x3 x4 : Option D),
    (∃ i, wrongI j cs = some i ∧ forGo iv all (.tp [.nm 3, .nm 4]) b_wrong_sign1 (enumD j (cs.map fun c => D.str ⟨#[c]⟩)) [x0, some (.str SG), some (.int 16), x3, x4] A = .rt (.int (i : Nat)) A) ∨ (wrongI j cs = none ∧ ∃ y3 y4, forGo iv all (.tp [.nm 3, .nm 4]) b_wrong_sign1 (enumD j (cs.map fun c => D.str ⟨#[c]⟩)) [x0, some (.str SG), some (.int 16), x3, x4] A = .nx [x0, some (.str SG), some (.int 16), y3, y4] A)
  | [], j, x3, x4 => .inr ⟨rfl, x3, x4, for_nil hit⟩
  | c :: cs, j, x3, x4 => by
    have ic := inC (A := A) (c := c) (z := SG) (neg := true)
    rw [if_pos rfl] at ic
    have tst : ∀ k1 k2 : Bool, decide (((j : Nat) : Int) = 16) = k1 → (!decide (c ∈ SG.cps.toList)) = k2 → b_wrong_sign1 [x0, some (.str SG), some (.int 16), some (.int (j : Nat)), some (.str ⟨#[c]⟩)] A = if (k1 || k2) = true then .rt (.int (j : Nat)) A else .nx [x0, some (.str SG), some (.int 16), some (.int (j : Nat)), some (.str ⟨#[c]⟩)] A := fun k1 k2 h1 h2 => by
      rw [h2] at ic
      unfold b_wrong_sign1
      cases k1 with
      | true =>
        simp only [EVa, List.getElem?_cons_zero, List.getElem?_cons_succ, List.set_cons_zero, List.set_cons_succ, bind_ok, lift_ok, List.length_cons, List.length_nil, Nat.reduceAdd, Nat.reduceLeDiff, ↓reduceIte, if_true, if_false, Bool.false_eq_true, ev_raise, and_self, List.map_cons, List.map_nil, List.replicate, List.cons_append, List.nil_append, Nat.reduceSub, eq_ii, h1, Bool.true_or]
      | false =>
        cases k2 with
        | true => simp only [EVa, List.getElem?_cons_zero, List.getElem?_cons_succ, List.set_cons_zero, List.set_cons_succ, bind_ok, lift_ok, List.length_cons, List.length_nil, Nat.reduceAdd, Nat.reduceLeDiff, ↓reduceIte, if_true, if_false, Bool.false_eq_true, ev_raise, and_self, List.map_cons, List.map_nil, List.replicate, List.cons_append, List.nil_append, Nat.reduceSub, eq_ii, h1, ic, Bool.or_true]
        | false => simp only [EVa, List.getElem?_cons_zero, List.getElem?_cons_succ, List.set_cons_zero, List.set_cons_succ, bind_ok, lift_ok, List.length_cons, List.length_nil, Nat.reduceAdd, Nat.reduceLeDiff, ↓reduceIte, if_true, if_false, Bool.false_eq_true, ev_raise, and_self, List.map_cons, List.map_nil, List.replicate, List.cons_append, List.nil_append, Nat.reduceSub, eq_ii, h1, ic, Bool.or_false]
    by_cases h : j = 16 ∨ c ∉ SG.cps.toList
    · refine .inl ⟨j, by unfold wrongI; rw [if_pos h], ?_⟩
      refine for_rt (ρ1 := [x0, some (.str SG), some (.int 16), some (.int (j : Nat)), some (.str ⟨#[c]⟩)]) hit rfl ?_
      rw [tst _ _ rfl rfl, if_pos]
      rcases h with h | h
      · rw [decide_eq_true (by omega), Bool.true_or]
      · rw [decide_eq_false h, Bool.not_false, Bool.or_true]
    · have h1 : ¬ j = 16 := fun z => h (.inl z)
      have h2 : c ∈ SG.cps.toList := Decidable.not_not.mp fun z => h (.inr z)
      have nx : forGo iv all (.tp [.nm 3, .nm 4]) b_wrong_sign1 (enumD j ((c :: cs).map fun c => D.str ⟨#[c]⟩)) [x0, some (.str SG), some (.int 16), x3, x4] A = forGo iv all (.tp [.nm 3, .nm 4]) b_wrong_sign1 (enumD (j + 1) (cs.map fun c => D.str ⟨#[c]⟩)) [x0, some (.str SG), some (.int 16), some (.int (j : Nat)), some (.str ⟨#[c]⟩)] A := for_nx (ρ1 := [x0, some (.str SG), some (.int 16), some (.int (j : Nat)), some (.str ⟨#[c]⟩)]) hit rfl (by
        rw [tst false false (decide_eq_false (by omega)) (by rw [decide_eq_true h2]; rfl)]
        rfl)
      rw [nx]
      rcases wrong_go hit cs (j + 1) (some (.int (j : Nat))) (some (.str ⟨#[c]⟩)) with ⟨i, hi, e⟩ | ⟨hn, y3, y4, e⟩
      · exact .inl ⟨i, by unfold wrongI; rw [if_neg h]; exact hi, e⟩
      · exact .inr ⟨by unfold wrongI; rw [if_neg h]; exact hn, y3, y4, e⟩
theorem wrong_at : f_wrong_sign [.str key, .str SG, .int 16] A = .ok (atO (wrongI 0 key.cps.toList)) A := by
  have en : mEnS (mCons (mVar 0) (mNil)) [some (.str key), some (.str SG), some (.int 16), none, none] A = .ok (.en (.lst (charsD key))) A := rfl
  have hit : itemsOf A (.en (.lst (charsD key))) = some (enumD 0 (charsD key)) := rfl
  unfold f_wrong_sign
  refine fun_rt ?_
  rcases wrong_go (x0 := some (.str key)) hit key.cps.toList 0 none none with ⟨i, hi, e⟩ | ⟨hn, y3, y4, e⟩
  · rw [hi]
    refine seq_rt ?_
    show mFor _ _ _ [some (.str key), some (.str SG), some (.int 16), none, none] A = _
    rw [ev_for, en, lift_ok, hit]
    exact e
  · rw [hn]
    refine (seq_nx (ρ1 := [some (.str key), some (.str SG), some (.int 16), y3, y4]) (A1 := A) ?_).trans ?_
    · show mFor _ _ _ [some (.str key), some (.str SG), some (.int 16), none, none] A = _
      rw [ev_for, en, lift_ok, hit]
      exact e
    · rfl
theorem text_at : f_is_text [.str key] A = .ok (.bl true) A := rfl
theorem fault_at (h : key ≠ "") : f_key_fault [.str key] A = .ok (atO (wrongI 0 key.cps.toList)) A := by
  have eq : fEq false (.str key) (.str "") A = .ok (.bl false) A := by rw [eq_ss, decide_eq_false h]; rfl
  have tx := text_at (A := A) (key := key)
  have wr : f_wrong_sign [.str key, .str "0123456789_abcdefghijklmnopqrstuvwxyz", .int 16] A = .ok (atO (wrongI 0 key.cps.toList)) A := wrong_at
  unfold f_key_fault
  refine fun_rt ?_
  refine (seq_nx (ρ1 := [some (.str key)]) (A1 := A) ?_).trans ?_
  · simp only [EVa, List.getElem?_cons_zero, List.getElem?_cons_succ, List.set_cons_zero, List.set_cons_succ, bind_ok, lift_ok, List.length_cons, List.length_nil, Nat.reduceAdd, Nat.reduceLeDiff, ↓reduceIte, if_true, if_false, Bool.false_eq_true, ev_raise, and_self, List.map_cons, List.map_nil, List.replicate, List.cons_append, List.nil_append, Nat.reduceSub, tx, Bool.not_true, eq]
  · simp only [EVa, List.getElem?_cons_zero, List.getElem?_cons_succ, List.set_cons_zero, List.set_cons_succ, bind_ok, lift_ok, List.length_cons, List.length_nil, Nat.reduceAdd, Nat.reduceLeDiff, ↓reduceIte, if_true, if_false, Bool.false_eq_true, ev_raise, and_self, List.map_cons, List.map_nil, List.replicate, List.cons_append, List.nil_append, Nat.reduceSub, wr]
theorem KG.ne' {k : Str} (g : KG k) : k ≠ "" := fun z => g.ne (by rw [z]; rfl)
theorem need_ok (g : KG key) : f_need_key [.str key] A = .ok .non A := by
  have f := fault_at (A := A) g.ne'
  rw [wrong_none (by have := g.len; omega) g.sg] at f
  have f : f_key_fault [.str key] A = .ok .non A := f
  unfold f_need_key
  refine fun_nx (ρ1 := [some (.str key), some .non]) ?_
  refine (seq_nx (ρ1 := [some (.str key), some .non]) (A1 := A) ?_).trans ?_
  · simp only [EVa, List.getElem?_cons_zero, List.getElem?_cons_succ, List.set_cons_zero, List.set_cons_succ, bind_ok, lift_ok, List.length_cons, List.length_nil, Nat.reduceAdd, Nat.reduceLeDiff, ↓reduceIte, if_true, if_false, Bool.false_eq_true, ev_raise, and_self, List.map_cons, List.map_nil, List.replicate, List.cons_append, List.nil_append, Nat.reduceSub, f]
  · rfl
/-- what is refused, with its place -/
theorem need_bad {v : D} {i : Int} (f : f_key_fault [v] A = .ok (.int i) A) : f_need_key [v] A = .exc "InvalidKey" [("at", .int i)] A := by
  unfold f_need_key
  refine fun_exc (ρ1 := [some v, some (.int i)]) ?_
  refine (seq_nx (ρ1 := [some v, some (.int i)]) (A1 := A) ?_).trans ?_
  · simp only [EVa, List.getElem?_cons_zero, List.getElem?_cons_succ, List.set_cons_zero, List.set_cons_succ, bind_ok, lift_ok, List.length_cons, List.length_nil, Nat.reduceAdd, Nat.reduceLeDiff, ↓reduceIte, if_true, if_false, Bool.false_eq_true, ev_raise, and_self, List.map_cons, List.map_nil, List.replicate, List.cons_append, List.nil_append, Nat.reduceSub, f]
  · rfl
theorem getE_of {es : List En} (hs : Srt es) {e : En} (he : e ∈ es) : getE es e.1 = some e := by
  induction es with
  | nil => cases he
  | cons x es ih =>
    obtain ⟨h1, h2⟩ := List.pairwise_cons.mp hs
    unfold getE
    rcases List.mem_cons.mp he with rfl | he
    · rw [List.find?_cons_of_pos (by simp)]
    · rw [List.find?_cons_of_neg (by
        have := h1 e he
        simp only [decide_eq_true_eq]
        intro z
        rw [z] at this
        exact lt_ir this)]
      exact ih h2 he
theorem nextE_in {es : List En} {e : En} (h : nextE es key = some e) : e ∈ es := List.mem_of_find?_eq_some h
theorem after_at {n : Nat} {d : D} {es : List En} (h3 : 3 ≤ m) (hm : m ≤ 16) (o : Ok m n d es) (hs : Srt es) (g : KG key) : f_after [d, .str key] A = .ok (enO (nextE es key)) A := by
  have nk := need_ok (A := A) g
  have bh := behind_at (A := A) (key := key) h3 hm o
  unfold f_after
  refine fun_rt ?_
  refine (seq_nx (ρ1 := [some d, some (.str key), none]) (A1 := A) ?_).trans ?_
  · simp only [EVa, List.getElem?_cons_zero, List.getElem?_cons_succ, List.set_cons_zero, List.set_cons_succ, bind_ok, lift_ok, List.length_cons, List.length_nil, Nat.reduceAdd, Nat.reduceLeDiff, ↓reduceIte, if_true, if_false, Bool.false_eq_true, ev_raise, and_self, List.map_cons, List.map_nil, List.replicate, List.cons_append, List.nil_append, Nat.reduceSub, nk]
  cases hn : nextE es key with
  | none =>
    rw [hn] at bh
    refine (seq_nx (ρ1 := [some d, some (.str key), some .non]) (A1 := A) ?_).trans ?_
    · simp only [EVa, List.getElem?_cons_zero, List.getElem?_cons_succ, List.set_cons_zero, List.set_cons_succ, bind_ok, lift_ok, List.length_cons, List.length_nil, Nat.reduceAdd, Nat.reduceLeDiff, ↓reduceIte, if_true, if_false, Bool.false_eq_true, ev_raise, and_self, List.map_cons, List.map_nil, List.replicate, List.cons_append, List.nil_append, Nat.reduceSub, bh]
    · rfl
  | some e =>
    rw [hn] at bh
    have en := entry_at (A := A) (key := e.1) h3 hm o hs
    rw [getE_of hs (nextE_in hn)] at en
    refine (seq_nx (ρ1 := [some d, some (.str key), some (.str e.1)]) (A1 := A) ?_).trans ?_
    · simp only [EVa, List.getElem?_cons_zero, List.getElem?_cons_succ, List.set_cons_zero, List.set_cons_succ, bind_ok, lift_ok, List.length_cons, List.length_nil, Nat.reduceAdd, Nat.reduceLeDiff, ↓reduceIte, if_true, if_false, Bool.false_eq_true, ev_raise, and_self, List.map_cons, List.map_nil, List.replicate, List.cons_append, List.nil_append, Nat.reduceSub, bh]
    · have iN : fIsN false (.str e.1) .non A = .ok (.bl false) A := rfl
      simp only [EVa, List.getElem?_cons_zero, List.getElem?_cons_succ, List.set_cons_zero, List.set_cons_succ, bind_ok, lift_ok, List.length_cons, List.length_nil, Nat.reduceAdd, Nat.reduceLeDiff, ↓reduceIte, if_true, if_false, Bool.false_eq_true, ev_raise, and_self, List.map_cons, List.map_nil, List.replicate, List.cons_append, List.nil_append, Nat.reduceSub, iN, en]
theorem before_at {n : Nat} {d : D} {es : List En} (h3 : 3 ≤ m) (hm : m ≤ 16) (o : Ok m n d es) (hs : Srt es) (g : KG key) : f_before [d, .str key] A = .ok (enO (prevE es key)) A := by
  have nk := need_ok (A := A) g
  obtain ⟨e1, e2, e3, ee, g1, g3, g2, w1, _, w3⟩ := walk (A := A) (key := key) hm h3 n d es o
  have lf := leaf_run w1
  have hs2 : Srt e2 := srt_mid (ee ▸ hs)
  obtain ⟨a, b, e, p1, p2, p3, p4⟩ := srt_cut (k := key) hs2
  have en := entry_ok (A := A) p1 p2 (by rw [← e]; omega)
  rw [← e] at en
  have i1 : fIx (leafD e2) (.int 1) A = .ok (.tup (e2.map enD)) A := rfl
  have pv : prevE es key = (e1 ++ a).getLast? := by
    unfold prevE
    rw [ee, List.filter_append, List.filter_append, fil_all (l := e1) fun e he => decide_eq_true (g1 e he), fil_no (l := e3) fun e he => decide_eq_false (lt_as (g3 e he)), ← p3, List.append_nil]
  rw [pv]
  unfold f_before
  refine fun_rt ?_
  refine (seq_nx (ρ1 := [some d, some (.str key), none, none, none, none]) (A1 := A) ?_).trans ?_
  · simp only [EVa, List.getElem?_cons_zero, List.getElem?_cons_succ, List.set_cons_zero, List.set_cons_succ, bind_ok, lift_ok, List.length_cons, List.length_nil, Nat.reduceAdd, Nat.reduceLeDiff, ↓reduceIte, if_true, if_false, Bool.false_eq_true, ev_raise, and_self, List.map_cons, List.map_nil, List.replicate, List.cons_append, List.nil_append, Nat.reduceSub, nk]
  refine (seq_nx (ρ1 := [some d, some (.str key), some (.tup (e2.map enD)), none, none, none]) (A1 := A) ?_).trans ?_
  · simp only [EVa, List.getElem?_cons_zero, List.getElem?_cons_succ, List.set_cons_zero, List.set_cons_succ, bind_ok, lift_ok, List.length_cons, List.length_nil, Nat.reduceAdd, Nat.reduceLeDiff, ↓reduceIte, if_true, if_false, Bool.false_eq_true, ev_raise, and_self, List.map_cons, List.map_nil, List.replicate, List.cons_append, List.nil_append, Nat.reduceSub, lf, i1]
  refine (seq_nx (ρ1 := [some d, some (.str key), some (.tup (e2.map enD)), some (.int (a.length : Nat)), none, none]) (A1 := A) ?_).trans ?_
  · simp only [EVa, List.getElem?_cons_zero, List.getElem?_cons_succ, List.set_cons_zero, List.set_cons_succ, bind_ok, lift_ok, List.length_cons, List.length_nil, Nat.reduceAdd, Nat.reduceLeDiff, ↓reduceIte, if_true, if_false, Bool.false_eq_true, ev_raise, and_self, List.map_cons, List.map_nil, List.replicate, List.cons_append, List.nil_append, Nat.reduceSub, en]
  by_cases ha : a = []
  · subst ha
    refine (seq_nx (ρ1 := [some d, some (.str key), some (.tup (e2.map enD)), some (.int ((0 : Nat) : Int)), none, none]) (A1 := A) rfl).trans ?_
    refine (seq_nx (ρ1 := [some d, some (.str key), some (.tup (e2.map enD)), some (.int ((0 : Nat) : Int)), some (leafD []), none]) (A1 := A) rfl).trans ?_
    obtain ⟨y4, y5, w, h⟩ := w3 (some (.tup (e2.map enD))) (some (.int ((0 : Nat) : Int))) (some (leafD [])) none
    refine (seq_nx (w.run (by simp))).trans ?_
    rw [List.append_nil]
    rcases h with ⟨rfl, rfl⟩ | ⟨f, nf, ef, pre, rfl, of, ne, e1e⟩
    · have l := last_at (A := A) (m := m) (n := 0) (d := leafD []) (es := []) ⟨rfl, Nat.zero_le _⟩
      simp only [EVa, List.getElem?_cons_zero, List.getElem?_cons_succ, List.set_cons_zero, List.set_cons_succ, bind_ok, lift_ok, List.length_cons, List.length_nil, Nat.reduceAdd, Nat.reduceLeDiff, ↓reduceIte, if_true, if_false, Bool.false_eq_true, ev_raise, and_self, List.map_cons, List.map_nil, List.replicate, List.cons_append, List.nil_append, Nat.reduceSub, l]
    · have l := last_at (A := A) of
      obtain ⟨q, x, rfl⟩ : ∃ q x, ef = q ++ [x] := ⟨ef.dropLast, ef.getLast ne, (List.dropLast_concat_getLast ne).symm⟩
      have ge : (pre ++ (q ++ [x])).getLast? = (q ++ [x]).getLast? := by rw [← List.append_assoc]; simp
      rw [e1e, ge]
      simp only [EVa, List.getElem?_cons_zero, List.getElem?_cons_succ, List.set_cons_zero, List.set_cons_succ, bind_ok, lift_ok, List.length_cons, List.length_nil, Nat.reduceAdd, Nat.reduceLeDiff, ↓reduceIte, if_true, if_false, Bool.false_eq_true, ev_raise, and_self, List.map_cons, List.map_nil, List.replicate, List.cons_append, List.nil_append, Nat.reduceSub, l]
  · obtain ⟨q, x, rfl⟩ : ∃ q x, a = q ++ [x] := ⟨a.dropLast, a.getLast ha, (List.dropLast_concat_getLast ha).symm⟩
    have lz : (q ++ [x]).length = q.length + 1 := by rw [List.length_append]; rfl
    have gl : (e1 ++ (q ++ [x])).getLast? = some x := by rw [← List.append_assoc]; simp
    have t0 : decide ((0 : Int) < (((q ++ [x]).length : Nat) : Int)) = true := decide_eq_true (by omega)
    have pe : (((q ++ [x]).length : Nat) : Int) - 1 = ((q.length : Nat) : Int) := by omega
    have hx : (e2.map enD)[q.length]? = some (enD x) := by rw [e, List.getElem?_map]; simp
    have ix := ixt (A := A) hx
    obtain ⟨ll, hll⟩ : ∃ ll, ll = (q ++ [x]).length := ⟨_, rfl⟩
    rw [← hll] at t0 pe ⊢
    rw [gl]
    refine seq_rt ?_
    simp only [EVa, List.getElem?_cons_zero, List.getElem?_cons_succ, List.set_cons_zero, List.set_cons_succ, bind_ok, lift_ok, List.length_cons, List.length_nil, Nat.reduceAdd, Nat.reduceLeDiff, ↓reduceIte, if_true, if_false, Bool.false_eq_true, ev_raise, and_self, List.map_cons, List.map_nil, List.replicate, List.cons_append, List.nil_append, Nat.reduceSub, gt_int, t0, sub_ii, pe, ix]
    rfl
end
end TR
end
section
set_option maxHeartbeats 1000000
namespace DM
open PySem PySem.Spec PyProof.Rows L2
/-! ### the other way to draw -/
noncomputable def dealN : List D → AH → Res D := mFun 5 (mSeq (mSet 2 (mLc false (mSq (mSl (mVar 0) (mNone) (mSome (mK (.int 63))))) (.nm 4) (mYes) (mCall fAbs (mCons (mCall fInt (mCons (mVar 4)
    (mNil))) (mNil))) [4])) (mSeq (mSet 3 (mOp fAdd (mOp fMulA (mK (.int 40127)) (mVar 1)) (mK (.int 863)))) (mSeq (mFor (mSq (mVar 2)) (.nm 4) (mSet 3 (mOp fMod (mCall fInt (mCons (mOp fAdd (mOp fAdd
    (mOp fMulA (mVar 3) (mK (.int 48271))) (mOp fMod (mVar 4) (mK (.int 2147483579)))) (mK (.int 61))) (mNil))) (mK (.int 2147483647))))) (mRet (mNew (mCons (mRev true (mLc false (mSq (mVar 2)) (.nm 4)
    (mTst (mOp fGe (mVar 4) (mOp fPow (mK (.int 10)) (mK (.int 18))))) (mVar 4) [4])) (mCons (mVar 3) (mNil))))))))
noncomputable def anyN : List D → AH → Res D := mFun 3 (mSeq (mWhile (mAnd (mTst (mOp (fEq true) (mOp fIx (mVar 0) (mK (.int 0))) (mLst (mNil)))) (mTst (mOp (fEq false) (mOp fIx (mOp fIx (mVar 0)
    (mK (.int 0))) (mNeg (mK (.int 1)))) (mK (.int 0))))) (mDrop (mPop (mOp fIx (mVar 0) (mK (.int 0)))))) (mSeq (mIfS (mTst (mOp (fEq true) (mOp fIx (mVar 0) (mK (.int 0))) (mLst (mNil)))) (mSeq (mSet
    2 (mCall fInt (mCons (mPop (mOp fIx (mVar 0) (mK (.int 0)))) (mNil)))) (mSeq (mDrop (mMet fApp (mOp fIx (mVar 0) (mK (.int 0))) (mCons (mOp fDiv (mVar 2) (mVar 1)) (mNil)))) (mRet (mOp fMod (mVar
    2) (mVar 1))))) (mNext)) (mSeq (mSto (mOp fMod (mCall fInt (mCons (mOp fAdd (mOp fMulA (mOp fIx (mVar 0) (mK (.int 1))) (mK (.int 48271))) (mK (.int 83))) (mNil))) (mK (.int 2147483647))) (mVar 0)
    (mK (.int 1))) (mRet (mOp fMod (mCall fInt (mCons (mOp fDiv (mOp fIx (mVar 0) (mK (.int 1))) (mK (.int 64))) (mNil))) (mVar 1))))))
theorem anyN_ok {h q : Nat} {A : AH} {k : Int} (hs : HS h q A) (h0 : 0 < k) (h1 : k < 1073741824) : ∃ v A', anyN [.ref h, .int k] A = .ok (.int v) A' ∧ 0 ≤ v ∧ v < k ∧ Drawn h q A A' := by
  obtain ⟨hq, L, s, e1, e2, hl, s0, s1⟩ := hs
  have cw : ∀ i : Int, CDivW i k := fun i => cdw_big h0 (by omega)
  have c64 : ∀ i : Int, CDivW i 64 := fun i => cdw_big (by decide) (by decide)
  obtain ⟨L', A1, l1, P, w⟩ := zeros_go (k := k) hq L.length L A rfl e1 e2
  have w' : mWhile tstM popM [some (.ref h), some (.int k), none] A = .nx [some (.ref h), some (.int k), none] A1 := mWhile_eq w (by intro z; cases z)
  have f1 : A1[h]? = some (.lst [.ref q, .int s]) := (P.2.2 h hq).trans e1
  have f2 := P.2.1
  have hm : anyN [.ref h, .int k] A = mFun 3 (mSeq (mWhile tstM popM) (mSeq (mIfS (mTst (mOp (fEq true) (mOp fIx (mVar 0) (mK (.int 0))) (mLst (mNil)))) (mSeq (mSet 2 (mCall fInt (mCons (mPop (mOp fIx (mVar 0) (mK (.int 0)))) (mNil)))) (mSeq (mDrop (mMet fApp (mOp fIx (mVar 0) (mK (.int 0))) (mCons (mOp fDiv (mVar 2) (mVar 1)) (mNil)))) (mRet (mOp fMod (mVar 2) (mVar 1))))) (mNext)) (mSeq (mSto (mOp fMod (mCall fInt (mCons (mOp fAdd (mOp fMulA (mOp fIx (mVar 0) (mK (.int 1))) (mK (.int 48271))) (mK (.int 83))) (mNil))) (mK (.int 2147483647))) (mVar 0) (mK (.int 1))) (mRet (mOp fMod (mCall fInt (mCons (mOp fDiv (mOp fIx (mVar 0) (mK (.int 1))) (mK (.int 64))) (mNil))) (mVar 1)))))) [.ref h, .int k] A := rfl
  rw [hm]
  cases hL : L' with
  | nil =>
    subst hL
    have cm : CMul s 48271 := .inl ⟨by omega, by omega⟩
    have A2 := Put.set (o := .lst [.ref q, .int ((s * 48271 + 83) % 2147483647)]) f1
    refine ⟨((s * 48271 + 83) % 2147483647) / 64 % k, A1.set h (.lst [.ref q, .int ((s * 48271 + 83) % 2147483647)]), ?_, Int.emod_nonneg _ (by omega), Int.emod_lt_of_pos _ h0, ?_, ⟨hq, [], (s * 48271 + 83) % 2147483647, A2.2.1, (A2.2.2 q (Ne.symm hq)).trans f2, by simp, Int.emod_nonneg _ (by omega), Int.emod_lt_of_pos _ (by omega)⟩, fun n a b => (A2.2.2 n a).trans (P.2.2 n b)⟩
    · have g1 := A2.2.1
      have ixn : ixN 2 1 = some 1 := rfl
      simp [mFun, mSeq, w', mIfS, mTst, mOp, mVar, mK, mLst, mNil, mCons, mCall, mRet, mSto, mNext, ix_ref f1 at_ref0, ix_ref f1 at_ref1, eq_refnil f2, fAdd, fMulA, fMod, fDiv, fI, fInt, cm, f1, ixn, ix_ref g1 at_ref1, cw, c64, h0, h1]
    · exact A2.1.trans P.1
  | cons x0 R =>
    obtain ⟨M, x, e⟩ : ∃ M x, L' = M ++ [x] := ⟨L'.dropLast, L'.getLast (by rw [hL]; simp), (List.dropLast_concat_getLast (by rw [hL]; simp)).symm⟩
    have hne : L'.isEmpty = false := by rw [hL]; rfl
    have hg : (L'.map D.int)[L'.length - 1]? = some (D.int x) := by
      rw [e]; simp
    have hd : (L'.map D.int).dropLast = M.map D.int := by
      rw [e]; simp
    have B := Put.set (o := .lst (M.map D.int)) f2
    have b1 : (A1.set q (.lst (M.map D.int)))[h]? = some (.lst [.ref q, .int s]) := (B.2.2 h hq).trans f1
    have b2 := B.2.1
    have C := Put.set (o := .lst (M.map D.int ++ [D.int (x / k)])) b2
    have ml : M.length ≤ 62 := by
      have : L'.length = M.length + 1 := by rw [e]; simp
      omega
    refine ⟨x % k, _, ?_, Int.emod_nonneg _ (by omega), Int.emod_lt_of_pos _ h0, ?_, ⟨hq, M ++ [x / k], s, (C.2.2 h hq).trans b1, ?_, by simp; omega, s0, s1⟩, fun n a b => (C.2.2 n b).trans ((B.2.2 n b).trans (P.2.2 n b))⟩
    · have hlen : (M.map D.int).length < 16777216 := by rw [List.length_map]; omega
      rw [List.length_map] at hlen
      simp only [hg, hd, mFun, mSeq, w', mIfS, mTst, mOp, mVar, mK, mLst, mNil, mCons, mCall, mRet, mSet, mDrop, mPop, mMet, ix_ref f1 at_ref0, eq_refnil f2, hne, f2, b2, ix_ref b1 at_ref0, fApp, fMod, fDiv, fI, fInt, cw, c64, h0, h1, hlen,
        List.map_cons, List.map_nil, List.cons_append, List.nil_append, List.length_cons, List.length_nil, List.getElem?_cons_zero, List.getElem?_cons_succ, List.set_cons_succ, List.set_cons_zero, bind_ok, lift_ok, List.replicate, Nat.reduceAdd, Nat.reduceSub, Nat.reduceLeDiff, if_true, and_self, Bool.not_false, List.length_map]
    · exact C.1.trans (B.1.trans P.1)
    · rw [C.2.1]; simp
theorem ofN_ok {h q : Nat} {A : AH} {xs : List D} (hs : HS h q A) (h0 : 0 < xs.length) (h1 : xs.length < 1073741824) : ∃ (i : Nat) (hi : i < xs.length) (A' : AH), pickM anyN [.ref h, .lst xs] A = .ok xs[i] A' ∧ Drawn h q A A' := by
  obtain ⟨v, A', e, v0, v1, dr⟩ := anyN_ok (k := (xs.length : Int)) hs (by omega) (by omega)
  obtain ⟨i, rfl⟩ : ∃ i : Nat, v = i := ⟨v.toNat, by omega⟩
  have hi : i < xs.length := by omega
  refine ⟨i, hi, A', ?_, dr⟩
  have ha : atI xs (i : Int) = some xs[i] := atI_nat (List.getElem?_eq_getElem hi)
  simp [pickM, mFun, mRet, mOp, mVar, mCallF, mCons, mNil, mCall, fLen, seqOf, e, ix_lst ha]
/-- a comprehension whose parts change nothing -/
theorem nstir_go {d0 d1 d2 d4 : Option D} {all : List D} {A : AH} : ∀ (L : List Int) (s : Int), 0 ≤ s → s < 2147483647 → ∃ s' d, 0 ≤ s' ∧ s' < 2147483647 ∧
    forGo (.sq (.lst all)) all (.nm 4) (mSet 3 (mOp fMod (mCall fInt (mCons (mOp fAdd (mOp fAdd (mOp fMulA (mVar 3) (mK (.int 48271))) (mOp fMod (mVar 4) (mK (.int 2147483579)))) (mK (.int 61))) (mNil))) (mK (.int 2147483647)))) (L.map D.int) [d0, d1, d2, some (.int s), d4] A
      = .nx [d0, d1, d2, some (.int s'), d] A
  | [], s, h0, h1 => ⟨s, d4, h0, h1, by simp [forGo, itemsOf, seqOf]⟩
  | x :: L, s, h0, h1 => by
    obtain ⟨s', d, a, b, e⟩ := nstir_go (d0 := d0) (d1 := d1) (d2 := d2) (d4 := some (.int x)) (all := all) (A := A) L ((s * 48271 + x % 2147483579 + 61) % 2147483647) (Int.emod_nonneg _ (by omega)) (Int.emod_lt_of_pos _ (by omega))
    refine ⟨s', d, a, b, ?_⟩
    have cm : CMul s 48271 := .inl ⟨by omega, by omega⟩
    rw [List.map_cons]
    unfold forGo
    simp only [itemsOf, seqOf, if_true, bindT, List.set_cons_succ, List.set_cons_zero, mSet, mOp, mCall, mCons, mNil, mVar, mK, List.getElem?_cons_zero, List.getElem?_cons_succ, bind_ok, fMulA, fI, cm, fMod, fAdd, fInt, lift_ok, show (0 : Int) < 2147483579 by decide, show (0 : Int) < 2147483647 by decide]
    exact e
theorem dealN_ok {A : AH} {ns : List Int} {b : Int} (b0 : 0 ≤ b) (b1 : b < 1000) : ∃ h q A', dealN [.lst (ns.map D.int), .int b] A = .ok (.ref h) A' ∧ HS h q A' ∧ A'.length = A.length + 2 ∧ h = A.length + 1 ∧ q = A.length ∧ ∀ n, n < A.length → A'[n]? = A[n]? := by
  have cz : ∀ L : List Int, (L.map D.int).map (fun d => match d with | .int i => D.int (if i < 0 then -i else i) | d => d) = (L.map fun i => if i < 0 then -i else i).map D.int := fun L => by
    rw [List.map_map, List.map_map]; rfl
  obtain ⟨M, hMl, e63⟩ : ∃ M : List Int, M.length ≤ 63 ∧ DM.cutD (ns.map D.int) none (some 63) = M.map D.int := by
    unfold DM.cutD
    rw [HT.sIx_none, show (63 : Int) = ((63 : Nat) : Int) from rfl, HT.sIx_nat]
    exact ⟨(ns.drop 0).take (min 63 (ns.map D.int).length - 0), by rw [List.length_take]; omega, by rw [List.map_take, List.map_drop]⟩
  have cm : CMul 40127 b := .inl ⟨by decide, by decide⟩
  generalize hC : (M.map fun i => if i < 0 then -i else i) = C at *
  have hCl : C.length ≤ 63 := by rw [← hC, List.length_map]; exact hMl
  have c1 : ∀ d1 d3, compGo (.sq (.lst (M.map D.int))) (M.map D.int) (.nm 4) mYes (mCall fAbs (mCons (mCall fInt (mCons (mVar 4) mNil)) mNil)) [some (.lst (ns.map D.int)), d1, none, d3, none] (M.map D.int) [] A = .ok (C.map D.int) A := fun d1 d3 => by
    rw [comp_pure (p := fun _ => true) (f := fun d => match d with | .int i => D.int (if i < 0 then -i else i) | d => d) rfl _ _ fun x hx => ?_]
    · rw [filter_true, cz, hC]; rfl
    · obtain ⟨i, _, rfl⟩ := List.mem_map.mp hx
      exact ⟨_, rfl, rfl, fun _ => rfl⟩
  obtain ⟨s', d, s0, s1, st⟩ := nstir_go (d0 := some (.lst (ns.map D.int))) (d1 := some (.int b)) (d2 := some (.lst (C.map D.int))) (d4 := none) (all := C.map D.int) (A := A) C (40127 * b + 863) (by omega) (by omega)
  have pw : CPow 10 18 := ⟨by decide, by decide, by decide⟩
  have c2 : ∀ d3, compGo (.sq (.lst (C.map D.int))) (C.map D.int) (.nm 4) (mTst (mOp fGe (mVar 4) (mOp fPow (mK (.int 10)) (mK (.int 18))))) (mVar 4) [some (.lst (ns.map D.int)), some (.int b), some (.lst (C.map D.int)), d3, none] (C.map D.int) [] A = .ok ((C.filter fun i => decide ((10 : Int) ^ 18 ≤ i)).map D.int) A := fun d3 => by
    rw [comp_pure (p := fun d => match d with | .int i => decide ((10 : Int) ^ 18 ≤ i) | _ => true) (f := fun d => d) rfl _ _ fun x hx => ?_]
    · rw [List.map_id', List.filter_map]; rfl
    · obtain ⟨i, _, rfl⟩ := List.mem_map.mp hx
      refine ⟨_, rfl, ?_, fun _ => rfl⟩
      simp only [mTst, mOp, mVar, mK, bindT, List.set_cons_succ, List.set_cons_zero, List.getElem?_cons_zero, List.getElem?_cons_succ, bind_ok, fPow, fI, pw, if_true, fGe, fI0]
      rfl
  generalize hF : (C.filter fun i => decide ((10 : Int) ^ 18 ≤ i)) = F at *
  have hFl : F.length ≤ 63 := by rw [← hF]; exact Nat.le_trans (List.length_filter_le _ _) hCl
  have z1 : (M.map D.int).length ≤ 16777216 := by rw [List.length_map]; omega
  have z2 : (C.map D.int).length ≤ 16777216 := by rw [List.length_map]; omega
  refine ⟨A.length + 1, A.length, A ++ [.lst (F.map D.int).reverse] ++ [.lst [.ref A.length, .int s']], ?_, ⟨by omega, F.reverse, s', ?_, ?_, by rw [List.length_reverse]; exact hFl, s0, s1⟩, by simp, rfl, rfl, fun n hn => ?_⟩
  · unfold dealN
    refine fun_rt ?_
    refine (seq_nx (ρ1 := [some (.lst (ns.map D.int)), some (.int b), some (.lst (C.map D.int)), none, none]) (A1 := A) ?_).trans ?_
    · simp only [ev_var, ev_K, ev_op, ev_neg, ev_tst, ev_and, ev_or, ev_not, ev_andV, ev_orV, ev_notV, ev_if, ev_chn, ev_nil, ev_cons, ev_tup, ev_lst, ev_new, ev_call, ev_callF, ev_callK, ev_met, ev_sl, ev_some, ev_none, ev_rev, ev_yes, ev_sq, ev_r1, ev_next, ev_drop, ev_ret, ev_ifs, ev_set, ev_par2, ev_par3, ev_asg, ev_nm, List.getElem?_cons_zero, List.getElem?_cons_succ, List.set_cons_zero, List.set_cons_succ, bind_ok, lift_ok, List.length_cons, List.length_nil, Nat.reduceAdd, Nat.reduceLeDiff, ↓reduceIte, if_true, if_false, Bool.false_eq_true, ev_lc, fSl, fAdd, fInt, seqOf, e63, itemsOf, z1, wipeD, List.map_cons, List.map_nil, List.replicate, List.cons_append, List.nil_append, List.foldl_cons, List.foldl_nil, Nat.reduceSub, c1]
    refine (seq_nx (ρ1 := [some (.lst (ns.map D.int)), some (.int b), some (.lst (C.map D.int)), some (.int (40127 * b + 863)), none]) (A1 := A) ?_).trans ?_
    · simp only [ev_var, ev_K, ev_op, ev_neg, ev_tst, ev_and, ev_or, ev_not, ev_andV, ev_orV, ev_notV, ev_if, ev_chn, ev_nil, ev_cons, ev_tup, ev_lst, ev_new, ev_call, ev_callF, ev_callK, ev_met, ev_sl, ev_some, ev_none, ev_rev, ev_yes, ev_sq, ev_r1, ev_next, ev_drop, ev_ret, ev_ifs, ev_set, ev_par2, ev_par3, ev_asg, ev_nm, List.getElem?_cons_zero, List.getElem?_cons_succ, List.set_cons_zero, List.set_cons_succ, bind_ok, lift_ok, List.length_cons, List.length_nil, Nat.reduceAdd, Nat.reduceLeDiff, ↓reduceIte, if_true, if_false, Bool.false_eq_true, fMulA, fI, cm, fAdd]
    refine (seq_nx (ρ1 := [some (.lst (ns.map D.int)), some (.int b), some (.lst (C.map D.int)), some (.int s'), d]) (A1 := A) ?_).trans ?_
    · simp only [ev_var, ev_K, ev_op, ev_neg, ev_tst, ev_and, ev_or, ev_not, ev_andV, ev_orV, ev_notV, ev_if, ev_chn, ev_nil, ev_cons, ev_tup, ev_lst, ev_new, ev_call, ev_callF, ev_callK, ev_met, ev_sl, ev_some, ev_none, ev_rev, ev_yes, ev_sq, ev_r1, ev_next, ev_drop, ev_ret, ev_ifs, ev_set, ev_par2, ev_par3, ev_asg, ev_nm, List.getElem?_cons_zero, List.getElem?_cons_succ, List.set_cons_zero, List.set_cons_succ, bind_ok, lift_ok, List.length_cons, List.length_nil, Nat.reduceAdd, Nat.reduceLeDiff, ↓reduceIte, if_true, if_false, Bool.false_eq_true, ev_for, itemsOf, seqOf]
      exact st
    simp only [ev_var, ev_K, ev_op, ev_neg, ev_tst, ev_and, ev_or, ev_not, ev_andV, ev_orV, ev_notV, ev_if, ev_chn, ev_nil, ev_cons, ev_tup, ev_lst, ev_new, ev_call, ev_callF, ev_callK, ev_met, ev_sl, ev_some, ev_none, ev_rev, ev_yes, ev_sq, ev_r1, ev_next, ev_drop, ev_ret, ev_ifs, ev_set, ev_par2, ev_par3, ev_asg, ev_nm, List.getElem?_cons_zero, List.getElem?_cons_succ, List.set_cons_zero, List.set_cons_succ, bind_ok, lift_ok, List.length_cons, List.length_nil, Nat.reduceAdd, Nat.reduceLeDiff, ↓reduceIte, if_true, if_false, Bool.false_eq_true, ev_lc, seqOf, itemsOf, z2, wipeD, List.foldl_cons, List.foldl_nil, c2, isTup]
    simp
  · rw [List.getElem?_append_right (by simp)]; simp
  · rw [List.getElem?_append_left (by simp), List.getElem?_append_right (by simp)]; simp
  · rw [List.getElem?_append_left (by simp; omega), List.getElem?_append_left hn]
end DM
end
section
set_option maxHeartbeats 1000000
namespace TR
open PySem PySem.Spec PyProof.Rows L2 DM
/-! ### dicts with the keys of a row of entries -/
def kvM (es : List En) (f : En → D) : List (Key × D) := es.map fun e => ((.inr e.1 : Key), f e)
abbrev KvP (kvs : List (Key × D)) (es : List En) (f : En → D) : Prop := kvs.Perm (kvM es f)
theorem valD_mem {k : Key} {x : D} : ∀ {kvs : List (Key × D)}, (kvs.map (·.1)).Nodup → (k, x) ∈ kvs → valD kvs k = some x
  | y :: r, nd, h => by
    rw [List.map_cons, List.nodup_cons] at nd
    unfold valD
    rw [List.find?_cons]
    rcases List.mem_cons.mp h with h | h
    · rw [← h]; simp
    · have hy : y.1 ≠ k := fun z => nd.1 (z ▸ List.mem_map_of_mem (f := (·.1)) h)
      rw [decide_eq_false hy]
      exact valD_mem nd.2 h
theorem valD_no {k : Key} {kvs : List (Key × D)} (h : k ∉ kvs.map (·.1)) : valD kvs k = none := by
  unfold valD
  have q : kvs.find? (fun kv => decide (kv.1 = k)) = none := List.find?_eq_none.mpr fun kv hkv z => by
    have z : kv.1 = k := of_decide_eq_true z
    exact h (z ▸ List.mem_map_of_mem (f := (·.1)) hkv)
  rw [q]
  rfl
theorem kvM_nodup {es : List En} {f : En → D} (hs : Srt es) : ((kvM es f).map (·.1)).Nodup := by
  unfold kvM
  rw [List.map_map, List.Nodup, List.pairwise_map]
  refine hs.imp fun {a b} h z => ?_
  have : a.1 = b.1 := Sum.inr.inj z
  exact lt_ir (this ▸ h)
variable {kvs : List (Key × D)} {es : List En} {f : En → D} {k : Str} {v : D} {A : AH}
theorem KvP.nodup (h : KvP kvs es f) (hs : Srt es) : (kvs.map (·.1)).Nodup := (List.Perm.nodup_iff (h.map (·.1))).mpr (kvM_nodup hs)
theorem KvP.len (h : KvP kvs es f) : kvs.length = es.length := by
  rw [h.length_eq]; exact List.length_map ..
theorem KvP.val (h : KvP kvs es f) (hs : Srt es) : valD kvs (.inr k) = (getE es k).map f := by
  cases hg : getE es k with
  | none =>
    refine valD_no fun hk => ?_
    have hk := (h.map (·.1)).mem_iff.mp hk
    unfold kvM at hk
    rw [List.map_map] at hk
    obtain ⟨e, he, z⟩ := List.mem_map.mp hk
    have z : e.1 = k := Sum.inr.inj z
    rw [← z, getE_of hs he] at hg
    cases hg
  | some e =>
    have he : e ∈ es := List.mem_of_find?_eq_some hg
    have hk : e.1 = k := by have := List.find?_some hg; simpa using this
    refine valD_mem (h.nodup hs) (h.mem_iff.mpr ?_)
    rw [← hk]
    exact List.mem_map.mpr ⟨e, he, rfl⟩
theorem putKD_perm {a : Key} {x : D} : ∀ {kvs : List (Key × D)}, (kvs.map (·.1)).Nodup → (putKD kvs a x).Perm ((a, x) :: dropKD kvs a) := by
  intro kvs nd
  by_cases h : a ∈ kvs.map (·.1)
  · have e : putKD kvs a x = kvs.map (fun kv => if kv.1 = a then (kv.1, x) else kv) := by
      unfold putKD
      rw [if_pos]
      obtain ⟨kv, h1, h2⟩ := List.mem_map.mp h
      exact List.any_eq_true.mpr ⟨kv, h1, decide_eq_true h2⟩
    rw [e]
    clear e
    induction kvs with
    | nil => simp at h
    | cons y r ih =>
      rw [List.map_cons, List.nodup_cons] at nd
      rw [List.map_cons]
      unfold dropKD
      rw [List.filter_cons]
      by_cases hy : y.1 = a
      · have hr : ∀ z ∈ r, z.1 ≠ a := fun z hz e => nd.1 (hy ▸ e ▸ List.mem_map_of_mem (f := (·.1)) hz)
        have m1 : r.map (fun kv => if kv.1 = a then (kv.1, x) else kv) = r := by
          conv => rhs; rw [← List.map_id r]
          exact List.map_congr_left fun z hz => by rw [if_neg (hr z hz)]; rfl
        have m2 : r.filter (fun kv => decide (kv.1 ≠ a)) = r := List.filter_eq_self.mpr fun z hz => decide_eq_true (hr z hz)
        rw [if_pos hy, m1, m2, if_neg (by rw [decide_eq_true_eq]; exact fun z => z hy), hy]
      · have ha : a ∈ r.map (·.1) := by
          rcases List.mem_cons.mp h with z | z
          · exact absurd z.symm hy
          · exact z
        rw [if_neg hy, if_pos (decide_eq_true hy)]
        exact ((ih nd.2 ha).cons y).trans (.swap ..)
  · have hr : ∀ z ∈ kvs, z.1 ≠ a := fun z hz e => h (e ▸ List.mem_map_of_mem (f := (·.1)) hz)
    have e : putKD kvs a x = kvs ++ [(a, x)] := by
      unfold putKD
      rw [if_neg]
      rw [List.any_eq_true]
      rintro ⟨z, hz, q⟩
      exact hr z hz (of_decide_eq_true q)
    have m2 : dropKD kvs a = kvs := List.filter_eq_self.mpr fun z hz => decide_eq_true (hr z hz)
    rw [e, m2]
    exact List.perm_append_singleton ..
theorem insE_perm (hs : Srt es) : (insE es k v).Perm ((k, v) :: delE es k) := by
  obtain ⟨a, b, e, ha, hb, e1, h⟩ := srt_cut (k := k) hs
  unfold insE
  rw [← e1]
  have fa : a.filter (fun e => decide (e.1 ≠ k)) = a := fil_all fun e he => decide_eq_true fun z => lt_ir (z ▸ ha e he)
  have ng : ∀ {l : List En}, (∀ e ∈ l, sLt k e.1) → l.filter (fun e => decide (e.1 ≠ k)) = l := fun {l} hl => fil_all fun e he => decide_eq_true fun z => lt_ir (z ▸ hl e he)
  have key : delE es k = a ++ es.filter (fun e => decide (sLt k e.1)) := by
    rcases h with ⟨h1, h2⟩ | ⟨w, b', h1, h2, h3⟩
    · rw [← h1, e]
      unfold delE
      rw [List.filter_append, fa, ng h2]
    · rw [← h2, e, h1]
      unfold delE
      rw [List.filter_append, fa, List.filter_cons, if_neg (by simp), ng h3]
  rw [key]
  exact List.perm_middle
theorem kvM_del : kvM (delE es k) f = (kvM es f).filter fun kv => decide (kv.1 ≠ Sum.inr k) := by
  unfold kvM delE
  rw [List.filter_map]
  congr 1
  refine List.filter_congr fun e _ => ?_
  show decide (e.1 ≠ k) = decide ((Sum.inr e.1 : Key) ≠ Sum.inr k)
  refine decide_eq_decide.mpr ⟨fun h z => h (Sum.inr.inj z), fun h z => h (by rw [z])⟩
theorem KvP.drop (h : KvP kvs es f) : KvP (dropKD kvs (.inr k)) (delE es k) f := by
  show (dropKD kvs (.inr k)).Perm (kvM (delE es k) f)
  rw [kvM_del]
  exact h.filter _
theorem KvP.put (h : KvP kvs es f) (hs : Srt es) : KvP (putKD kvs (.inr k) (f (k, v))) (insE es k v) f := by
  have := (insE_perm (k := k) (v := v) hs).map fun e : En => ((.inr e.1 : Key), f e)
  exact (putKD_perm (h.nodup hs)).trans ((List.Perm.cons _ (KvP.drop h)).trans this.symm)
theorem strKeys_inr : ∀ {kvs : List (Key × D)} {ks : List Str}, kvs.map (·.1) = ks.map Sum.inr → strKeys kvs = some ks
  | [], ks, h => by cases ks with
    | nil => rfl
    | cons a b => simp at h
  | (a, x) :: r, ks, h => by
    cases ks with
    | nil => simp at h
    | cons b bs =>
      rw [List.map_cons, List.map_cons, List.cons.injEq] at h
      obtain ⟨h1, h2⟩ := h
      simp only at h1
      subst h1
      unfold strKeys
      rw [strKeys_inr h2]
      rfl
theorem srt_keys {es : List En} (hs : Srt es) : (es.map (·.1)).Pairwise fun a b => sLe a b = true := by
  rw [List.pairwise_map]
  exact hs.imp fun h => le_of_nlt (lt_as h)
theorem KvP.sorted {n : Nat} (h : KvP kvs es f) (hs : Srt es) (hn : A[n]? = some (.dk kvs)) (hl : es.length < 64) : fSortD [.ref n] A = .ok (.lst (es.map fun e => .str e.1)) A := by
  have hall : ∀ kv ∈ kvs, ∃ s, kv.1 = Sum.inr s := fun kv hkv => by
    obtain ⟨e, _, z⟩ := List.mem_map.mp (h.mem_iff.mp hkv)
    exact ⟨e.1, by rw [← z]⟩
  obtain ⟨ks, h1, h2⟩ : ∃ ks : List Str, kvs.map (·.1) = ks.map Sum.inr ∧ (es.map (·.1)).Perm ks := by
    refine ⟨kvs.map (fun kv => match kv.1 with | .inr s => s | _ => ""), ?_, ?_⟩
    · rw [List.map_map]
      exact List.map_congr_left fun kv hkv => by
        obtain ⟨s, z⟩ := hall kv hkv
        rcases kv with ⟨a, b⟩
        cases z
        rfl
    · have := h.map (fun kv : Key × D => match kv.1 with | .inr s => s | _ => "")
      refine List.Perm.symm (this.trans (.of_eq ?_))
      unfold kvM
      rw [List.map_map]
      rfl
  have hlk : ks.length < 64 := by rw [← h2.length_eq, List.length_map]; exact hl
  unfold fSortD
  simp only [hn, strKeys_inr h1, hlk, if_true, ← srtS_uniq h2 (srt_keys hs), List.map_map]
  rfl
/-! ### a tree that changes -/
def tF (m : Nat) (d : D) (Kn : Nat) : List (Str × D) := [("most", .int (m : Int)), ("_page", d), ("_known", .ref Kn)]
structure Tr (T Kn m : Nat) (es : List En) (A : AH) : Prop where
  h3 : 3 ≤ m
  hm : m ≤ 16
  srt : Srt es
  ne : T ≠ Kn
  ex : ∃ n d kvs, A[T]? = some (.ins "Tree" (tF m d Kn)) ∧ Root m n d es ∧ A[Kn]? = some (.dk kvs) ∧ KvP kvs es (fun _ => .bl true)
theorem Tr.keep {T Kn m : Nat} {A B : AH} (t : Tr T Kn m es A) (h1 : B[T]? = A[T]?) (h2 : B[Kn]? = A[Kn]?) : Tr T Kn m es B := by
  obtain ⟨n, d, kvs, a, b, c, e⟩ := t.ex
  exact ⟨t.h3, t.hm, t.srt, t.ne, n, d, kvs, h1.trans a, b, h2.trans c, e⟩
theorem Tr.lt {T Kn m : Nat} {A : AH} (t : Tr T Kn m es A) : T < A.length ∧ Kn < A.length := by
  obtain ⟨n, d, kvs, a, b, c, e⟩ := t.ex
  exact ⟨(List.getElem?_eq_some_iff.mp a).1, (List.getElem?_eq_some_iff.mp c).1⟩
theorem put_pg {m Kn : Nat} {d d' : D} : putFD "_page" d' (tF m d Kn) = tF m d' Kn := by
  unfold tF
  rfl
theorem tree_root {T Kn m : Nat} (t : Tr T Kn m es A) : ∃ n d, f_Tree__root [.ref T] A = .ok d A ∧ Ok m n d es := by
  obtain ⟨n, d, kvs, a, b, c, e⟩ := t.ex
  refine ⟨n, d, ?_, b.1⟩
  have q := fld_run (ρ := [some (.ref T)]) (A := A) (me := mVar 0) (f := "_page") (x := d) rfl a rfl
  unfold f_Tree__root
  refine fun_rt ?_
  rw [ev_ret]
  exact (congrArg (fun z => lift z _ _) q).trans rfl
theorem tree_put {T Kn m : Nat} {key : Str} (t : Tr T Kn m es A) (g : KG key) (hl : es.length ≤ 255) : ∃ A', f_Tree__put [.ref T, .str key, v] A = .ok (.bl (!(getE es key).isSome)) A' ∧ Tr T Kn m (insE es key v) A' ∧ A'.length = A.length ∧ ∀ n, n ≠ T → n ≠ Kn → A'[n]? = A[n]? := by
  obtain ⟨n, d, kvs, a, b, c, e⟩ := t.ex
  obtain ⟨n', d', w, b'⟩ := with_ok (A := A) (key := key) (v := v) t.h3 t.hm b t.srt hl
  have hh := has_at (A := A) (key := key) t.h3 t.hm b.1 t.srt
  have hn := need_ok (A := A) g
  have c1 : (A.set T (.ins "Tree" (tF m d' Kn)))[Kn]? = some (.dk kvs) := by rw [List.getElem?_set_ne t.ne]; exact c
  have a1 : (A.set T (.ins "Tree" (tF m d' Kn)))[T]? = some (.ins "Tree" (tF m d' Kn)) := by rw [List.getElem?_set_self t.lt.1]
  refine ⟨(A.set T (.ins "Tree" (tF m d' Kn))).set Kn (.dk (putKD kvs (.inr key) (.bl true))), ?_, ⟨t.h3, t.hm, insE_srt t.srt, t.ne, n', d', _, ?_, b', List.getElem?_set_self (by rw [List.length_set]; exact t.lt.2), e.put (v := v) t.srt⟩, by rw [List.length_set, List.length_set], fun n h1 h2 => by rw [List.getElem?_set_ne (Ne.symm h2), List.getElem?_set_ne (Ne.symm h1)]⟩
  · generalize (getE es key).isSome = bb at hh
    have q0 : ∀ x3 : Option D, mFld "Tree" "_page" (mVar 0) [some (.ref T), some (.str key), some v, x3] A = .ok d A := fun x3 => fld_run rfl a rfl
    have q1 : ∀ x3 : Option D, mFld "Tree" "most" (mVar 0) [some (.ref T), some (.str key), some v, x3] A = .ok (.int (m : Int)) A := fun x3 => fld_run rfl a rfl
    have z0 : mCallF 1 f_need_key (mCons (mVar 1) (mNil)) [some (.ref T), some (.str key), some v, none] A = .ok .non A := callF_at (A1 := A) (ds := [.str key]) rfl rfl hn
    have z1 : mCallF 2 f_has (mCons (mFld "Tree" "_page" (mVar 0)) (mCons (mVar 1) (mNil))) [some (.ref T), some (.str key), some v, none] A = .ok (.bl bb) A := callF_at (A1 := A) (ds := [d, .str key]) (by rw [ev_cons, q0, bind_ok]; rfl) rfl hh
    have z2 : ∀ x3 : Option D, mCallF 4 f_with_entry (mCons (mFld "Tree" "most" (mVar 0)) (mCons (mFld "Tree" "_page" (mVar 0)) (mCons (mVar 1) (mCons (mVar 2) (mNil))))) [some (.ref T), some (.str key), some v, x3] A = .ok d' A := fun x3 => callF_at (A1 := A) (ds := [.int (m : Int), d, .str key, v]) (by rw [ev_cons, q1, bind_ok, ev_cons, q0, bind_ok]; rfl) rfl w
    have z3 : ∀ x3 : Option D, mSetF "Tree" "_page" (mCallF 4 f_with_entry (mCons (mFld "Tree" "most" (mVar 0)) (mCons (mFld "Tree" "_page" (mVar 0)) (mCons (mVar 1) (mCons (mVar 2) (mNil)))))) (mVar 0) [some (.ref T), some (.str key), some v, x3] A = .nx [some (.ref T), some (.str key), some v, x3] (A.set T (.ins "Tree" (tF m d' Kn))) := fun x3 => by
      rw [setF_run (z2 x3) rfl a (by unfold tF; simp), put_pg]
    have q2 : ∀ x3 : Option D, mFld "Tree" "_known" (mVar 0) [some (.ref T), some (.str key), some v, x3] (A.set T (.ins "Tree" (tF m d' Kn))) = .ok (.ref Kn) (A.set T (.ins "Tree" (tF m d' Kn))) := fun x3 => fld_run rfl a1 rfl
    have z4 : ∀ x3 : Option D, mDPut (mK (.bl true)) (mFld "Tree" "_known" (mVar 0)) (mVar 1) [some (.ref T), some (.str key), some v, x3] (A.set T (.ins "Tree" (tF m d' Kn))) = .nx [some (.ref T), some (.str key), some v, x3] ((A.set T (.ins "Tree" (tF m d' Kn))).set Kn (.dk (putKD kvs (.inr key) (.bl true)))) := fun x3 => dput_run (y := .bl true) (e := .str key) rfl (q2 x3) rfl c1 rfl (by rw [e.len]; omega)
    unfold f_Tree__put
    refine fun_rt ?_
    refine (seq_nx (ρ1 := [some (.ref T), some (.str key), some v, none]) (A1 := A) ?_).trans ?_
    · rw [ev_drop]; exact (congrArg (fun z => lift z _ _) z0).trans rfl
    refine (seq_nx (ρ1 := [some (.ref T), some (.str key), some v, some (.bl (!bb))]) (A1 := A) ?_).trans ?_
    · simp only [ev_set, ev_notV, ev_tst, z1, bind_ok, lift_ok]
      rfl
    refine (seq_nx (z3 _)).trans ?_
    refine (seq_nx (z4 _)).trans ?_
    rfl
  · rw [List.getElem?_set_ne (Ne.symm t.ne)]; exact a1
theorem getE_some {es : List En} {key : Str} (h : (getE es key).isSome = true) : ∃ v, (key, v) ∈ es := by
  cases hg : getE es key with
  | none => rw [hg] at h; cases h
  | some e =>
    have hk : e.1 = key := by have := List.find?_some hg; simpa using this
    exact ⟨e.2, by rw [← hk]; exact List.mem_of_find?_eq_some hg⟩
theorem delE_no {es : List En} {key : Str} (h : (getE es key).isSome = false) : delE es key = es := by
  refine fil_all fun e he => decide_eq_true fun z => ?_
  cases hg : getE es key with
  | some x => rw [hg] at h; cases h
  | none =>
    have := List.find?_eq_none.mp hg e he
    simp [z] at this
theorem tree_take {T Kn m : Nat} {key : Str} (t : Tr T Kn m es A) (g : KG key) (hl : es.length ≤ 255) : ∃ A', f_Tree__take [.ref T, .str key] A = .ok (.bl (getE es key).isSome) A' ∧ Tr T Kn m (delE es key) A' ∧ A'.length = A.length ∧ ∀ n, n ≠ T → n ≠ Kn → A'[n]? = A[n]? := by
  obtain ⟨n, d, kvs, a, b, c, e⟩ := t.ex
  have hh := has_at (A := A) (key := key) t.h3 t.hm b.1 t.srt
  have hn := need_ok (A := A) g
  have q0 : mFld "Tree" "_page" (mVar 0) [some (.ref T), some (.str key)] A = .ok d A := fld_run rfl a rfl
  have q1 : mFld "Tree" "most" (mVar 0) [some (.ref T), some (.str key)] A = .ok (.int (m : Int)) A := fld_run rfl a rfl
  have z0 : mCallF 1 f_need_key (mCons (mVar 1) (mNil)) [some (.ref T), some (.str key)] A = .ok .non A := callF_at (A1 := A) (ds := [.str key]) rfl rfl hn
  cases hg : (getE es key).isSome with
  | false =>
    rw [hg] at hh
    have z1 : mCallF 2 f_has (mCons (mFld "Tree" "_page" (mVar 0)) (mCons (mVar 1) (mNil))) [some (.ref T), some (.str key)] A = .ok (.bl false) A := callF_at (A1 := A) (ds := [d, .str key]) (by rw [ev_cons, q0, bind_ok]; rfl) rfl hh
    refine ⟨A, ?_, by rw [delE_no hg]; exact t, rfl, fun _ _ _ => rfl⟩
    unfold f_Tree__take
    refine fun_rt ?_
    refine (seq_nx (ρ1 := [some (.ref T), some (.str key)]) (A1 := A) ?_).trans ?_
    · rw [ev_drop]; exact (congrArg (fun z => lift z _ _) z0).trans rfl
    refine (seq_rt (d := .bl false) (A1 := A) ?_)
    simp only [ev_ifs, ev_not, ev_tst, z1, bind_ok, Bool.not_false]
    rfl
  | true =>
    rw [hg] at hh
    have z1 : mCallF 2 f_has (mCons (mFld "Tree" "_page" (mVar 0)) (mCons (mVar 1) (mNil))) [some (.ref T), some (.str key)] A = .ok (.bl true) A := callF_at (A1 := A) (ds := [d, .str key]) (by rw [ev_cons, q0, bind_ok]; rfl) rfl hh
    obtain ⟨n', d', w, b'⟩ := without_ok (A := A) (key := key) t.h3 t.hm b t.srt hl (getE_some hg)
    have c1 : (A.set T (.ins "Tree" (tF m d' Kn)))[Kn]? = some (.dk kvs) := by rw [List.getElem?_set_ne t.ne]; exact c
    have a1 : (A.set T (.ins "Tree" (tF m d' Kn)))[T]? = some (.ins "Tree" (tF m d' Kn)) := by rw [List.getElem?_set_self t.lt.1]
    refine ⟨(A.set T (.ins "Tree" (tF m d' Kn))).set Kn (.dk (dropKD kvs (.inr key))), ?_, ⟨t.h3, t.hm, t.srt.filter _, t.ne, n', d', _, ?_, b', List.getElem?_set_self (by rw [List.length_set]; exact t.lt.2), e.drop⟩, by rw [List.length_set, List.length_set], fun n h1 h2 => by rw [List.getElem?_set_ne (Ne.symm h2), List.getElem?_set_ne (Ne.symm h1)]⟩
    · have z2 : mCallF 3 f_without_entry (mCons (mFld "Tree" "most" (mVar 0)) (mCons (mFld "Tree" "_page" (mVar 0)) (mCons (mVar 1) (mNil)))) [some (.ref T), some (.str key)] A = .ok d' A := callF_at (A1 := A) (ds := [.int (m : Int), d, .str key]) (by rw [ev_cons, q1, bind_ok, ev_cons, q0, bind_ok]; rfl) rfl w
      have z3 : mSetF "Tree" "_page" (mCallF 3 f_without_entry (mCons (mFld "Tree" "most" (mVar 0)) (mCons (mFld "Tree" "_page" (mVar 0)) (mCons (mVar 1) (mNil))))) (mVar 0) [some (.ref T), some (.str key)] A = .nx [some (.ref T), some (.str key)] (A.set T (.ins "Tree" (tF m d' Kn))) := by
        rw [setF_run z2 rfl a (by unfold tF; simp), put_pg]
      have q2 : mFld "Tree" "_known" (mVar 0) [some (.ref T), some (.str key)] (A.set T (.ins "Tree" (tF m d' Kn))) = .ok (.ref Kn) (A.set T (.ins "Tree" (tF m d' Kn))) := fld_run rfl a1 rfl
      have hv : ∃ x, valD kvs (.inr key) = some x := by
        rw [e.val t.srt]
        cases hq : getE es key with
        | none => rw [hq] at hg; cases hg
        | some x => exact ⟨_, rfl⟩
      obtain ⟨x, hv⟩ := hv
      have z4 : mDDel (mFld "Tree" "_known" (mVar 0)) (mVar 1) [some (.ref T), some (.str key)] (A.set T (.ins "Tree" (tF m d' Kn))) = .nx [some (.ref T), some (.str key)] ((A.set T (.ins "Tree" (tF m d' Kn))).set Kn (.dk (dropKD kvs (.inr key)))) := by
        unfold mDDel
        rw [q2]
        have hk : keyOf (.str key) = some (.inr key) := rfl
        simp only [lift_ok, c1, mVar, List.getElem?_cons_succ, List.getElem?_cons_zero, hk, hv]
      unfold f_Tree__take
      refine fun_rt ?_
      refine (seq_nx (ρ1 := [some (.ref T), some (.str key)]) (A1 := A) ?_).trans ?_
      · rw [ev_drop]; exact (congrArg (fun z => lift z _ _) z0).trans rfl
      refine (seq_nx (ρ1 := [some (.ref T), some (.str key)]) (A1 := A) ?_).trans ?_
      · simp only [ev_ifs, ev_not, ev_tst, z1, bind_ok, Bool.not_true]
        rfl
      refine (seq_nx z3).trans ?_
      refine (seq_nx z4).trans ?_
      rfl
    · rw [List.getElem?_set_ne (Ne.symm t.ne)]; exact a1
theorem tree_init {m : Nat} {B : AH} (h3 : 3 ≤ m) (hm : m ≤ 16) : ∃ A', f_Tree__init [.ref B.length, .int (m : Int)] (B ++ [.ins "Tree" []]) = .ok .non A' ∧ Tr B.length (B.length + 1) m [] A' ∧ A'.length = B.length + 2 ∧ ∀ n, n < B.length → A'[n]? = B[n]? := by
  have hn := need_most_ok (A := B ++ [.ins "Tree" []]) h3 hm
  have s1 : ∀ x y : AO, (B ++ [x]).set B.length y = B ++ [y] := fun x y => by rw [List.set_append_right _ _ (Nat.le_refl _), Nat.sub_self]; rfl
  have s2 : ∀ x y z : AO, ((B ++ [x]) ++ [z]).set B.length y = (B ++ [y]) ++ [z] := fun x y z => by rw [List.set_append_left _ _ (by simp), s1]
  have g1 : ∀ x : AO, (B ++ [x])[B.length]? = some x := fun x => by rw [List.getElem?_append_right (Nat.le_refl _), Nat.sub_self]; rfl
  have g2 : ∀ x z : AO, ((B ++ [x]) ++ [z])[B.length]? = some x := fun x z => by rw [List.getElem?_append_left (by simp), g1]
  have ln : ∀ x : AO, (B ++ [x]).length = B.length + 1 := fun x => by simp
  have z0 : mCallF 1 f_need_most (mCons (mVar 1) (mNil)) [some (.ref B.length), some (.int (m : Int))] (B ++ [.ins "Tree" []]) = .ok .non (B ++ [.ins "Tree" []]) := callF_at (A1 := B ++ [.ins "Tree" []]) (ds := [.int (m : Int)]) rfl rfl hn
  have z1 : mSetF "Tree" "most" (mVar 1) (mVar 0) [some (.ref B.length), some (.int (m : Int))] (B ++ [.ins "Tree" []]) = .nx [some (.ref B.length), some (.int (m : Int))] (B ++ [.ins "Tree" [("most", .int (m : Int))]]) := by
    rw [setF_run (y := .int (m : Int)) rfl rfl (g1 _) (by simp), s1]
    rfl
  have z2 : mSetF "Tree" "_page" (mK (.tup [.str "leaf", .tup []])) (mVar 0) [some (.ref B.length), some (.int (m : Int))] (B ++ [.ins "Tree" [("most", .int (m : Int))]]) = .nx [some (.ref B.length), some (.int (m : Int))] (B ++ [.ins "Tree" [("most", .int (m : Int)), ("_page", leafD [])]]) := by
    rw [setF_run (y := leafD []) rfl rfl (g1 _) (by simp), s1]
    rfl
  have z3 : mSetF "Tree" "_known" (mDict0) (mVar 0) [some (.ref B.length), some (.int (m : Int))] (B ++ [.ins "Tree" [("most", .int (m : Int)), ("_page", leafD [])]]) = .nx [some (.ref B.length), some (.int (m : Int))] ((B ++ [.ins "Tree" (tF m (leafD []) (B.length + 1))]) ++ [.dk []]) := by
    rw [setF_run (y := .ref (B.length + 1)) (ev_dict0.trans (by rw [ln])) rfl (g2 _ _) (by simp), s2]
    rfl
  refine ⟨(B ++ [.ins "Tree" (tF m (leafD []) (B.length + 1))]) ++ [.dk []], ?_, ⟨h3, hm, List.Pairwise.nil, by omega, 0, leafD [], [], g2 _ _, ⟨⟨rfl, Nat.zero_le _⟩, fun h => absurd h (by omega)⟩, ?_, .nil⟩, by simp, fun n hn => by rw [List.getElem?_append_left (by simp; omega), List.getElem?_append_left hn]⟩
  · unfold f_Tree__init
    refine fun_nx (ρ1 := [some (.ref B.length), some (.int (m : Int))]) ?_
    refine (seq_nx (ρ1 := [some (.ref B.length), some (.int (m : Int))]) (A1 := B ++ [.ins "Tree" []]) ?_).trans ?_
    · rw [ev_drop]; exact (congrArg (fun z => lift z _ _) z0).trans rfl
    refine (seq_nx z1).trans ?_
    refine (seq_nx z2).trans ?_
    exact z3
  · rw [List.getElem?_append_right (by simp), ln, Nat.sub_self]; rfl
end TR
end
section
set_option maxHeartbeats 1000000
namespace TR
open PySem PySem.Spec PyProof.Rows L2 DM
/-! ### data shown -/
def Shd (k w : Nat) (d : D) (q : PyData) : Prop := toPy d = some q ∧ FewB 20 k w q
def ShdL (k w : Nat) (ds : List D) (ps : List PyData) : Prop := toPys ds = some ps ∧ ∀ p ∈ ps, FewB 20 k w p
theorem shl_nil {k w : Nat} : ShdL k w [] [] := ⟨rfl, fun _ h => nomatch h⟩
theorem shl_cons {k w k' w' : Nat} {d : D} {p : PyData} {ds : List D} {ps : List PyData} (h : Shd k' w' d p) (hk : k' ≤ k) (hw : w' ≤ w) (r : ShdL k w ds ps) : ShdL k w (d :: ds) (p :: ps) := by
  refine ⟨?_, fun q hq => (List.mem_cons.mp hq).elim (fun e => by rw [e]; exact h.2.mono hk hw) (r.2 q)⟩
  rw [toPys, h.1, r.1]
theorem shd_tup {k w : Nat} {ds : List D} {ps : List PyData} (h : ShdL k w ds ps) : Shd (k + 1) (ps.length * (w + 1)) (.tup ds) (.tuple ps) := ⟨by simp only [toPy, h.1, Option.map_some], fewB_tuple h.2⟩
theorem shd_lst {k w : Nat} {ds : List D} {ps : List PyData} (h : ShdL k w ds ps) : Shd (k + 1) (ps.length * (w + 1)) (.lst ds) (.list ps) := ⟨by simp only [toPy, h.1, Option.map_some], fewB_list h.2⟩
theorem shd_int {i : Int} (h : i.natAbs < 10 ^ 19) : Shd 0 64 (.int i) (.int i) := ⟨rfl, fewB_int (by decide) h⟩
theorem shd_non : Shd 0 64 .non .none := ⟨rfl, fewB_none⟩
theorem shd_bl {b : Bool} : Shd 0 64 (.bl b) (.bool b) := ⟨rfl, fewB_bool⟩
theorem shd_str {x : Str} (h1 : ∀ c ∈ x.cps.toList, c < 0x110000) (h2 : x.cps.toList.length ≤ 64) : Shd 0 64 (.str x) (.str x) := by
  refine ⟨rfl, fewB_str ?_ ?_ (by simpa using h2)⟩
  · simp only [PyData.canLay0]
    unfold PyData.strOk
    rw [← Array.all_toList, List.all_eq_true]
    intro c hc
    exact decide_eq_true (Nat.lt_of_lt_of_le (h1 c hc) (by decide))
  · rw [List.all_eq_true]
    intro c hc
    exact decide_eq_true (Nat.lt_trans (h1 c hc) (by decide))
theorem repr_shd {k w : Nat} {d : D} {p : PyData} {A : AH} (h : Shd k w d p) (hk : k ≤ 32) (hw : 22 * w + 20 ≤ 16777216) : fRepr [d] A = .ok (.str p.shown) A := repr_fewB (toPyA_of h.1) h.2 hk (by decide) hw
def Th (v : D) : Prop := ∃ p, Shd 2 262 v p
theorem Shd.up {k w k' w' : Nat} {d : D} {p : PyData} (h : Shd k w d p) (hk : k ≤ k') (hw : w ≤ w') : Shd k' w' d p := ⟨h.1, h.2.mono hk hw⟩
theorem SG_small : ∀ c ∈ SG.cps.toList, c < 128 := by decide +kernel
theorem KG.shd {k : Str} (g : KG k) : Shd 0 64 (.str k) (.str k) := shd_str (fun c hc => Nat.lt_trans (SG_small c (g.sg c hc)) (by decide)) (Nat.le_trans g.len (by decide))
theorem en_shd {e : En} (g : KG e.1) (t : Th e.2) : ∃ p, Shd 3 526 (enD e) p := by
  obtain ⟨p, h⟩ := t
  exact ⟨_, shd_tup (k := 2) (w := 262) (shl_cons g.shd (by decide) (by decide) (shl_cons h (by decide) (by decide) shl_nil))⟩
/-! ### texts -/
def sT (cs : List Nat) : Str := ⟨cs.toArray⟩
theorem sT_len (cs : List Nat) : (sT cs).length = cs.length := by simp [sT, Str.length]
theorem sT_list (cs : List Nat) : (sT cs).cps.toList = cs := by simp [sT]
theorem sT_app (a b : List Nat) : sT a ++ sT b = sT (a ++ b) := by
  show (Str.mk (a.toArray ++ b.toArray)) = _
  simp [sT]
theorem add_sT {a b : List Nat} {A : AH} (h : a.length + b.length ≤ 1000) : fAdd (.str (sT a)) (.str (sT b)) A = .ok (.str (sT (a ++ b))) A := by
  simp only [fAdd, sT_len, show a.length + b.length ≤ 16777216 by omega, if_true, sT_app]
theorem cut_sT {cs : List Nat} {A : AH} (h : cs.length ≤ 16) : fSlX (.str (sT cs)) none (some 16) A = .ok (.str (sT cs)) A := by
  have e : cutS (sT cs) none (some 16) = sT cs := by
    unfold cutS
    rw [HT.sIx_none, show (16 : Int) = ((16 : Nat) : Int) from rfl, HT.sIx_nat, sT_list, sT_len, List.drop_zero, Nat.sub_zero, List.take_of_length_le (by omega)]
    rfl
  unfold fSlX
  simp only [sT_len, show cs.length ≤ 16777216 by omega, if_true, e]
theorem join_fold : ∀ (cs : List Nat) (a : Array Nat), (cs.map fun c => (⟨#[c]⟩ : Str)).foldl (fun acc p => acc ++ ("" : Str).cps ++ p.cps) a = a ++ cs.toArray
  | [], a => by simp
  | c :: cs, a => by
    rw [List.map_cons, List.foldl_cons, join_fold cs]
    show (a ++ #[] ++ #[c]) ++ cs.toArray = a ++ (c :: cs).toArray
    simp
theorem join_one (cs : List Nat) : Txt.join "" (cs.map fun c => (⟨#[c]⟩ : Str)) = sT cs := by
  cases cs with
  | nil => rfl
  | cons c cs =>
    show (Str.mk ((cs.map fun c => (⟨#[c]⟩ : Str)).foldl (fun acc p => acc ++ ("" : Str).cps ++ p.cps) #[c])) = _
    rw [join_fold]
    simp [sT]
/-! ### drawing -/
section
variable {h q c : Nat} {A : AH}
theorem any_nat {k : Nat} (hs : HS h q A) (h0 : 0 < k) (h1 : k < 1073741824) : ∃ (v : Nat) (A' : AH), anyN [.ref h, .int (k : Int)] A = .ok (.int (v : Int)) A' ∧ v < k ∧ Drawn h q A A' := by
  obtain ⟨v, A', e, v0, v1, dr⟩ := anyN_ok (k := (k : Int)) hs (by omega) (by omega)
  exact ⟨v.toNat, A', by rw [show ((v.toNat : Nat) : Int) = v by omega]; exact e, by omega, dr⟩
theorem of_lst {xs : List D} (hs : HS h q A) (h0 : 0 < xs.length) (h1 : xs.length < 1000) : ∃ d ∈ xs, ∃ A', pickM anyN [.ref h, .lst xs] A = .ok d A' ∧ Drawn h q A A' := by
  obtain ⟨i, hi, A', e, dr⟩ := ofN_ok hs h0 (by omega)
  exact ⟨_, List.getElem_mem hi, A', e, dr⟩
theorem hs_lt {h q : Nat} {A : AH} (hs : HS h q A) : h < A.length ∧ q < A.length := by
  obtain ⟨_, L, s, e1, e2, _⟩ := hs
  exact ⟨(List.getElem?_eq_some_iff.mp e1).1, (List.getElem?_eq_some_iff.mp e2).1⟩
theorem hs_keep {h q : Nat} {A A' : AH} (hs : HS h q A) (k1 : A'[h]? = A[h]?) (k2 : A'[q]? = A[q]?) : HS h q A' := by
  obtain ⟨hq, L, s, e1, e2, r⟩ := hs
  exact ⟨hq, L, s, k1.trans e1, k2.trans e2, r⟩
theorem hs_push {h q : Nat} {A : AH} (hs : HS h q A) (B : AH) : HS h q (A ++ B) := hs_keep hs (List.getElem?_append_left (hs_lt hs).1) (List.getElem?_append_left (hs_lt hs).2)
theorem hs_set {h q n : Nat} {A : AH} {o : AO} (hs : HS h q A) (h1 : n ≠ h) (h2 : n ≠ q) : HS h q (A.set n o) := hs_keep hs (List.getElem?_set_ne h1) (List.getElem?_set_ne h2)
def AS : Str := "abcdefghijklmnopqrstuvwxyz0123456789_"
theorem AS_in : ∀ c ∈ AS.cps.toList, c ∈ SG.cps.toList := by decide +kernel
theorem AS_len : AS.cps.toList.length = 37 := by decide +kernel
theorem AS_at {n : Nat} (hj : n < AS.cps.toList.length) {B : AH} : fIx (.str AS) (.int (n : Int)) B = .ok (.str ⟨#[AS.cps.toList[n]]⟩) B := by
  have ha : atI AS.cps.toList (n : Int) = some AS.cps.toList[n] := atI_nat (List.getElem?_eq_getElem hj)
  have hl : AS.length ≤ 16777216 := by decide +kernel
  unfold fIx
  simp only [hl, if_true, ha]
/-- ''.join([signs[any(37)] for turn in range(n)]) -/
theorem signs_draw {i j n : Nat} {ρ : DM.Env} {me : ME} {A A0 : AH} (hs : HS h q A) (hme : me ρ A0 = .ok (.int (n : Int)) A) (hn : n ≤ 1000)
    (hρ : ρ[0]? = some (some (.ref h))) (hi : ρ[i]? = some (some (.str AS))) (hj : j < ρ.length) (hij : j ≠ i) (hj0 : j ≠ 0) :
    ∃ cs A', mJoin (mK (.str "")) (mLc false (mR1 (mCons me (mNil))) (.nm j) (mYes) (mOp fIx (mVar i) (mCallF 2 anyN (mCons (mVar 0) (mCons (mK (.int 37)) (mNil))))) [j]) ρ A0 = .ok (.str (sT cs)) A' ∧ cs.length = n ∧ (∀ c ∈ cs, c ∈ SG.cps.toList) ∧ Drawn h q A A' := by
  have hw : wipeD ρ [j] = ρ.set j none := rfl
  have hit : ∀ A, itemsOf A (.rng 0 (n : Int)) = some ((List.range n).map fun i => D.int (0 + (i : Nat))) := fun A => by
    show some ((List.range ((n : Int) - 0).toNat).map _) = _
    rw [show ((n : Int) - 0).toNat = n by omega]
  obtain ⟨ys, A', w, l, ps, d'⟩ := comp_draw (t := .nm j) (tt := mYes) (me := mOp fIx (mVar i) (mCallF 2 anyN (mCons (mVar 0) (mCons (mK (.int 37)) (mNil))))) (ρ := wipeD ρ [j]) (Pd := fun d => ∃ c ∈ AS.cps.toList, d = .str ⟨#[c]⟩) (G := fun _ => True) hit (fun _ _ _ _ => trivial) ((List.range n).map fun i => D.int (0 + (i : Nat))) [] A hs trivial (fun y _ A hs _ => by
    obtain ⟨v, A2, e2, hv, dr2⟩ := any_nat (k := 37) hs (by decide) (by decide)
    rw [show ((37 : Nat) : Int) = 37 from rfl] at e2
    have hv2 : v < AS.cps.toList.length := by rw [AS_len]; exact hv
    refine ⟨(wipeD ρ [j]).set j (some y), _, A2, rfl, rfl, ?_, ⟨_, List.getElem_mem hv2, rfl⟩, dr2⟩
    have v0 : ((wipeD ρ [j]).set j (some y))[0]? = some (some (.ref h)) := by rw [hw, List.set_set, List.getElem?_set_ne hj0, hρ]
    have vi : ((wipeD ρ [j]).set j (some y))[i]? = some (some (.str AS)) := by rw [hw, List.set_set, List.getElem?_set_ne hij, hi]
    have ix := AS_at (B := A2) hv2
    generalize AS.cps.toList[v] = cc at ix
    simp only [ev_op, ev_callF, ev_cons, ev_var, ev_K, v0, vi, bind_ok, ev_nil, List.length_cons, List.length_nil, Nat.reduceAdd, if_true, e2, ix])
  obtain ⟨cs, hcs, hmem⟩ : ∃ cs : List Nat, ys = cs.map (fun c => D.str ⟨#[c]⟩) ∧ ∀ c ∈ cs, c ∈ AS.cps.toList := by
    clear w l d'
    induction ys with
    | nil => exact ⟨[], rfl, fun _ h => nomatch h⟩
    | cons y ys ih =>
      obtain ⟨cs, e, hm⟩ := ih fun z hz => ps z (List.mem_cons_of_mem _ hz)
      obtain ⟨c, hc, rfl⟩ := ps y List.mem_cons_self
      exact ⟨c :: cs, by rw [e]; rfl, fun z hz => (List.mem_cons.mp hz).elim (fun e => by rw [e]; exact hc) (hm z)⟩
  have hlen : cs.length = n := by rw [hcs, List.length_map, List.length_map, List.length_range] at l; exact l
  refine ⟨cs, A', ?_, hlen, fun c hc => AS_in c (hmem c hc), d'⟩
  have er : mR1 (mCons me (mNil)) ρ A0 = .ok (.rng 0 (n : Int)) A := r1_at (by rw [ev_cons, hme, bind_ok, ev_nil]; rfl) (by omega)
  have hst : strsOf (cs.map (fun c => D.str ⟨#[c]⟩)) = some (cs.map fun c => (⟨#[c]⟩ : Str)) := by
    have := strsOf_map (cs.map fun c => (⟨#[c]⟩ : Str))
    rwa [List.map_map] at this
  unfold mJoin
  rw [ev_K, bind_ok]
  simp only [ev_lc, er, bind_ok, hit]
  rw [if_pos (by rw [List.length_map, List.length_range]; omega), w]
  simp only [bind_ok, List.nil_append, Bool.false_eq_true, if_false, seqOf, hcs, hst]
  rw [if_pos, join_one]
  rw [List.map_map, List.length_map]
  have h1 : ((cs.map ((fun x => x.length) ∘ fun c => (⟨#[c]⟩ : Str)))).sum = cs.length := by
    clear hst hlen hmem hcs w
    induction cs with
    | nil => rfl
    | cons c cs ih => rw [List.map_cons, List.sum_cons, ih, List.length_cons, Nat.add_comm]; rfl
  rw [h1]
  show cs.length + cs.length * 0 ≤ _
  omega
/-! ### keys -/
noncomputable def b_keysN : MS := (mSeq (mSet 6 (mCallF 2 (pickM anyN) (mCons (mVar 0) (mCons (mLst (mCons (mK (.int 1)) (mCons (mK (.int 1)) (mCons (mK (.int 2)) (mCons (mK (.int 2)) (mCons (mK (.int 2)) (mCons (mK (.int 3)) (mNil)))))))) (mNil))))) (mSeq (mSet 7 (mSlX (mOp fAdd (mVar 4) (mJoin (mK (.str "")) (mLc false (mR1 (mCons (mVar 6) (mNil))) (.nm 8) (mYes) (mOp fIx (mVar 2) (mCallF 2 anyN (mCons (mVar 0) (mCons (mK (.int 37)) (mNil))))) [8]))) (mNone) (mSome (mK (.int 16))))) (mSeq (mIfS (mAnd (mTst (mOp (fIn true) (mVar 7) (mVar 3))) (mTst (mOp fLt (mCall fLen (mCons (mVar 3) (mNil))) (mVar 1)))) (mDrop (mMet fApp (mVar 3) (mCons (mVar 7) (mNil)))) (mNext)) (mIfS (mAnd (mTst (mOp (fEq true) (mVar 4) (mK (.str "")))) (mAnd (mTst (mOp (fIn true) (mVar 4) (mVar 3))) (mAnd (mTst (mOp fLt (mCall fLen (mCons (mVar 3) (mNil))) (mVar 1))) (mTst (mOp (fEq false) (mVar 5) (mK (.int 2))))))) (mDrop (mMet fApp (mVar 3) (mCons (mVar 4) (mNil)))) (mNext)))))
noncomputable def keysN : List D → AH → Res D := mFun 9 (mSeq (mAsg (.tp [.nm 2, .nm 3]) (mTup (mCons (mK (.str "abcdefghijklmnopqrstuvwxyz0123456789_")) (mCons (mNew (mNil)) (mNil))))) (mSeq (mSet 4 (mJoin (mK (.str "")) (mLc false (mR1 (mCons (mCallF 2 (pickM anyN) (mCons (mVar 0) (mCons (mLst (mCons (mK (.int 0)) (mCons (mK (.int 0)) (mCons (mK (.int 1)) (mCons (mK (.int 2)) (mCons (mK (.int 9)) (mCons (mK (.int 13)) (mNil)))))))) (mNil)))) (mNil))) (.nm 5) (mYes) (mOp fIx (mVar 2) (mCallF 2 anyN (mCons (mVar 0) (mCons (mK (.int 37)) (mNil))))) [5]))) (mSeq (mFor (mR1 (mCons (mOp fMulA (mK (.int 3)) (mVar 1)) (mNil))) (.nm 5) b_keysN) (mRet (mCall fSortS (mCons (mVar 3) (mNil)))))))
def ksD (ks : List Str) : List D := ks.map D.str
theorem ks_any {k : Str} : ∀ ks : List Str, ((ksD ks).any fun z => eqD z (.str k)) = decide (k ∈ ks)
  | [] => rfl
  | a :: ks => by
    show (eqD (.str a) (.str k) || (ksD ks).any fun z => eqD z (.str k)) = _
    rw [ks_any ks]
    show ((a == k) || decide (k ∈ ks)) = _
    by_cases h : a = k
    · subst h; simp
    · rw [show (a == k) = false from beq_eq_false_iff_ne.mpr h, Bool.false_or]
      by_cases h2 : k ∈ ks
      · rw [decide_eq_true h2, decide_eq_true (List.mem_cons_of_mem _ h2)]
      · rw [decide_eq_false h2, decide_eq_false (fun z => (List.mem_cons.mp z).elim (fun e => h e.symm) h2)]
theorem ks_flat (ks : List Str) : (ksD ks).all flatD = true := by
  induction ks with
  | nil => rfl
  | cons a ks ih => exact ih
theorem in_ks {k : Str} {ks : List Str} {d : D} {neg : Bool} (h : seqOf A d = some (ksD ks)) : fIn neg (.str k) d A = .ok (.bl (if neg then !decide (k ∈ ks) else decide (k ∈ ks))) A := by
  unfold fIn
  rw [h]
  show (if flatD (.str k) = true ∧ (ksD ks).all flatD = true then _ else _) = _
  rw [if_pos ⟨rfl, ks_flat ks⟩, ks_any]
theorem app_ks {ks : List Str} {k : Str} (h : A[c]? = some (.lst (ksD ks))) (hl : ks.length < 1000) : fApp c [.str k] A = .ok .non (A.set c (.lst (ksD (ks ++ [k])))) := by
  have e : ksD ks ++ [.str k] = ksD (ks ++ [k]) := by unfold ksD; rw [List.map_append]; rfl
  rw [← e]
  unfold fApp
  simp only [h, show (ksD ks).length < 16777216 by unfold ksD; rw [List.length_map]; omega, if_true]
structure Kd (many : Nat) (ks : List Str) : Prop where
  nd : ks.Nodup
  gk : ∀ k ∈ ks, KG k
  ln : ks.length ≤ many
theorem Kd.snoc {many : Nat} {ks : List Str} {k : Str} (K : Kd many ks) (h1 : k ∉ ks) (h2 : ks.length < many) (g : KG k) : Kd many (ks ++ [k]) :=
  ⟨List.nodup_append.mpr ⟨K.nd, by simp, fun a ha b hb e => h1 (by rw [List.mem_singleton] at hb; rw [← hb, ← e]; exact ha)⟩, fun z hz => (List.mem_append.mp hz).elim (K.gk z) fun z' => by rw [List.mem_singleton] at z'; rw [z']; exact g, by rw [List.length_append, List.length_singleton]; omega⟩
variable {many : Nat} {stem : List Nat}
/-- what a row of keys is behind the end of a turn -/
theorem put_if {R : DM.Env} {mt : MT} {j : Nat} {k : Str} {ks : List Str} {b : Bool} (h1 : c ≠ h) (h2 : c ≠ q) (hs : HS h q A) (hA : A[c]? = some (.lst (ksD ks))) (K : Kd many ks) (hm : many ≤ 63)
    (r3 : R[3]? = some (some (.ref c))) (rj : R[j]? = some (some (.str k))) (ht : mt R A = .ok b A) (hb : b = true → k ∉ ks ∧ ks.length < many ∧ KG k) :
    ∃ ks' A', mIfS mt (mDrop (mMet fApp (mVar 3) (mCons (mVar j) (mNil)))) (mNext) R A = .nx R A' ∧ A'.length = A.length ∧ HS h q A' ∧ (∀ n, n ≠ h → n ≠ q → n ≠ c → A'[n]? = A[n]?) ∧ A'[c]? = some (.lst (ksD ks')) ∧ Kd many ks' ∧ (b = true ∨ ks ≠ [] → ks' ≠ []) := by
  cases b with
  | false =>
    refine ⟨ks, A, ?_, rfl, hs, fun _ _ _ _ => rfl, hA, K, fun h => h.elim (fun z => nomatch z) id⟩
    rw [ev_ifs, ht]
    rfl
  | true =>
    obtain ⟨a1, a2, a3⟩ := hb rfl
    have K' := K.snoc a1 a2 a3
    refine ⟨ks ++ [k], A.set c (.lst (ksD (ks ++ [k]))), ?_, List.length_set, hs_set hs h1 h2, fun n _ _ z => List.getElem?_set_ne (fun e => z e.symm), List.getElem?_set_self (List.getElem?_eq_some_iff.mp hA).1, K', fun _ => by simp⟩
    have ap := app_ks (k := k) hA (by omega)
    have e : mMet fApp (mVar 3) (mCons (mVar j) (mNil)) R A = .ok .non (A.set c (.lst (ksD (ks ++ [k])))) := by
      rw [ev_met, ev_var, r3]
      simp only [bind_ok, hA, ev_cons, ev_var, rj, ev_nil]
      exact ap
    rw [ev_ifs, ht]
    show mDrop (mMet fApp (mVar 3) (mCons (mVar j) (mNil))) R A = _
    rw [ev_drop, e]
    rfl
theorem op_at {f : D → D → AH → Res D} {ma mb : ME} {ρ : DM.Env} {A A1 A2 : AH} {x y : D} {r : Res D} (h1 : ma ρ A = .ok x A1) (h2 : mb ρ A1 = .ok y A2) (h3 : f x y A2 = r) : mOp f ma mb ρ A = r := by
  subst h3
  rw [ev_op, h1, bind_ok, h2]
  rfl
theorem slx_at {me : ME} {ρ : DM.Env} {A A1 : AH} {d : D} {k : Int} {r : Res D} (h1 : me ρ A = .ok d A1) (h2 : fSlX d none (some k) A1 = r) : mSlX me (mNone) (mSome (mK (.int k))) ρ A = r := by
  subst h2
  unfold mSlX
  rw [h1]
  rfl
theorem set_at {me : ME} {ρ : DM.Env} {A A1 : AH} {d : D} {i : Nat} (h1 : me ρ A = .ok d A1) : mSet i me ρ A = .nx (ρ.set i (some d)) A1 := by
  rw [ev_set, h1]
  rfl
theorem turn_draw {t : Nat} {x6 x7 x8 : Option D} (hs : HS h q A) (hst : stem.length ≤ 13) (hsg : ∀ z ∈ stem, z ∈ SG.cps.toList) : ∃ (n : Nat) (key : Str) (A2 : AH), (∀ rest : MS, mSeq (mSet 6 (mCallF 2 (pickM anyN) (mCons (mVar 0) (mCons (mLst (mCons (mK (.int 1)) (mCons (mK (.int 1)) (mCons (mK (.int 2)) (mCons (mK (.int 2)) (mCons (mK (.int 2)) (mCons (mK (.int 3)) (mNil)))))))) (mNil))))) (mSeq (mSet 7 (mSlX (mOp fAdd (mVar 4) (mJoin (mK (.str "")) (mLc false (mR1 (mCons (mVar 6) (mNil))) (.nm 8) (mYes) (mOp fIx (mVar 2) (mCallF 2 anyN (mCons (mVar 0) (mCons (mK (.int 37)) (mNil))))) [8]))) (mNone) (mSome (mK (.int 16))))) rest) [some (.ref h), some (.int (many : Int)), some (.str AS), some (.ref c), some (.str (sT stem)), some (.int (t : Int)), x6, x7, x8] A = rest [some (.ref h), some (.int (many : Int)), some (.str AS), some (.ref c), some (.str (sT stem)), some (.int (t : Int)), some (.int (n : Int)), some (.str key), x8] A2) ∧ KG key ∧ Drawn h q A A2 := by
  obtain ⟨d, hd, A1, e1, d1⟩ := of_lst (xs := [.int 1, .int 1, .int 2, .int 2, .int 2, .int 3]) hs (by simp) (by simp)
  obtain ⟨n, rfl, n1, n3⟩ : ∃ n : Nat, d = .int (n : Int) ∧ 1 ≤ n ∧ n ≤ 3 := by
    simp only [List.mem_cons, List.not_mem_nil, or_false] at hd
    rcases hd with rfl | rfl | rfl | rfl | rfl | rfl
    · exact ⟨1, rfl, by decide, by decide⟩
    · exact ⟨1, rfl, by decide, by decide⟩
    · exact ⟨2, rfl, by decide, by decide⟩
    · exact ⟨2, rfl, by decide, by decide⟩
    · exact ⟨2, rfl, by decide, by decide⟩
    · exact ⟨3, rfl, by decide, by decide⟩
  obtain ⟨cs, A2, e2, lc, mc, d2⟩ := signs_draw (i := 2) (j := 8) (ρ := [some (.ref h), some (.int (many : Int)), some (.str AS), some (.ref c), some (.str (sT stem)), some (.int (t : Int)), some (.int (n : Int)), x7, x8]) (me := mVar 6) (A0 := A1) d1.2.1 rfl (by omega) rfl rfl (by simp) (by decide) (by decide)
  have dr := d1.trans d2
  have gk : KG (sT (stem ++ cs)) := ⟨by rw [sT_list]; intro z; rw [List.append_eq_nil_iff] at z; rw [z.2] at lc; rw [List.length_nil] at lc; omega, by rw [sT_list, List.length_append]; omega, fun z hz => by
    rw [sT_list] at hz
    exact (List.mem_append.mp hz).elim (hsg z) (mc z)⟩
  have a1 : fAdd (.str (sT stem)) (.str (sT cs)) A2 = .ok (.str (sT (stem ++ cs))) A2 := add_sT (by omega)
  have a2 : fSlX (.str (sT (stem ++ cs))) none (some 16) A2 = .ok (.str (sT (stem ++ cs))) A2 := cut_sT (by rw [List.length_append]; omega)
  have b0 : (mSet 6 (mCallF 2 (pickM anyN) (mCons (mVar 0) (mCons (mLst (mCons (mK (.int 1)) (mCons (mK (.int 1)) (mCons (mK (.int 2)) (mCons (mK (.int 2)) (mCons (mK (.int 2)) (mCons (mK (.int 3)) (mNil)))))))) (mNil))))) [some (.ref h), some (.int (many : Int)), some (.str AS), some (.ref c), some (.str (sT stem)), some (.int (t : Int)), x6, x7, x8] A = .nx [some (.ref h), some (.int (many : Int)), some (.str AS), some (.ref c), some (.str (sT stem)), some (.int (t : Int)), some (.int (n : Int)), x7, x8] A1 := by
    simp only [EVa, List.getElem?_cons_zero, List.getElem?_cons_succ, List.set_cons_zero, List.set_cons_succ, bind_ok, lift_ok, List.length_cons, List.length_nil, Nat.reduceAdd, Nat.reduceLeDiff, ↓reduceIte, if_true, if_false, Bool.false_eq_true, ev_raise, and_self, List.map_cons, List.map_nil, List.replicate, List.cons_append, List.nil_append, Nat.reduceSub, e1]
  have j1 : mOp fAdd (mVar 4) (mJoin (mK (.str "")) (mLc false (mR1 (mCons (mVar 6) (mNil))) (.nm 8) (mYes) (mOp fIx (mVar 2) (mCallF 2 anyN (mCons (mVar 0) (mCons (mK (.int 37)) (mNil))))) [8])) [some (.ref h), some (.int (many : Int)), some (.str AS), some (.ref c), some (.str (sT stem)), some (.int (t : Int)), some (.int (n : Int)), x7, x8] A1 = .ok (.str (sT (stem ++ cs))) A2 := op_at rfl e2 a1
  generalize sT (stem ++ cs) = key at *
  have b1 : (mSet 7 (mSlX (mOp fAdd (mVar 4) (mJoin (mK (.str "")) (mLc false (mR1 (mCons (mVar 6) (mNil))) (.nm 8) (mYes) (mOp fIx (mVar 2) (mCallF 2 anyN (mCons (mVar 0) (mCons (mK (.int 37)) (mNil))))) [8]))) (mNone) (mSome (mK (.int 16))))) [some (.ref h), some (.int (many : Int)), some (.str AS), some (.ref c), some (.str (sT stem)), some (.int (t : Int)), some (.int (n : Int)), x7, x8] A1 = .nx [some (.ref h), some (.int (many : Int)), some (.str AS), some (.ref c), some (.str (sT stem)), some (.int (t : Int)), some (.int (n : Int)), some (.str key), x8] A2 := set_at (slx_at j1 a2)
  exact ⟨n, key, A2, fun rest => (seq_nx b0).trans (seq_nx b1), gk, dr⟩
theorem len_ks {B : AH} {ls : List Str} (z : B[c]? = some (.lst (ksD ls))) : fLen [.ref c] B = .ok (.int (ls.length : Nat)) B := by
  unfold fLen
  simp only [seqOf_ref z]
  unfold ksD
  rw [List.length_map]
theorem turn_key {t n : Nat} {key : Str} {ks : List Str} {x4 x8 : Option D} (h1 : c ≠ h) (h2 : c ≠ q) (hs : HS h q A) (hA : A[c]? = some (.lst (ksD ks))) (K : Kd many ks) (h0 : 0 < many) (hm : many ≤ 63) (gk : KG key) : ∃ ks' A', (mIfS (mAnd (mTst (mOp (fIn true) (mVar 7) (mVar 3))) (mTst (mOp fLt (mCall fLen (mCons (mVar 3) (mNil))) (mVar 1)))) (mDrop (mMet fApp (mVar 3) (mCons (mVar 7) (mNil)))) (mNext)) [some (.ref h), some (.int (many : Int)), some (.str AS), some (.ref c), x4, some (.int (t : Int)), some (.int (n : Int)), some (.str key), x8] A = .nx [some (.ref h), some (.int (many : Int)), some (.str AS), some (.ref c), x4, some (.int (t : Int)), some (.int (n : Int)), some (.str key), x8] A' ∧ A'.length = A.length ∧ HS h q A' ∧ (∀ n, n ≠ h → n ≠ q → n ≠ c → A'[n]? = A[n]?) ∧ A'[c]? = some (.lst (ksD ks')) ∧ Kd many ks' ∧ ks' ≠ [] := by
  have i2 := in_ks (k := key) (neg := true) (seqOf_ref hA)
  have l2 := len_ks hA
  obtain ⟨ks', A', p1, p2, p3, p4, p5, p6, p7⟩ := put_if (R := [some (.ref h), some (.int (many : Int)), some (.str AS), some (.ref c), x4, some (.int (t : Int)), some (.int (n : Int)), some (.str key), x8]) (j := 7) (k := key) (b := decide (key ∉ ks) && decide (ks.length < many)) (mt := mAnd (mTst (mOp (fIn true) (mVar 7) (mVar 3))) (mTst (mOp fLt (mCall fLen (mCons (mVar 3) (mNil))) (mVar 1)))) h1 h2 hs hA K hm rfl rfl (by
    by_cases z : key ∈ ks
    · simp only [EVa, List.getElem?_cons_zero, List.getElem?_cons_succ, List.set_cons_zero, List.set_cons_succ, bind_ok, lift_ok, List.length_cons, List.length_nil, Nat.reduceAdd, Nat.reduceLeDiff, ↓reduceIte, if_true, if_false, Bool.false_eq_true, ev_raise, and_self, List.map_cons, List.map_nil, List.replicate, List.cons_append, List.nil_append, Nat.reduceSub, i2, decide_eq_true z, if_true, Bool.not_true]
      simp [z]
    · simp only [EVa, List.getElem?_cons_zero, List.getElem?_cons_succ, List.set_cons_zero, List.set_cons_succ, bind_ok, lift_ok, List.length_cons, List.length_nil, Nat.reduceAdd, Nat.reduceLeDiff, ↓reduceIte, if_true, if_false, Bool.false_eq_true, ev_raise, and_self, List.map_cons, List.map_nil, List.replicate, List.cons_append, List.nil_append, Nat.reduceSub, i2, decide_eq_false z, if_true, Bool.not_false, l2, lt_ii]
      simp [z]) (fun z => by simp at z; exact ⟨z.1, z.2, gk⟩)
  refine ⟨ks', A', p1, p2, p3, p4, p5, p6, p7 ?_⟩
  by_cases z : key ∈ ks
  · exact .inr fun e => by rw [e] at z; cases z
  · by_cases z2 : ks.length < many
    · exact .inl (by simp [z, z2])
    · exact .inr fun e => by rw [e] at z2; exact z2 h0
theorem stem_emp : (sT stem = ("" : Str)) ↔ stem = [] := ⟨fun z => by have := congrArg (fun s : Str => s.cps.toList) z; rw [sT_list] at this; exact this, fun z => by rw [z]; rfl⟩
theorem turn_stem {t : Nat} {ks3 : List Str} {x6 x7 x8 : Option D} (h1 : c ≠ h) (h2 : c ≠ q) (hs : HS h q A) (hA : A[c]? = some (.lst (ksD ks3))) (K : Kd many ks3) (h0 : ks3 ≠ []) (hm : many ≤ 63) (gs : stem ≠ [] → KG (sT stem)) : ∃ ks' A', (mIfS (mAnd (mTst (mOp (fEq true) (mVar 4) (mK (.str "")))) (mAnd (mTst (mOp (fIn true) (mVar 4) (mVar 3))) (mAnd (mTst (mOp fLt (mCall fLen (mCons (mVar 3) (mNil))) (mVar 1))) (mTst (mOp (fEq false) (mVar 5) (mK (.int 2))))))) (mDrop (mMet fApp (mVar 3) (mCons (mVar 4) (mNil)))) (mNext)) [some (.ref h), some (.int (many : Int)), some (.str AS), some (.ref c), some (.str (sT stem)), some (.int (t : Int)), x6, x7, x8] A = .nx [some (.ref h), some (.int (many : Int)), some (.str AS), some (.ref c), some (.str (sT stem)), some (.int (t : Int)), x6, x7, x8] A' ∧ A'.length = A.length ∧ HS h q A' ∧ (∀ n, n ≠ h → n ≠ q → n ≠ c → A'[n]? = A[n]?) ∧ A'[c]? = some (.lst (ksD ks')) ∧ Kd many ks' ∧ ks' ≠ [] := by
  have i2 := in_ks (k := sT stem) (neg := true) (seqOf_ref hA)
  have l2 := len_ks hA
  have se := stem_emp (stem := stem)
  generalize sT stem = sm at *
  have t0 : ∃ b : Bool, (mAnd (mTst (mOp (fEq true) (mVar 4) (mK (.str "")))) (mAnd (mTst (mOp (fIn true) (mVar 4) (mVar 3))) (mAnd (mTst (mOp fLt (mCall fLen (mCons (mVar 3) (mNil))) (mVar 1))) (mTst (mOp (fEq false) (mVar 5) (mK (.int 2))))))) [some (.ref h), some (.int (many : Int)), some (.str AS), some (.ref c), some (.str sm), some (.int (t : Int)), x6, x7, x8] A = .ok b A ∧ (b = true → sm ∉ ks3 ∧ ks3.length < many ∧ KG sm) := by
    by_cases z0 : stem = []
    · refine ⟨false, ?_, fun z => nomatch z⟩
      simp only [EVa, List.getElem?_cons_zero, List.getElem?_cons_succ, List.set_cons_zero, List.set_cons_succ, bind_ok, lift_ok, List.length_cons, List.length_nil, Nat.reduceAdd, Nat.reduceLeDiff, ↓reduceIte, if_true, if_false, Bool.false_eq_true, ev_raise, and_self, List.map_cons, List.map_nil, List.replicate, List.cons_append, List.nil_append, Nat.reduceSub, eq_ss, decide_eq_true (se.mpr z0), if_true, Bool.not_true]
    · have q0 := decide_eq_false (fun y => z0 (se.mp y))
      by_cases z : sm ∈ ks3
      · refine ⟨false, ?_, fun z => nomatch z⟩
        simp only [EVa, List.getElem?_cons_zero, List.getElem?_cons_succ, List.set_cons_zero, List.set_cons_succ, bind_ok, lift_ok, List.length_cons, List.length_nil, Nat.reduceAdd, Nat.reduceLeDiff, ↓reduceIte, if_true, if_false, Bool.false_eq_true, ev_raise, and_self, List.map_cons, List.map_nil, List.replicate, List.cons_append, List.nil_append, Nat.reduceSub, eq_ss, q0, i2, decide_eq_true z, if_true, Bool.not_true, Bool.not_false]
      · by_cases z2 : ks3.length < many
        · refine ⟨decide ((t : Int) = 2), ?_, fun _ => ⟨z, z2, gs z0⟩⟩
          simp only [EVa, List.getElem?_cons_zero, List.getElem?_cons_succ, List.set_cons_zero, List.set_cons_succ, bind_ok, lift_ok, List.length_cons, List.length_nil, Nat.reduceAdd, Nat.reduceLeDiff, ↓reduceIte, if_true, if_false, Bool.false_eq_true, ev_raise, and_self, List.map_cons, List.map_nil, List.replicate, List.cons_append, List.nil_append, Nat.reduceSub, eq_ss, q0, i2, decide_eq_false z, if_true, Bool.not_true, Bool.not_false, l2, lt_ii, decide_eq_true (show ((ks3.length : Nat) : Int) < (many : Int) by omega), eq_ii]
        · refine ⟨false, ?_, fun z => nomatch z⟩
          simp only [EVa, List.getElem?_cons_zero, List.getElem?_cons_succ, List.set_cons_zero, List.set_cons_succ, bind_ok, lift_ok, List.length_cons, List.length_nil, Nat.reduceAdd, Nat.reduceLeDiff, ↓reduceIte, if_true, if_false, Bool.false_eq_true, ev_raise, and_self, List.map_cons, List.map_nil, List.replicate, List.cons_append, List.nil_append, Nat.reduceSub, eq_ss, q0, i2, decide_eq_false z, if_true, Bool.not_true, Bool.not_false, l2, lt_ii, decide_eq_false (show ¬ ((ks3.length : Nat) : Int) < (many : Int) by omega)]
  obtain ⟨b, t1, t2⟩ := t0
  obtain ⟨ks', A', p1, p2, p3, p4, p5, p6, p7⟩ := put_if (R := [some (.ref h), some (.int (many : Int)), some (.str AS), some (.ref c), some (.str sm), some (.int (t : Int)), x6, x7, x8]) (j := 4) (k := sm) h1 h2 hs hA K hm rfl rfl t1 t2
  exact ⟨ks', A', p1, p2, p3, p4, p5, p6, p7 (.inr h0)⟩
theorem keys_turn {ks : List Str} {t : Nat} {x6 x7 x8 : Option D} (h1 : c ≠ h) (h2 : c ≠ q) (hs : HS h q A) (hA : A[c]? = some (.lst (ksD ks))) (K : Kd many ks) (h0 : 0 < many) (hm : many ≤ 63) (hst : stem.length ≤ 13) (hsg : ∀ z ∈ stem, z ∈ SG.cps.toList) :
    ∃ ks' A' x6' x7' x8', b_keysN [some (.ref h), some (.int (many : Int)), some (.str AS), some (.ref c), some (.str (sT stem)), some (.int (t : Int)), x6, x7, x8] A =
      .nx [some (.ref h), some (.int (many : Int)), some (.str AS), some (.ref c), some (.str (sT stem)), some (.int (t : Int)), x6', x7', x8'] A' ∧ A'.length = A.length ∧ HS h q A' ∧ (∀ n, n ≠ h → n ≠ q → n ≠ c → A'[n]? = A[n]?) ∧ A'[c]? = some (.lst (ksD ks')) ∧ Kd many ks' ∧ ks' ≠ [] := by
  have gs : stem ≠ [] → KG (sT stem) := fun z => ⟨by rw [sT_list]; exact z, by rw [sT_list]; omega, fun z hz => by rw [sT_list] at hz; exact hsg z hz⟩
  obtain ⟨n, key, A2, e, gk, dr⟩ := turn_draw (many := many) (c := c) (t := t) (x6 := x6) (x7 := x7) (x8 := x8) hs hst hsg
  have hA2 : A2[c]? = some (.lst (ksD ks)) := (dr.2.2 c h1 h2).trans hA
  obtain ⟨ks3, A3, c21, c22, c23, c24, c25, c26, c27⟩ := turn_key (t := t) (n := n) (x4 := some (.str (sT stem))) (x8 := x8) h1 h2 dr.2.1 hA2 K h0 hm gk
  obtain ⟨ks4, A4, c31, c32, c33, c34, c35, c36, c37⟩ := turn_stem (t := t) (x6 := some (.int (n : Int))) (x7 := some (.str key)) (x8 := x8) h1 h2 c23 c25 c26 c27 hm gs
  refine ⟨ks4, A4, some (.int (n : Int)), some (.str key), x8, ?_, c32.trans (c22.trans dr.1), c33, fun n a b z => (c34 n a b z).trans ((c24 n a b z).trans (dr.2.2 n a b)), c35, c36, c37⟩
  unfold b_keysN
  rw [e, seq_nx c21]
  exact c31
theorem keys_go {iv : ItV} {all : List D} (hit : ∀ A, itemsOf A iv = some all) (h1 : c ≠ h) (h2 : c ≠ q) (h0 : 0 < many) (hm : many ≤ 63) (hst : stem.length ≤ 13) (hsg : ∀ z ∈ stem, z ∈ SG.cps.toList) : ∀ (ts : List Nat) (ks : List Str) (A : AH) (x5 x6 x7 x8 : Option D), HS h q A → A[c]? = some (.lst (ksD ks)) → Kd many ks →
    ∃ ks' A' x5' x6' x7' x8', forGo iv all (.nm 5) b_keysN (ts.map fun t : Nat => .int (t : Int)) [some (.ref h), some (.int (many : Int)), some (.str AS), some (.ref c), some (.str (sT stem)), x5, x6, x7, x8] A =
      .nx [some (.ref h), some (.int (many : Int)), some (.str AS), some (.ref c), some (.str (sT stem)), x5', x6', x7', x8'] A' ∧ A'.length = A.length ∧ HS h q A' ∧ (∀ n, n ≠ h → n ≠ q → n ≠ c → A'[n]? = A[n]?) ∧ A'[c]? = some (.lst (ksD ks')) ∧ Kd many ks' ∧ (ks ≠ [] ∨ ts ≠ [] → ks' ≠ [])
  | [], ks, A, x5, x6, x7, x8, hs, hA, hk => ⟨ks, A, x5, x6, x7, x8, for_nil (hit A), rfl, hs, (fun _ _ _ _ => rfl), hA, hk, fun h => h.elim id fun z => absurd rfl z⟩
  | t :: ts, ks, A, x5, x6, x7, x8, hs, hA, hk => by
    obtain ⟨ks1, A1, y6, y7, y8, e1, l1, s1, k1, a1, d1, z1⟩ := keys_turn (t := t) (x6 := x6) (x7 := x7) (x8 := x8) h1 h2 hs hA hk h0 hm hst hsg
    obtain ⟨ks2, A2, u5, u6, u7, u8, e2, l2, s2, k2, a2, d2, z2⟩ := keys_go hit h1 h2 h0 hm hst hsg ts ks1 A1 (some (.int (t : Int))) y6 y7 y8 s1 a1 d1
    refine ⟨ks2, A2, u5, u6, u7, u8, ?_, l2.trans l1, s2, fun n a b z => (k2 n a b z).trans (k1 n a b z), a2, d2, fun _ => z2 (.inl z1)⟩
    rw [List.map_cons, for_nx (ρ1 := [some (.ref h), some (.int (many : Int)), some (.str AS), some (.ref c), some (.str (sT stem)), some (.int (t : Int)), x6, x7, x8]) (hit A) rfl e1]
    exact e2
/-- keys, ascending -/
structure Ks (many : Nat) (ks : List Str) : Prop where
  st : ks.Pairwise sLt
  gk : ∀ k ∈ ks, KG k
  ln : ks.length ≤ many
  ne : ks ≠ []
theorem keysN_ok (hs : HS h q A) (h0 : 0 < many) (hm : many ≤ 63) : ∃ ks A', keysN [.ref h, .int (many : Int)] A = .ok (.lst (ksD ks)) A' ∧ A'.length = A.length + 1 ∧ HS h q A' ∧ (∀ n, n < A.length → n ≠ h → n ≠ q → A'[n]? = A[n]?) ∧ Ks many ks := by
  have hlt := hs_lt hs
  have hs0 : HS h q (A ++ [.lst (ksD [])]) := hs_push hs _
  obtain ⟨d, hd, A1, e1, d1⟩ := of_lst (xs := [.int 0, .int 0, .int 1, .int 2, .int 9, .int 13]) hs0 (by simp) (by simp)
  obtain ⟨n, rfl, n3⟩ : ∃ n : Nat, d = .int (n : Int) ∧ n ≤ 13 := by
    simp only [List.mem_cons, List.not_mem_nil, or_false] at hd
    rcases hd with rfl | rfl | rfl | rfl | rfl | rfl
    · exact ⟨0, rfl, by decide⟩
    · exact ⟨0, rfl, by decide⟩
    · exact ⟨1, rfl, by decide⟩
    · exact ⟨2, rfl, by decide⟩
    · exact ⟨9, rfl, by decide⟩
    · exact ⟨13, rfl, by decide⟩
  have me1 : mCallF 2 (pickM anyN) (mCons (mVar 0) (mCons (mLst (mCons (mK (.int 0)) (mCons (mK (.int 0)) (mCons (mK (.int 1)) (mCons (mK (.int 2)) (mCons (mK (.int 9)) (mCons (mK (.int 13)) (mNil)))))))) (mNil))) [some (.ref h), some (.int (many : Int)), some (.str AS), some (.ref A.length), none, none, none, none, none] (A ++ [.lst (ksD [])]) = .ok (.int (n : Int)) A1 := by
    simp only [EVa, List.getElem?_cons_zero, List.getElem?_cons_succ, List.set_cons_zero, List.set_cons_succ, bind_ok, lift_ok, List.length_cons, List.length_nil, Nat.reduceAdd, Nat.reduceLeDiff, ↓reduceIte, if_true, if_false, Bool.false_eq_true, ev_raise, and_self, List.map_cons, List.map_nil, List.replicate, List.cons_append, List.nil_append, Nat.reduceSub, e1]
  obtain ⟨stem, A2, e2, lc, mc, d2⟩ := signs_draw (i := 2) (j := 5) (ρ := [some (.ref h), some (.int (many : Int)), some (.str AS), some (.ref A.length), none, none, none, none, none]) (A0 := A ++ [.lst (ksD [])]) d1.2.1 me1 (by omega) rfl rfl (by simp) (by decide) (by decide)
  have dr := d1.trans d2
  have l2 : A2.length = A.length + 1 := by rw [dr.1]; simp
  have hA2 : A2[A.length]? = some (.lst (ksD [])) := by
    rw [dr.2.2 _ (by omega) (by omega)]
    simp
  have hit : ∀ B : AH, itemsOf B (.rng 0 ((3 * many : Nat) : Int)) = some ((List.range (3 * many)).map fun t : Nat => D.int (t : Int)) := fun B => by
    show some ((List.range (((3 * many : Nat) : Int) - 0).toNat).map fun i => D.int (0 + (i : Nat))) = _
    rw [show (((3 * many : Nat) : Int) - 0).toNat = 3 * many by omega]
    simp
  obtain ⟨ks, A', y5, y6, y7, y8, e4, l4, s4, k4, a4, K4, z4⟩ := keys_go (c := A.length) (many := many) (stem := stem) hit (by omega) (by omega) h0 hm (by omega) mc (List.range (3 * many)) [] A2 none none none none dr.2.1 hA2 ⟨List.nodup_nil, fun _ h => (nomatch h), Nat.zero_le _⟩
  have hk0 : ks ≠ [] := z4 (.inr fun z => by have := congrArg List.length z; rw [List.length_range, List.length_nil] at this; omega)
  have sp := srtS_perm ks
  refine ⟨srtS ks, A', ?_, by rw [l4, l2], s4, fun n n1 n2 n3 => ?_, ⟨?_, fun k hk => K4.gk k (sp.mem_iff.mp hk), by rw [sp.length_eq]; exact K4.ln, fun z => hk0 (by have := sp.length_eq; rw [z] at this; exact List.length_eq_zero_iff.mp this.symm)⟩⟩
  · have so : fSortS [.ref A.length] A' = .ok (.lst (ksD (srtS ks))) A' := by
      unfold fSortS
      have i0 : isTup (.ref A.length) = false := rfl
      have so2 : strsOf (ksD ks) = some ks := strsOf_map ks
      simp only [i0, Bool.false_eq_true, if_false, seqOf_ref a4, so2, show ks.length < 64 from Nat.lt_of_le_of_lt K4.ln (by omega), if_true]
      rfl
    have mm : fMulA (.int 3) (.int (many : Int)) A2 = .ok (.int ((3 * many : Nat) : Int)) A2 := by
      simp only [fMulA, show CMul 3 (many : Int) from .inl ⟨by decide, by decide⟩, if_true]
      rw [show (3 : Int) * (many : Int) = ((3 * many : Nat) : Int) by omega]
    unfold keysN
    refine fun_rt ?_
    refine (seq_nx (ρ1 := [some (.ref h), some (.int (many : Int)), some (.str AS), some (.ref A.length), none, none, none, none, none]) (A1 := A ++ [.lst (ksD [])]) ?_).trans ?_
    · simp only [EVa, List.getElem?_cons_zero, List.getElem?_cons_succ, List.set_cons_zero, List.set_cons_succ, bind_ok, lift_ok, List.length_cons, List.length_nil, Nat.reduceAdd, Nat.reduceLeDiff, ↓reduceIte, if_true, if_false, Bool.false_eq_true, ev_raise, and_self, List.map_cons, List.map_nil, List.replicate, List.cons_append, List.nil_append, Nat.reduceSub]
      rfl
    refine (seq_nx (ρ1 := [some (.ref h), some (.int (many : Int)), some (.str AS), some (.ref A.length), some (.str (sT stem)), none, none, none, none]) (A1 := A2) ?_).trans ?_
    · rw [ev_set, e2]; rfl
    refine (seq_nx (ρ1 := [some (.ref h), some (.int (many : Int)), some (.str AS), some (.ref A.length), some (.str (sT stem)), y5, y6, y7, y8]) (A1 := A') ?_).trans ?_
    · rw [ev_for, r1_at (j := ((3 * many : Nat) : Int)) (A1 := A2) (by simp only [EVa, List.getElem?_cons_zero, List.getElem?_cons_succ, List.set_cons_zero, List.set_cons_succ, bind_ok, lift_ok, List.length_cons, List.length_nil, Nat.reduceAdd, Nat.reduceLeDiff, ↓reduceIte, if_true, if_false, Bool.false_eq_true, ev_raise, and_self, List.map_cons, List.map_nil, List.replicate, List.cons_append, List.nil_append, Nat.reduceSub, mm]) (by omega), lift_ok]
      simp only [hit]
      exact e4
    simp only [EVa, List.getElem?_cons_zero, List.getElem?_cons_succ, List.set_cons_zero, List.set_cons_succ, bind_ok, lift_ok, List.length_cons, List.length_nil, Nat.reduceAdd, Nat.reduceLeDiff, ↓reduceIte, if_true, if_false, Bool.false_eq_true, ev_raise, and_self, List.map_cons, List.map_nil, List.replicate, List.cons_append, List.nil_append, Nat.reduceSub, so]
  · rw [k4 n n2 n3 (by omega), dr.2.2 n n2 n3, List.getElem?_append_left n1]
  · have nd : (srtS ks).Nodup := sp.nodup_iff.mpr K4.nd
    exact List.Pairwise.imp₂ (fun a b h1 h2 => by
      rcases tri a b with z | z | z
      · exact z
      · exact absurd z h2
      · exact absurd z (nlt_of_le h1)) (srtS_sorted ks) nd
/-! ### things -/
noncomputable def thingN : List D → AH → Res D := mFun 2 (mSeq (mSet 1 (mOp fSub (mCallF 2 anyN (mCons (mVar 0) (mCons (mK (.int 1000)) (mNil)))) (mK (.int 300)))) (mRet (mCallF 2 (pickM anyN) (mCons (mVar 0) (mCons (mLst (mCons (mVar 1) (mCons (mVar 1) (mCons (mK .non) (mCons (mK (.bl true)) (mCons (mK (.bl false)) (mCons (mK (.int 0)) (mCons (mK (.int 1)) (mCons (mK (.str "")) (mCons (mOp fAdd (mK (.str "x")) (mCall fStrI (mCons (mVar 1) (mNil)))) (mCons (mTup (mCons (mVar 1) (mCons (mK (.str "a")) (mNil)))) (mCons (mTup (mCons (mTup (mNil)) (mCons (mTup (mCons (mK .non) (mCons (mK (.int 1)) (mNil)))) (mNil)))) (mNil))))))))))))) (mNil))))))
theorem ofS_small {s : String} : ∀ c ∈ (Str.ofString s).cps.toList, c < 0x110000 := by
  rw [Str.ofString_eq_toList]
  intro c hc
  simp only [List.toList_toArray, List.mem_map] at hc
  obtain ⟨ch, _, rfl⟩ := hc
  have := ch.valid
  rcases this with h | h
  · exact Nat.lt_trans h (by decide)
  · exact h.2
theorem th0 {d : D} {p : PyData} (h : Shd 0 64 d p) : Th d := ⟨p, h.up (by decide) (by decide)⟩
theorem thingN_ok (hs : HS h q A) : ∃ v A', thingN [.ref h] A = .ok v A' ∧ Th v ∧ Drawn h q A A' := by
  obtain ⟨n, A1, e1, hn, d1⟩ := any_nat (k := 1000) hs (by decide) (by decide)
  rw [show ((1000 : Nat) : Int) = 1000 from rfl] at e1
  have hi : ((n : Int) - 300).natAbs < 10 ^ 19 := by omega
  have hi3 : ((n : Int) - 300).natAbs < 10 ^ 3 := by omega
  generalize hz : (n : Int) - 300 = i at hi hi3
  have sub : fSub (.int (n : Int)) (.int 300) A1 = .ok (.int i) A1 := by rw [← hz]; rfl
  have hl : i.natAbs.log2 < 1920 := by
    by_cases h0 : i.natAbs = 0
    · rw [h0]; decide
    · have : i.natAbs.log2 < 10 := (Nat.log2_lt h0).mpr (Nat.lt_trans hi3 (by decide))
      omega
  have st : fStrI [.int i] A1 = .ok (.str (toString i)) A1 := by
    unfold fStrI
    simp only [hl, if_true]
  have ys : ∀ c ∈ (("x" : Str) ++ (toString i : String) : Str).cps.toList, c < 0x110000 := fun c hc => by
    have hc : c ∈ (("x" : Str).cps ++ (Str.ofString (toString i)).cps).toList := hc
    rw [Array.toList_append] at hc
    rcases List.mem_append.mp hc with z | z
    · exact ofS_small c z
    · exact ofS_small c z
  have e0 := int_text_length_le10 (k := 3) (by decide) hi3
  have e1' : (Str.ofString (toString i)).length ≤ 4 := by rw [PySem.ofString_length]; omega
  have yl : (("x" : Str) ++ (toString i : String) : Str).cps.toList.length ≤ 64 := by
    show (("x" : Str).cps ++ (Str.ofString (toString i)).cps).toList.length ≤ 64
    rw [Array.toList_append, List.length_append]
    have h1 : (Str.ofString (toString i)).cps.toList.length = (Str.ofString (toString i)).length := by simp [Str.length]
    have h2 : ("x" : Str).cps.toList.length = 1 := by decide +kernel
    omega
  have ad : fAdd (.str "x") (.str (toString i)) A1 = .ok (.str (("x" : Str) ++ (toString i : String))) A1 := by
    have h2 : ("x" : Str).length = 1 := by decide +kernel
    simp only [fAdd]
    rw [if_pos (by rw [h2]; omega)]
  generalize (("x" : Str) ++ (toString i : String) : Str) = y at ys yl ad
  generalize (Str.ofString (toString i)) = tx at st ad
  obtain ⟨d, hd, A2, e2, d2⟩ := of_lst (xs := [.int i, .int i, .non, .bl true, .bl false, .int 0, .int 1, .str "", .str y, .tup [.int i, .str "a"], .tup [.tup [], .tup [.non, .int 1]]]) d1.2.1 (by simp) (by simp)
  refine ⟨d, A2, ?_, ?_, d1.trans d2⟩
  · unfold thingN
    refine fun_rt ?_
    refine (seq_nx (ρ1 := [some (.ref h), some (.int i)]) (A1 := A1) ?_).trans ?_
    · simp only [EVa, List.getElem?_cons_zero, List.getElem?_cons_succ, List.set_cons_zero, List.set_cons_succ, bind_ok, lift_ok, List.length_cons, List.length_nil, Nat.reduceAdd, Nat.reduceLeDiff, ↓reduceIte, if_true, if_false, Bool.false_eq_true, ev_raise, and_self, List.map_cons, List.map_nil, List.replicate, List.cons_append, List.nil_append, Nat.reduceSub, e1, sub]
    simp only [EVa, List.getElem?_cons_zero, List.getElem?_cons_succ, List.set_cons_zero, List.set_cons_succ, bind_ok, lift_ok, List.length_cons, List.length_nil, Nat.reduceAdd, Nat.reduceLeDiff, ↓reduceIte, if_true, if_false, Bool.false_eq_true, ev_raise, and_self, List.map_cons, List.map_nil, List.replicate, List.cons_append, List.nil_append, Nat.reduceSub, st, ad, e2]
  · simp only [List.mem_cons, List.not_mem_nil, or_false] at hd
    have s1 : ∀ {x : Str}, x.cps.toList.all (fun c => decide (c < 128)) = true → x.cps.toList.length ≤ 64 → Shd 0 64 (.str x) (.str x) := fun {x} h1 h2 => shd_str (fun c hc => by
      have := List.all_eq_true.mp h1 c hc
      exact Nat.lt_trans (of_decide_eq_true this) (by decide)) h2
    rcases hd with rfl | rfl | rfl | rfl | rfl | rfl | rfl | rfl | rfl | rfl | rfl
    · exact th0 (shd_int hi)
    · exact th0 (shd_int hi)
    · exact th0 shd_non
    · exact th0 shd_bl
    · exact th0 shd_bl
    · exact th0 (shd_int (by decide))
    · exact th0 (shd_int (by decide))
    · exact th0 (s1 (by decide +kernel) (by decide +kernel))
    · exact th0 (shd_str ys yl)
    · exact ⟨_, (shd_tup (k := 0) (w := 64) (shl_cons (shd_int hi) (by decide) (by decide) (shl_cons (s1 (x := "a") (by decide +kernel) (by decide +kernel)) (by decide) (by decide) shl_nil))).up (by decide) (by show 2 * 65 ≤ 262; decide)⟩
    · have a : Shd 1 0 (.tup []) (.tuple []) := shd_tup (k := 0) (w := 0) shl_nil
      have b := shd_tup (k := 0) (w := 64) (shl_cons shd_non (by decide) (by decide) (shl_cons (shd_int (i := 1) (by decide)) (by decide) (by decide) shl_nil))
      exact ⟨_, shd_tup (k := 1) (w := 130) (shl_cons a (by decide) (by decide) (shl_cons b (by decide) (by decide) shl_nil))⟩
end
end TR
end
section
set_option maxHeartbeats 1000000
namespace TR
open PySem PySem.Spec PyProof.Rows L2 DM
/-! ### a tree beside a plain dict -/
variable {A : AH} {h q T Kn R m : Nat} {ks : List Str} {es : List En} {ρ : DM.Env}
theorem var_at {i : Nat} {d : D} (h : ρ[i]? = some (some d)) : mVar i ρ A = .ok d A := by
  unfold mVar
  rw [h]
theorem meth_at {C mname : Str} {n k : Nat} {mf : List D → AH → Res D} {mo : ME} {ms : MA} {A1 A2 : AH} {fs : List (Str × D)} {ds : List D} {r : Res D} (ho : mo ρ A = .ok (.ref k) A1) (hk : A1[k]? = some (.ins C fs)) (hf : fs.lookup mname = none) (ha : ms ρ A1 = .ok ds A2) (hn : ds.length + 1 = n) (e : mf (.ref k :: ds) A2 = r) : mMeth C mname n mf mo ms ρ A = r := (meth_run ho hk hf ha hn).trans e
theorem tF_no {m Kn : Nat} {d : D} : (tF m d Kn).lookup (("put" : Str)) = none ∧ (tF m d Kn).lookup (("take" : Str)) = none ∧ (tF m d Kn).lookup (("root" : Str)) = none := ⟨rfl, rfl, rfl⟩
theorem drop_at {me : ME} {A1 : AH} {d : D} (h1 : me ρ A = .ok d A1) : mDrop me ρ A = .nx ρ A1 := by
  rw [ev_drop, h1]
  rfl
theorem drop_exc {me : ME} {A1 : AH} {C : Str} {fs : List (Str × D)} (h1 : me ρ A = .exc C fs A1) : mDrop me ρ A = .exc C fs ρ A1 := by
  rw [ev_drop, h1]
  rfl
theorem tst_at {me : ME} {A1 : AH} {k : Bool} (h1 : me ρ A = .ok (.bl k) A1) : mTst me ρ A = .ok k A1 := by
  rw [ev_tst, h1]
  rfl
theorem ret_at {me : ME} {A1 : AH} {d : D} (h1 : me ρ A = .ok d A1) : mRet me ρ A = .rt d A1 := by
  rw [ev_ret, h1]
  rfl
theorem ifs_at {mt : MT} {sa sb : MS} {A1 : AH} {k : Bool} {r : SRes} (h1 : mt ρ A = .ok k A1) (h2 : (if k = true then sa ρ A1 else sb ρ A1) = r) : mIfS mt sa sb ρ A = r := by
  rw [ev_ifs, h1]
  exact h2
theorem callK_at {n l a : Nat} {pm : List Nat} {g : List D → AH → Res D} {ms mk : MA} {A1 A2 : AH} {ds es zs : List D} {r : Res D} (h1 : ms ρ A = .ok ds A1) (h2 : mk ρ A1 = .ok es A2) (c1 : ds.length = n) (c2 : es.length = l) (hp : DM.pick pm (ds ++ es) = zs) (c3 : zs.length = a) (hg : g zs A2 = r) : mCallK n l a pm g ms mk ρ A = r := by
  rw [ev_callK, h1, bind_ok, h2, bind_ok, hp, if_pos ⟨c1, c2, c3⟩]
  exact hg
theorem sub_len : ∀ {b a : List Str}, a.Pairwise sLt → b.Pairwise sLt → (∀ x ∈ a, x ∈ b) → a.length ≤ b.length
  | [], a, _, _, h => by
    cases a with
    | nil => exact Nat.le_refl _
    | cons x as => exact absurd (h x List.mem_cons_self) (by simp)
  | y :: bs, [], _, _, _ => Nat.zero_le _
  | y :: bs, x :: as, ha, hb, h => by
    obtain ⟨h1, h2⟩ := List.pairwise_cons.mp ha
    obtain ⟨h3, h4⟩ := List.pairwise_cons.mp hb
    by_cases e : x = y
    · subst e
      have := sub_len h2 h4 fun z hz => by
        rcases List.mem_cons.mp (h z (List.mem_cons_of_mem _ hz)) with w | w
        · exact absurd (h1 z hz) (w ▸ lt_ir)
        · exact w
      rw [List.length_cons, List.length_cons]
      omega
    · have hx : x ∈ bs := by
        rcases List.mem_cons.mp (h x List.mem_cons_self) with w | w
        · exact absurd w e
        · exact w
      have yx := h3 x hx
      have := sub_len ha h4 fun z hz => by
        rcases List.mem_cons.mp (h z hz) with w | w
        · subst w
          rcases List.mem_cons.mp hz with w2 | w2
          · exact absurd w2.symm e
          · exact absurd (h1 _ w2) (lt_as yx)
        · exact w
      rw [List.length_cons]
      rw [List.length_cons] at this ⊢
      omega
structure Wd (h q T Kn R m : Nat) (ks : List Str) (es : List En) (A : AH) : Prop where
  hs : HS h q A
  tr : Tr T Kn m es A
  rw : ∃ kvs, A[R]? = some (.dk kvs) ∧ KvP kvs es (·.2)
  ne : (T ≠ h ∧ T ≠ q ∧ Kn ≠ h ∧ Kn ≠ q) ∧ (R ≠ h ∧ R ≠ q ∧ R ≠ T ∧ R ≠ Kn)
  sub : ∀ e ∈ es, e.1 ∈ ks ∧ Th e.2
  K : Ks 30 ks
theorem Wd.len (w : Wd h q T Kn R m ks es A) : es.length ≤ 30 := by
  have := sub_len (a := es.map (·.1)) (b := ks) (by rw [List.pairwise_map]; exact w.tr.srt) w.K.st fun x hx => by
    obtain ⟨e, he, rfl⟩ := List.mem_map.mp hx
    exact (w.sub e he).1
  rw [List.length_map] at this
  exact Nat.le_trans this w.K.ln
theorem Wd.gk (w : Wd h q T Kn R m ks es A) : ∀ e ∈ es, KG e.1 := fun e he => w.K.gk _ (w.sub e he).1
theorem Wd.drawn (w : Wd h q T Kn R m ks es A) {B : AH} (d : Drawn h q A B) : Wd h q T Kn R m ks es B := by
  obtain ⟨kvs, a, b⟩ := w.rw
  obtain ⟨⟨n1, n2, n3, n4⟩, n5, n6, n7, n8⟩ := w.ne
  exact ⟨d.2.1, w.tr.keep (d.2.2 T n1 n2) (d.2.2 Kn n3 n4), ⟨kvs, (d.2.2 R n5 n6).trans a, b⟩, w.ne, w.sub, w.K⟩
/-- what stays when the world goes on -/
def Kp (h q T Kn R : Nat) (A B : AH) : Prop := B.length = A.length ∧ ∀ n, n ≠ h → n ≠ q → n ≠ T → n ≠ Kn → n ≠ R → B[n]? = A[n]?
theorem Kp.trans {A B C : AH} (a : Kp h q T Kn R A B) (b : Kp h q T Kn R B C) : Kp h q T Kn R A C := ⟨b.1.trans a.1, fun n h1 h2 h3 h4 h5 => (b.2 n h1 h2 h3 h4 h5).trans (a.2 n h1 h2 h3 h4 h5)⟩
theorem Kp.refl : Kp h q T Kn R A A := ⟨rfl, fun _ _ _ _ _ _ => rfl⟩
theorem Kp.of {B : AH} (d : Drawn h q A B) : Kp h q T Kn R A B := ⟨d.1, fun n h1 h2 _ _ _ => d.2.2 n h1 h2⟩
theorem put_deed {key : Str} {i j r t : Nat} (w : Wd h q T Kn R m ks es A) (hk : key ∈ ks) (hi : ρ[i]? = some (some (.ref h))) (hr : ρ[r]? = some (some (.ref R))) (ht : ρ[t]? = some (some (.ref T))) (hj : ρ[j]? = some (some (.str key))) :
    ∃ es' A', mSeq (mDPut (mCallF 1 thingN (mCons (mVar i) (mNil))) (mVar r) (mVar j)) (mDrop (mMeth "Tree" "put" 3 f_Tree__put (mVar t) (mCons (mVar j) (mCons (mOp fDGet (mVar r) (mVar j)) (mNil))))) ρ A = .nx ρ A' ∧ Wd h q T Kn R m ks es' A' ∧ Kp h q T Kn R A A' := by
  obtain ⟨v, A1, e1, th, d1⟩ := thingN_ok w.hs
  have w1 := w.drawn d1
  have hl := w.len
  obtain ⟨kvs, a, b⟩ := w1.rw
  obtain ⟨⟨n1, n2, n3, n4⟩, n5, n6, n7, n8⟩ := w.ne
  have hR := (List.getElem?_eq_some_iff.mp a).1
  have c1 : mCallF 1 thingN (mCons (mVar i) (mNil)) ρ A = .ok v A1 := callF_at (A1 := A) (ds := [.ref h]) (by rw [ev_cons, var_at hi, bind_ok]; rfl) rfl e1
  have c2 : mDPut (mCallF 1 thingN (mCons (mVar i) (mNil))) (mVar r) (mVar j) ρ A = .nx ρ (A1.set R (.dk (putKD kvs (.inr key) v))) := dput_run c1 (var_at hr) (var_at hj) a rfl (by rw [b.len]; omega)
  have b2 : KvP (putKD kvs (.inr key) v) (insE es key v) (·.2) := KvP.put (f := (·.2)) (v := v) b w.tr.srt
  have t2 : Tr T Kn m es (A1.set R (.dk (putKD kvs (.inr key) v))) := w1.tr.keep (List.getElem?_set_ne n7) (List.getElem?_set_ne n8)
  obtain ⟨A3, e3, t3, l3, k3⟩ := tree_put (v := v) t2 (w.K.gk key hk) (by omega)
  have a2 : (A1.set R (.dk (putKD kvs (.inr key) v)))[R]? = some (.dk (putKD kvs (.inr key) v)) := List.getElem?_set_self hR
  have hv : valD (putKD kvs (.inr key) v) (.inr key) = some v := by rw [valD_put, if_pos rfl]
  have g : mOp fDGet (mVar r) (mVar j) ρ (A1.set R (.dk (putKD kvs (.inr key) v))) = .ok v (A1.set R (.dk (putKD kvs (.inr key) v))) := op_at (var_at hr) (var_at hj) (dget_run a2 rfl hv)
  obtain ⟨n, d, kvs2, z1, z2⟩ := t2.ex
  have c3 : mMeth "Tree" "put" 3 f_Tree__put (mVar t) (mCons (mVar j) (mCons (mOp fDGet (mVar r) (mVar j)) (mNil))) ρ (A1.set R (.dk (putKD kvs (.inr key) v))) = .ok (.bl (!(getE es key).isSome)) A3 := meth_at (ds := [.str key, v]) (var_at ht) z1 tF_no.1 (by rw [ev_cons, var_at hj, bind_ok, ev_cons, g, bind_ok]; rfl) rfl e3
  refine ⟨insE es key v, A3, ?_, ⟨?_, t3, ⟨_, (k3 R n7 n8).trans a2, b2⟩, w.ne, fun e he => ?_, w.K⟩, ⟨by rw [l3, List.length_set, d1.1], fun n h1 h2 h3 h4 h5 => by rw [k3 n h3 h4, List.getElem?_set_ne (Ne.symm h5)]; exact d1.2.2 n h1 h2⟩⟩
  · exact (seq_nx c2).trans (drop_at c3)
  · exact hs_keep d1.2.1 (by rw [k3 h (Ne.symm n1) (Ne.symm n3), List.getElem?_set_ne n5]) (by rw [k3 q (Ne.symm n2) (Ne.symm n4), List.getElem?_set_ne n6])
  · rcases insE_in he with z | z
    · exact w.sub e z
    · rw [z]; exact ⟨hk, th⟩
theorem take_deed {key : Str} {j r t : Nat} (w : Wd h q T Kn R m ks es A) (hk : key ∈ ks) (hr : ρ[r]? = some (some (.ref R))) (ht : ρ[t]? = some (some (.ref T))) (hj : ρ[j]? = some (some (.str key))) :
    ∃ es' A', mSeq (mDrop (mDPop2 (mVar r) (mVar j) (mK .non))) (mDrop (mMeth "Tree" "take" 2 f_Tree__take (mVar t) (mCons (mVar j) (mNil)))) ρ A = .nx ρ A' ∧ Wd h q T Kn R m ks es' A' ∧ Kp h q T Kn R A A' := by
  have hl := w.len
  obtain ⟨kvs, a, b⟩ := w.rw
  obtain ⟨⟨n1, n2, n3, n4⟩, n5, n6, n7, n8⟩ := w.ne
  have hR := (List.getElem?_eq_some_iff.mp a).1
  have p : ∃ (x : D) (kvs' : List (Key × D)) (A1 : AH), mDPop2 (mVar r) (mVar j) (mK .non) ρ A = .ok x A1 ∧ A1[R]? = some (.dk kvs') ∧ KvP kvs' (delE es key) (·.2) ∧ A1.length = A.length ∧ ∀ n, n ≠ R → A1[n]? = A[n]? := by
    have kk : keyOf (.str key) = some (.inr key) := rfl
    cases hv : valD kvs (.inr key) with
    | some x =>
      refine ⟨x, dropKD kvs (.inr key), A.set R (.dk (dropKD kvs (.inr key))), ?_, List.getElem?_set_self hR, b.drop, List.length_set, fun n hn => List.getElem?_set_ne (Ne.symm hn)⟩
      unfold mDPop2
      rw [var_at hr, bind_ok]
      simp only [a, var_at hj, bind_ok, ev_K, kk, hv]
    | none =>
      refine ⟨.non, kvs, A, ?_, a, ?_, rfl, fun _ _ => rfl⟩
      · unfold mDPop2
        rw [var_at hr, bind_ok]
        simp only [a, var_at hj, bind_ok, ev_K, kk, hv]
      · rw [b.val w.tr.srt] at hv
        have : (getE es key).isSome = false := by
          cases hg : getE es key with
          | none => rfl
          | some x => rw [hg] at hv; cases hv
        rw [delE_no this]
        exact b
  obtain ⟨x, kvs', A1, e1, a1, b1, l1, k1⟩ := p
  have t2 : Tr T Kn m es A1 := w.tr.keep (k1 T (Ne.symm n7)) (k1 Kn (Ne.symm n8))
  obtain ⟨A3, e3, t3, l3, k3⟩ := tree_take t2 (w.K.gk key hk) (by omega)
  obtain ⟨n, d, kvs2, z1, z2⟩ := t2.ex
  have c3 : mMeth "Tree" "take" 2 f_Tree__take (mVar t) (mCons (mVar j) (mNil)) ρ A1 = .ok (.bl (getE es key).isSome) A3 := meth_at (ds := [.str key]) (var_at ht) z1 tF_no.2.1 (by rw [ev_cons, var_at hj, bind_ok]; rfl) rfl e3
  refine ⟨delE es key, A3, (seq_nx (drop_at e1)).trans (drop_at c3), ⟨?_, t3, ⟨_, (k3 R n7 n8).trans a1, b1⟩, w.ne, fun e he => w.sub e (List.mem_filter.mp he).1, w.K⟩, ⟨l3.trans l1, fun n h1 h2 h3 h4 h5 => (k3 n h3 h4).trans (k1 n h5)⟩⟩
  exact hs_keep w.hs (by rw [k3 h (Ne.symm n1) (Ne.symm n3), k1 h (Ne.symm n5)]) (by rw [k3 q (Ne.symm n2) (Ne.symm n4), k1 q (Ne.symm n6)])
theorem Wd.sorted (w : Wd h q T Kn R m ks es A) : fSortD [.ref R] A = .ok (.lst (ksD (es.map (·.1)))) A := by
  obtain ⟨kvs, a, b⟩ := w.rw
  rw [b.sorted w.tr.srt a (by have := w.len; omega)]
  unfold ksD
  rw [List.map_map]
  rfl
theorem Wd.get (w : Wd h q T Kn R m ks es A) {e : En} (he : e ∈ es) : fDGet (.ref R) (.str e.1) A = .ok e.2 A := by
  obtain ⟨kvs, a, b⟩ := w.rw
  refine dget_run a rfl ?_
  rw [b.val w.tr.srt, getE_of w.tr.srt he]
  rfl
theorem ks_shl : ∀ {L : List Str}, (∀ k ∈ L, KG k) → ∃ ps, ps.length = L.length ∧ ShdL 0 64 (ksD L) ps
  | [], _ => ⟨[], rfl, shl_nil⟩
  | k :: L, hk => by
    obtain ⟨ps, l, s⟩ := ks_shl fun z hz => hk z (List.mem_cons_of_mem _ hz)
    exact ⟨.str k :: ps, by rw [List.length_cons, List.length_cons, l], shl_cons (hk k List.mem_cons_self).shd (Nat.le_refl _) (Nat.le_refl _) s⟩
theorem eq_ks {L : List Str} {neg : Bool} (hk : ∀ k ∈ L, KG k) : fEq neg (.lst (ksD L)) (.lst []) A = .ok (.bl (if neg then !L.isEmpty else L.isEmpty)) A := by
  obtain ⟨ps, l, s⟩ := ks_shl hk
  have sh := shd_lst s
  have hz : SeqAt.shaped (.list []) = true := by decide +kernel
  rw [eq_pyS (toPyA_of sh.1) (toPyA_of (q := .list []) rfl) rfl (sh.2.shaped (by decide)) hz]
  have e1 : PyData.eqv (.list ps) (.list []) = L.isEmpty := by
    simp only [PyData.eqv]
    rw [eqvAll_nil]
    cases ps <;> cases L
    · rfl
    · simp at l
    · simp at l
    · rfl
  rw [e1]
end TR
end
section
set_option maxHeartbeats 1000000
namespace K12
open PySem PySem.Spec PyProof.Rows L2 DM TR
noncomputable def chM : List D → AH → Res D := m__law_changed anyN (pickM anyN) thingN f_Tree__put f_Tree__take
noncomputable def wrM : List D → AH → Res D := m__law_wrong f_after f_before
variable {A : AH} {h q T Kn R m : Nat} {ks : List Str} {es : List En}
/-! ### the next entry of a plain dict -/
theorem if_yes {mt : MT} {ma mb : ME} {ρ : DM.Env} {A A1 : AH} {r : Res D} (h : mt ρ A = .ok true A1) (h2 : ma ρ A1 = r) : mIf mt ma mb ρ A = r := by
  rw [ev_if, h]
  exact h2
theorem if_not {mt : MT} {ma mb : ME} {ρ : DM.Env} {A A1 : AH} {r : Res D} (h : mt ρ A = .ok false A1) (h2 : mb ρ A1 = r) : mIf mt ma mb ρ A = r := by
  rw [ev_if, h]
  exact h2
theorem fil_true {α : Type} (xs : List α) : (xs.filter fun _ => true) = xs := List.filter_eq_self.mpr fun _ _ => rfl
def Pn (key : Option Str) (up : Bool) (x : Str) : Bool := match key with
  | none => true
  | some k => if up then decide (sLt k x) else decide (sLt x k)
def nxE (es : List En) (key : Option Str) (up : Bool) : Option En := if up then (es.filter fun e => Pn key up e.1).head? else (es.filter fun e => Pn key up e.1).getLast?
def kD : Option Str → D
  | none => .non
  | some k => .str k
theorem test_ok {r x3 x4 : Option D} {key : Option Str} {up : Bool} {x : Str} : mOr (mTst (mOp (fIsN false) (mVar 1) (mK .non))) (mIfT (mTst (mVar 2)) (mTst (mOp fGtX (mVar 5) (mVar 1))) (mTst (mOp fLtX (mVar 5) (mVar 1)))) [r, some (kD key), some (.bl up), x3, x4, some (.str x)] A = .ok (Pn key up x) A := by
  cases key with
  | none => rfl
  | some k => cases up <;> rfl
theorem next_ok (w : Wd h q T Kn R m ks es A) {key : Option Str} {up : Bool} : m__law_next [.ref R, kD key, .bl up] A = .ok (enO (nxE es key up)) A := by
  have so := w.sorted
  have hl := w.len
  have gk := w.gk
  have gt : ∀ {e : En}, e ∈ es → fDGet (.ref R) (.str e.1) A = .ok e.2 A := fun he => w.get he
  have hfs : ∀ {e : En}, e ∈ es.filter (fun e => Pn key up e.1) → e ∈ es := fun he => (List.mem_filter.mp he).1
  have cg : ∀ x3 x4 x5 : Option D, mLc false (mSq (mCall fSortD (mCons (mVar 0) (mNil)))) (.nm 5) (mOr (mTst (mOp (fIsN false) (mVar 1) (mK .non))) (mIfT (mTst (mVar 2)) (mTst (mOp fGtX (mVar 5) (mVar 1))) (mTst (mOp fLtX (mVar 5) (mVar 1))))) (mVar 5) [5] [some (.ref R), some (kD key), some (.bl up), x3, x4, x5] A = .ok (.lst (ksD ((es.filter fun e => Pn key up e.1).map (·.1)))) A := fun x3 x4 x5 => by
    have mi : mSq (mCall fSortD (mCons (mVar 0) (mNil))) [some (.ref R), some (kD key), some (.bl up), x3, x4, x5] A = .ok (.sq (.lst (ksD (es.map (·.1))))) A := by
      rw [ev_sq, ev_call, ev_cons, var_at (d := .ref R) rfl, bind_ok, ev_nil, bind_ok]
      show ((fSortD [.ref R] A).bind fun d A1 => _) = _
      rw [so]
      rfl
    rw [ev_lc, mi, bind_ok]
    show (if (ksD (es.map (·.1))).length ≤ 16777216 then _ else _) = _
    rw [if_pos (by unfold ksD; rw [List.length_map, List.length_map]; omega)]
    have go := comp_pure (iv := .sq (.lst (ksD (es.map (·.1))))) (all := ksD (es.map (·.1))) (t := .nm 5) (tt := mOr (mTst (mOp (fIsN false) (mVar 1) (mK .non))) (mIfT (mTst (mVar 2)) (mTst (mOp fGtX (mVar 5) (mVar 1))) (mTst (mOp fLtX (mVar 5) (mVar 1))))) (me := mVar 5) (ρ := [some (.ref R), some (kD key), some (.bl up), x3, x4, none]) (A := A) (p := fun d => match d with | .str x => Pn key up x | _ => false) (f := fun d => d) rfl (ksD (es.map (·.1))) [] fun x hx => by
      obtain ⟨y, _, rfl⟩ := List.mem_map.mp hx
      exact ⟨_, rfl, test_ok, fun _ => rfl⟩
    show (compGo (.sq (.lst (ksD (es.map (·.1))))) (ksD (es.map (·.1))) (.nm 5) _ (mVar 5) [some (.ref R), some (kD key), some (.bl up), x3, x4, none] (ksD (es.map (·.1))) [] A).bind _ = _
    rw [go, bind_ok]
    show Res.ok (D.lst _) A = _
    rw [List.map_id', List.nil_append]
    unfold ksD
    rw [List.filter_map, List.filter_map, List.map_map, List.map_map]
    rfl
  have e0 := eq_ks (A := A) (neg := false) (L := (es.filter fun e => Pn key up e.1).map (·.1)) fun k hk => by
    obtain ⟨e, he, rfl⟩ := List.mem_map.mp hk
    exact gk e (hfs he)
  unfold m__law_next
  refine fun_rt ?_
  refine (seq_nx (set_at (cg none none none))).trans ?_
  unfold nxE
  generalize es.filter (fun e => Pn key up e.1) = fs at *
  have t1 : mTst (mOp (fEq false) (mVar 3) (mLst (mNil))) [some (.ref R), some (kD key), some (.bl up), some (.lst (ksD (fs.map (·.1)))), none, none] A = .ok (fs.isEmpty) A := by
    rw [ev_tst, op_at (x := .lst (ksD (fs.map (·.1)))) (y := .lst []) (A1 := A) (A2 := A) rfl rfl e0]
    cases fs <;> rfl
  cases fs with
  | nil =>
    refine seq_rt (d := .non) (A1 := A) ?_ |>.trans ?_
    · rw [ev_ifs]
      exact (congrArg (fun z => lift z _ _) t1).trans rfl
    · cases up <;> rfl
  | cons e0' r =>
    refine (seq_nx (ρ1 := [some (.ref R), some (kD key), some (.bl up), some (.lst (ksD ((e0' :: r).map (·.1)))), none, none]) (A1 := A) ?_).trans ?_
    · rw [ev_ifs]
      exact (congrArg (fun z => lift z _ _) t1).trans rfl
    obtain ⟨e, he, hx, hi⟩ : ∃ e ∈ e0' :: r, (if up = true then (e0' :: r).head? else (e0' :: r).getLast?) = some e ∧ mIf (mTst (mVar 2)) (mOp fIx (mVar 3) (mK (.int 0))) (mOp fIx (mVar 3) (mNeg (mK (.int 1)))) [some (.ref R), some (kD key), some (.bl up), some (.lst (ksD ((e0' :: r).map (·.1)))), none, none] A = .ok (.str e.1) A := by
      cases up with
      | true =>
        refine ⟨e0', List.mem_cons_self, rfl, ?_⟩
        exact if_yes (A1 := A) rfl (op_at (A1 := A) (A2 := A) rfl rfl (ixl (j := 0) rfl))
      | false =>
        have hne : e0' :: r ≠ [] := by simp
        refine ⟨(e0' :: r).getLast hne, List.getLast_mem hne, by rw [List.getLast?_eq_some_getLast hne]; rfl, ?_⟩
        have ix : fIx (.lst (ksD ((e0' :: r).map (·.1)))) (.int (-1)) A = .ok (.str ((e0' :: r).getLast hne).1) A := ix_lst (atI_neg1 (by
          unfold ksD
          rw [List.getLast?_map, List.getLast?_map, List.getLast?_eq_some_getLast hne]
          rfl))
        exact if_not (A1 := A) rfl (op_at (A1 := A) (A2 := A) rfl rfl ix)
    rw [hx]
    refine (seq_nx (set_at hi)).trans ?_
    have gg := gt (hfs he)
    have c2 : mOp fDGet (mVar 0) (mVar 4) [some (.ref R), some (kD key), some (.bl up), some (.lst (ksD ((e0' :: r).map (·.1)))), some (.str e.1), none] A = .ok e.2 A := op_at (A1 := A) (A2 := A) rfl rfl gg
    show mRet _ [some (.ref R), some (kD key), some (.bl up), some (.lst (ksD ((e0' :: r).map (·.1)))), some (.str e.1), none] A = _
    rw [ev_ret, ev_tup, ev_cons, var_at (d := .str e.1) rfl, bind_ok, ev_cons, c2]
    rfl
theorem nx_head {es : List En} : nxE es none true = es.head? := by
  unfold nxE Pn
  rw [if_pos rfl]
  exact congrArg List.head? (fil_true es)
theorem nx_last {es : List En} : nxE es none false = es.getLast? := by
  unfold nxE Pn
  rw [if_neg (by decide)]
  exact congrArg List.getLast? (fil_true es)
theorem nx_after {es : List En} {k : Str} : nxE es (some k) true = nextE es k := by
  unfold nxE Pn nextE
  rw [if_pos rfl, List.head?_filter]
  rfl
theorem nx_before {es : List En} {k : Str} : nxE es (some k) false = prevE es k := rfl
/-! ### what is no key -/
theorem wrong_long : ∀ (j : Nat) (cs : List Nat), j ≤ 16 → (∀ c ∈ cs, c ∈ SG.cps.toList) → 16 < j + cs.length → wrongI j cs = some 16
  | j, [], h1, _, h3 => by rw [List.length_nil] at h3; omega
  | j, c :: r, h1, h2, h3 => by
    unfold wrongI
    by_cases e : j = 16
    · rw [if_pos (.inl e), e]
    · rw [if_neg (fun z => z.elim e fun w => w (h2 c List.mem_cons_self))]
      exact wrong_long (j + 1) r (by omega) (fun z hz => h2 z (List.mem_cons_of_mem _ hz)) (by rw [List.length_cons] at h3; omega)
def hdK : HdM := ⟨"InvalidKey", ["InvalidKey"], ["InvalidSize"], some 3, fun C a d => mDrop (mMet fApp (mVar 2) (mCons (mXf C ["InvalidKey"] a d "at" (mVar 3)) (mNil)))⟩
theorem bad_try {sb : MS} {x0 x1 : Option D} {c : Nat} {xs : List D} {i : Int} (hb : sb [x0, x1, some (.ref c), none] A = .exc "InvalidKey" [("at", .int i)] [x0, x1, some (.ref c), none] A) (hc : A[c]? = some (.lst xs)) (hl : xs.length < 1000) : mTry sb [hdK] [x0, x1, some (.ref c), none] A = .nx [x0, x1, some (.ref c), none] (A.set c (.lst (xs ++ [.int i]))) := by
  refine try_exc1 hb (by simp [hdK]) fun a d => ?_
  have ap : fApp c [.int i] A = .ok .non (A.set c (.lst (xs ++ [.int i]))) := by
    unfold fApp
    simp only [hc, show xs.length < 16777216 by omega, if_true]
  have e1 : mXf "InvalidKey" ["InvalidKey"] a (some d) "at" (mVar 3) [x0, x1, some (.ref c), some (.exv a (some d) ["at"] [.int i])] A = .ok (.int i) A := by
    unfold mXf
    rw [var_at (d := .exv a (some d) ["at"] [.int i]) rfl, bind_ok]
    have hz : (([("at" : Str)] : List Str).zip [D.int i]).lookup (("at" : Str)) = some (D.int i) := rfl
    simp only [hz, List.mem_singleton, and_self, if_true]
  have e2 : mMet fApp (mVar 2) (mCons (mXf "InvalidKey" ["InvalidKey"] a (some d) "at" (mVar 3)) (mNil)) [x0, x1, some (.ref c), some (.exv a (some d) ["at"] [.int i])] A = .ok .non (A.set c (.lst (xs ++ [.int i]))) := by
    rw [ev_met, var_at (d := .ref c) rfl, bind_ok]
    simp only [hc, ev_cons, e1, bind_ok, ev_nil, ap]
  show goneM (some 3) (mDrop (mMet fApp (mVar 2) (mCons (mXf "InvalidKey" ["InvalidKey"] a (some d) "at" (mVar 3)) (mNil))) [x0, x1, some (.ref c), some (.exv a (some d) ["at"] [.int i])] A) = _
  rw [drop_at e2]
  rfl
theorem wrong_ok {d v : D} {i : Int} (hv : ∀ B : AH, f_key_fault [v] B = .ok (.int i) B) : ∃ A', wrM [d, v] A = .ok (.ref A.length) A' ∧ A'.length = A.length + 1 ∧ (∀ n, n < A.length → A'[n]? = A[n]?) ∧ A'[A.length]? = some (.lst [.int i, .int i]) := by
  have nb : ∀ B : AH, mCallF 1 f_need_key (mCons (mVar 1) (mNil)) = mCallF 1 f_need_key (mCons (mVar 1) (mNil)) := fun _ => rfl
  have fa : ∀ B : AH, f_after [d, v] B = .exc "InvalidKey" [("at", .int i)] B := fun B => by
    have z : mCallF 1 f_need_key (mCons (mVar 1) (mNil)) [some d, some v, none] B = .exc "InvalidKey" [("at", .int i)] B := callF_at (A1 := B) (ds := [v]) rfl rfl (need_bad (hv B))
    unfold f_after
    refine fun_exc (ρ1 := [some d, some v, none]) (seq_exc ?_)
    rw [ev_drop]
    exact (congrArg (fun y => lift y _ _) z).trans rfl
  have fb : ∀ B : AH, f_before [d, v] B = .exc "InvalidKey" [("at", .int i)] B := fun B => by
    have z : mCallF 1 f_need_key (mCons (mVar 1) (mNil)) [some d, some v, none, none, none, none] B = .exc "InvalidKey" [("at", .int i)] B := callF_at (A1 := B) (ds := [v]) rfl rfl (need_bad (hv B))
    unfold f_before
    refine fun_exc (ρ1 := [some d, some v, none, none, none, none]) (seq_exc ?_)
    rw [ev_drop]
    exact (congrArg (fun y => lift y _ _) z).trans rfl
  have s1 : ∀ (x y : AO), (A ++ [x]).set A.length y = A ++ [y] := fun x y => by rw [List.set_append_right _ _ (Nat.le_refl _), Nat.sub_self]; rfl
  have g1 : ∀ x : AO, (A ++ [x])[A.length]? = some x := fun x => by rw [List.getElem?_append_right (Nat.le_refl _), Nat.sub_self]; rfl
  have c1 : mCallF 2 f_after (mCons (mVar 0) (mCons (mVar 1) (mNil))) [some d, some v, some (.ref A.length), none] (A ++ [.lst []]) = .exc "InvalidKey" [("at", .int i)] (A ++ [.lst []]) := callF_at (A1 := A ++ [.lst []]) (ds := [d, v]) rfl rfl (fa _)
  have c2 : mCallK 0 2 2 [1, 0] f_before (mNil) (mCons (mVar 1) (mCons (mVar 0) (mNil))) [some d, some v, some (.ref A.length), none] (A ++ [.lst [.int i]]) = .exc "InvalidKey" [("at", .int i)] (A ++ [.lst [.int i]]) := callK_at (ds := []) (es := [v, d]) (zs := [d, v]) (A1 := A ++ [.lst [.int i]]) (A2 := A ++ [.lst [.int i]]) rfl rfl rfl rfl rfl rfl (fb _)
  have b1 := bad_try (A := A ++ [.lst []]) (i := i) (drop_exc c1) (g1 _) (by simp)
  have b2 := bad_try (A := A ++ [.lst [.int i]]) (i := i) (drop_exc c2) (g1 _) (by simp)
  rw [s1] at b1
  rw [s1] at b2
  refine ⟨A ++ [.lst [.int i, .int i]], ?_, by simp, fun n hn => by rw [List.getElem?_append_left hn], g1 _⟩
  unfold wrM m__law_wrong
  refine fun_rt ?_
  unfold ms__law_wrong
  refine (seq_nx (ρ1 := [some d, some v, some (.ref A.length), none]) (A1 := A ++ [.lst []]) rfl).trans ?_
  refine (seq_nx b1).trans ?_
  refine (seq_nx b2).trans ?_
  rfl
/-! ### some drawn deeds -/
noncomputable def b_ch : MS := mSeq (mSet 5 (mCallF 2 (pickM anyN) (mCons (mVar 0) (mCons (mVar 3) (mNil))))) (mIfS (mTst (mOp (fEq false) (mCallF 2 anyN (mCons (mVar 0) (mCons (mK (.int 2)) (mNil)))) (mK (.int 0)))) (mSeq (mDPut (mCallF 1 thingN (mCons (mVar 0) (mNil))) (mVar 2) (mVar 5)) (mDrop (mMeth "Tree" "put" 3 f_Tree__put (mVar 1) (mCons (mVar 5) (mCons (mOp fDGet (mVar 2) (mVar 5)) (mNil)))))) (mSeq (mDrop (mDPop2 (mVar 2) (mVar 5) (mK .non))) (mDrop (mMeth "Tree" "take" 2 f_Tree__take (mVar 1) (mCons (mVar 5) (mNil))))))
theorem pick_key (hs : HS h q A) (K : Ks 30 ks) : ∃ k ∈ ks, ∃ A', pickM anyN [.ref h, .lst (ksD ks)] A = .ok (.str k) A' ∧ Drawn h q A A' := by
  have hl := K.ln
  have h0 : 0 < ks.length := List.length_pos_iff.mpr K.ne
  obtain ⟨d, hd, A', e, dr⟩ := of_lst (xs := ksD ks) hs (by unfold ksD; rw [List.length_map]; exact h0) (by unfold ksD; rw [List.length_map]; omega)
  obtain ⟨k, hk, rfl⟩ := List.mem_map.mp hd
  exact ⟨k, hk, A', e, dr⟩
theorem ch_turn {x4 x5 : Option D} (w : Wd h q T Kn R m ks es A) : ∃ es' A' x5', b_ch [some (.ref h), some (.ref T), some (.ref R), some (.lst (ksD ks)), x4, x5] A = .nx [some (.ref h), some (.ref T), some (.ref R), some (.lst (ksD ks)), x4, x5'] A' ∧ Wd h q T Kn R m ks es' A' ∧ Kp h q T Kn R A A' := by
  obtain ⟨k, hk, A1, e1, d1⟩ := pick_key w.hs w.K
  obtain ⟨v, A2, e2, hv, d2⟩ := any_nat (k := 2) d1.2.1 (by decide) (by decide)
  rw [show ((2 : Nat) : Int) = 2 from rfl] at e2
  have w2 := w.drawn (d1.trans d2)
  have k2 : Kp h q T Kn R A A2 := .of (d1.trans d2)
  have s1 : mSet 5 (mCallF 2 (pickM anyN) (mCons (mVar 0) (mCons (mVar 3) (mNil)))) [some (.ref h), some (.ref T), some (.ref R), some (.lst (ksD ks)), x4, x5] A = .nx [some (.ref h), some (.ref T), some (.ref R), some (.lst (ksD ks)), x4, some (.str k)] A1 := set_at (callF_at (A1 := A) (ds := [.ref h, .lst (ksD ks)]) rfl rfl e1)
  have t1 : mTst (mOp (fEq false) (mCallF 2 anyN (mCons (mVar 0) (mCons (mK (.int 2)) (mNil)))) (mK (.int 0))) [some (.ref h), some (.ref T), some (.ref R), some (.lst (ksD ks)), x4, some (.str k)] A1 = .ok (decide ((v : Int) = 0)) A2 := tst_at (op_at (x := .int (v : Int)) (y := .int 0) (A1 := A2) (A2 := A2) (callF_at (A1 := A1) (ds := [.ref h, .int 2]) rfl rfl e2) rfl eq_ii)
  by_cases hz : (v : Int) = 0
  · obtain ⟨es', A', e, w', k'⟩ := put_deed (ρ := [some (.ref h), some (.ref T), some (.ref R), some (.lst (ksD ks)), x4, some (.str k)]) (i := 0) (j := 5) (r := 2) (t := 1) w2 hk rfl rfl rfl rfl
    refine ⟨es', A', some (.str k), ?_, w', k2.trans k'⟩
    refine (seq_nx s1).trans ?_
    rw [ev_ifs, t1, decide_eq_true hz, lift_ok, if_pos rfl]
    exact e
  · obtain ⟨es', A', e, w', k'⟩ := take_deed (ρ := [some (.ref h), some (.ref T), some (.ref R), some (.lst (ksD ks)), x4, some (.str k)]) (j := 5) (r := 2) (t := 1) w2 hk rfl rfl rfl
    refine ⟨es', A', some (.str k), ?_, w', k2.trans k'⟩
    refine (seq_nx s1).trans ?_
    rw [ev_ifs, t1, decide_eq_false hz, lift_ok, if_neg (by decide)]
    exact e
theorem ch_go {iv : ItV} {all : List D} (hit : ∀ A, itemsOf A iv = some all) : ∀ (xs : List D) (es : List En) (A : AH) (x4 x5 : Option D), Wd h q T Kn R m ks es A → ∃ es' A' x4' x5', forGo iv all (.nm 4) b_ch xs [some (.ref h), some (.ref T), some (.ref R), some (.lst (ksD ks)), x4, x5] A = .nx [some (.ref h), some (.ref T), some (.ref R), some (.lst (ksD ks)), x4', x5'] A' ∧ Wd h q T Kn R m ks es' A' ∧ Kp h q T Kn R A A'
  | [], es, A, x4, x5, w => ⟨es, A, x4, x5, for_nil (hit A), w, .refl⟩
  | x :: xs, es, A, x4, x5, w => by
    obtain ⟨es1, A1, y5, e1, w1, k1⟩ := ch_turn (x4 := some x) (x5 := x5) w
    obtain ⟨es2, A2, z4, z5, e2, w2, k2⟩ := ch_go hit xs es1 A1 (some x) y5 w1
    refine ⟨es2, A2, z4, z5, ?_, w2, k1.trans k2⟩
    rw [for_nx (ρ1 := [some (.ref h), some (.ref T), some (.ref R), some (.lst (ksD ks)), some x, x5]) (hit A) rfl e1]
    exact e2
theorem changed_ok (w : Wd h q T Kn R m ks es A) : ∃ es' A', chM [.ref h, .ref T, .ref R, .lst (ksD ks)] A = .ok (.lst (ksD (es'.map (·.1)))) A' ∧ Wd h q T Kn R m ks es' A' ∧ Kp h q T Kn R A A' := by
  obtain ⟨v, A1, e1, hv, d1⟩ := any_nat (k := 3) w.hs (by decide) (by decide)
  rw [show ((3 : Nat) : Int) = 3 from rfl] at e1
  have hit : ∀ B : AH, itemsOf B (.rng 0 (v : Int)) = some ((List.range ((v : Int) - 0).toNat).map fun i => D.int (0 + (i : Nat))) := fun B => rfl
  obtain ⟨es', A', x4, x5, e2, w2, k2⟩ := ch_go hit ((List.range ((v : Int) - 0).toNat).map fun i => D.int (0 + (i : Nat))) es A1 none none (w.drawn d1)
  refine ⟨es', A', ?_, w2, (Kp.of d1).trans k2⟩
  unfold chM m__law_changed
  refine fun_rt ?_
  have f1 : mFor (mR1 (mCons (mCallF 2 anyN (mCons (mVar 0) (mCons (mK (.int 3)) (mNil)))) (mNil))) (.nm 4) b_ch [some (.ref h), some (.ref T), some (.ref R), some (.lst (ksD ks)), none, none] A = .nx [some (.ref h), some (.ref T), some (.ref R), some (.lst (ksD ks)), x4, x5] A' := by
    have c1 : mCallF 2 anyN (mCons (mVar 0) (mCons (mK (.int 3)) (mNil))) [some (.ref h), some (.ref T), some (.ref R), some (.lst (ksD ks)), none, none] A = .ok (.int (v : Int)) A1 := callF_at (A1 := A) (ds := [.ref h, .int 3]) rfl rfl e1
    rw [ev_for, r1_at (j := (v : Int)) (A1 := A1) (by rw [ev_cons, c1, bind_ok, ev_nil]; rfl) (by omega), lift_ok, hit]
    exact e2
  refine (seq_nx f1).trans ?_
  have so := w2.sorted
  rw [ev_ret, ev_call, ev_cons, var_at (d := .ref R) rfl, bind_ok, ev_nil, bind_ok]
  show lift (fSortD [.ref R] A') _ _ = _
  rw [so]
  rfl
end K12
end
section
set_option maxHeartbeats 1000000
namespace K12
open PySem PySem.Spec PyProof.Rows L2 DM TR
variable {A : AH} {h q T Kn R M m : Nat} {ks met stay : List Str} {es : List En} {up : Bool} {key : Option Str} {ρ : DM.Env}
theorem rep_same {me me2 : ME} {A1 A2 : AH} {d : D} {k w : Nat} {p : PyData} (h1 : me ρ A = .ok d A1) (h2 : me2 ρ A1 = .ok d A2) (s : Shd k w d p) (hk : k ≤ 32) (hw : 22 * w + 20 ≤ 16777216) : mTst (mOp (fEq true) (mCall fRepr (mCons me (mNil))) (mCall fRepr (mCons me2 (mNil)))) ρ A = .ok false A2 := by
  have c1 : mCall fRepr (mCons me (mNil)) ρ A = .ok (.str p.shown) A1 := by
    rw [ev_call, ev_cons, h1, bind_ok, ev_nil, bind_ok, bind_ok, repr_shd s hk hw]
  have c2 : mCall fRepr (mCons me2 (mNil)) ρ A1 = .ok (.str p.shown) A2 := by
    rw [ev_call, ev_cons, h2, bind_ok, ev_nil, bind_ok, bind_ok, repr_shd s hk hw]
  refine tst_at (op_at c1 c2 ?_)
  rw [eq_ss, decide_eq_true rfl]
  rfl
theorem no_if {mt : MT} {A1 : AH} (h1 : mt ρ A = .ok false A1) : mIfS mt (mRet (mK (.bl false))) (mNext) ρ A = .nx ρ A1 := ifs_at h1 rfl
theorem enO_shd (w : Wd h q T Kn R m ks es A) {o : Option En} (ho : ∀ e, o = some e → e ∈ es) : ∃ p, Shd 3 526 (enO o) p := by
  cases o with
  | none => exact ⟨_, shd_non.up (by decide) (by decide)⟩
  | some e =>
    have he := ho e rfl
    exact en_shd (w.gk e he) (w.sub e he).2
theorem two_shd (w : Wd h q T Kn R m ks es A) {o o' : Option En} (ho : ∀ e, o = some e → e ∈ es) (ho' : ∀ e, o' = some e → e ∈ es) : ∃ p, Shd 4 1054 (.lst [enO o, enO o']) p := by
  obtain ⟨p, hp⟩ := enO_shd w ho
  obtain ⟨p', hp'⟩ := enO_shd w ho'
  exact ⟨_, shd_lst (k := 3) (w := 526) (shl_cons hp (by decide) (by decide) (shl_cons hp' (by decide) (by decide) shl_nil))⟩
theorem nx_in {e : En} (he : nxE es key up = some e) : e ∈ es ∧ Pn key up e.1 = true := by
  unfold nxE at he
  have : e ∈ es.filter (fun e => Pn key up e.1) := by
    cases up with
    | true => exact List.mem_of_head? he
    | false => exact List.mem_of_getLast? he
  exact ⟨(List.mem_filter.mp this).1, (List.mem_filter.mp this).2⟩
def rel (up : Bool) (a b : Str) : Prop := if up = true then sLt a b else sLt b a
theorem rel_tr {a b c : Str} (h1 : rel up a b) (h2 : rel up b c) : rel up a c := by
  cases up with
  | true => exact lt_tr h1 h2
  | false => exact lt_tr h2 h1
theorem Pn_rel {k x : Str} : Pn (some k) up x = true ↔ rel up k x := by
  cases up with
  | true => exact decide_eq_true_iff
  | false => exact decide_eq_true_iff
theorem nx_no (hn : nxE es key up = none) {e : En} (he : e ∈ es) : Pn key up e.1 = false := by
  unfold nxE at hn
  cases hp : Pn key up e.1 with
  | false => rfl
  | true =>
    have hm : e ∈ es.filter (fun e => Pn key up e.1) := List.mem_filter.mpr ⟨he, hp⟩
    cases up with
    | true =>
      rw [if_pos rfl] at hn
      rw [List.head?_eq_none_iff.mp hn] at hm
      cases hm
    | false =>
      rw [if_neg (by decide)] at hn
      rw [List.getLast?_eq_none_iff.mp hn] at hm
      cases hm
theorem nx_least (hs : Srt es) {e x : En} (hn : nxE es key up = some e) (hx : x ∈ es) (hp : Pn key up x.1 = true) : x = e ∨ rel up e.1 x.1 := by
  unfold nxE at hn
  have hm : x ∈ es.filter (fun e => Pn key up e.1) := List.mem_filter.mpr ⟨hx, hp⟩
  have hf : (es.filter (fun e => Pn key up e.1)).Pairwise fun a b => sLt a.1 b.1 := hs.filter _
  generalize es.filter (fun e => Pn key up e.1) = fs at hn hm hf
  cases up with
  | true =>
    rw [if_pos rfl] at hn
    cases fs with
    | nil => cases hm
    | cons y r =>
      cases hn
      rcases List.mem_cons.mp hm with z | z
      · exact .inl z
      · exact .inr ((List.pairwise_cons.mp hf).1 x z)
  | false =>
    rw [if_neg (by decide)] at hn
    obtain ⟨r, hr⟩ := List.getLast?_eq_some_iff.mp hn
    rw [hr] at hm hf
    rcases List.mem_append.mp hm with z | z
    · exact .inr ((List.pairwise_append.mp hf).2.2 x z e List.mem_cons_self)
    · exact .inl (List.mem_singleton.mp z)
abbrev Ev (x0 : Option D) (h R T M : Nat) (ks stay : List Str) (up : Bool) (key : Option Str) (dn : Bool) (x10 x11 x12 x13 x14 x15 x16 x17 x18 : Option D) : DM.Env := [x0, some (.ref h), some (.lst (ksD ks)), some (.ref R), some (.ref T), some (.bl up), some (kD key), some (.lst (ksD stay)), some (.ref M), some (.bl dn), x10, x11, x12, x13, x14, x15, x16, x17, x18]
structure Iv (h q T Kn R M m : Nat) (ks : List Str) (up : Bool) (key : Option Str) (met stay : List Str) (es : List En) (A : AH) : Prop where
  w : Wd h q T Kn R m ks es A
  hM : A[M]? = some (.lst (ksD met))
  nM : (M ≠ h ∧ M ≠ q) ∧ M ≠ T ∧ M ≠ Kn ∧ M ≠ R
  mt : met.Pairwise (rel up)
  kl : match key with | none => met = [] | some k => k ∈ ks ∧ ∀ a ∈ met, a = k ∨ rel up a k
  ms : ∀ a ∈ met, a ∈ ks
  st : ∀ x ∈ stay, x ∈ met ∨ (x ∈ es.map (·.1) ∧ Pn key up x = true)
  sk : ∀ x ∈ stay, x ∈ ks
  sl : stay.length ≤ 30
theorem len_of (K : Ks 30 ks) (hm : met.Pairwise (rel up)) (hs : ∀ a ∈ met, a ∈ ks) : met.length ≤ 30 := by
  cases up with
  | true => exact Nat.le_trans (sub_len hm K.st hs) K.ln
  | false =>
    have := sub_len (a := met.reverse) (List.pairwise_reverse.mpr hm) K.st fun x hx => hs x (List.mem_reverse.mp hx)
    rw [List.length_reverse] at this
    exact Nat.le_trans this K.ln
theorem fil_ks {neg : Bool} {i j l : Nat} {L Q : List Str} {d : D} (hi : ρ[i]? = some (some (.lst (ksD L)))) (hj : ρ[j]? = some (some d)) (hd : seqOf A d = some (ksD Q)) (hl : l < ρ.length) (h1 : l ≠ i) (h2 : l ≠ j) (hL : L.length ≤ 1000) :
    mLc false (mSq (mVar i)) (.nm l) (mTst (mOp (fIn neg) (mVar l) (mVar j))) (mVar l) [l] ρ A = .ok (.lst (ksD (L.filter fun x => if neg then !decide (x ∈ Q) else decide (x ∈ Q)))) A := by
  have mi : mSq (mVar i) ρ A = .ok (.sq (.lst (ksD L))) A := by
    rw [ev_sq, var_at hi]
    rfl
  rw [ev_lc, mi, bind_ok]
  show (if (ksD L).length ≤ 16777216 then _ else _) = _
  rw [if_pos (by unfold ksD; rw [List.length_map]; omega)]
  have go := comp_pure (iv := .sq (.lst (ksD L))) (all := ksD L) (t := .nm l) (tt := mTst (mOp (fIn neg) (mVar l) (mVar j))) (me := mVar l) (ρ := wipeD ρ [l]) (A := A) (p := fun d => match d with | .str x => (if neg then !decide (x ∈ Q) else decide (x ∈ Q)) | _ => false) (f := fun d => d) rfl (ksD L) [] fun x hx => by
    obtain ⟨y, _, rfl⟩ := List.mem_map.mp hx
    have hw : wipeD ρ [l] = ρ.set l none := rfl
    have v1 : ((wipeD ρ [l]).set l (some (.str y)))[l]? = some (some (.str y)) := List.getElem?_set_self (by rw [hw, List.length_set]; exact hl)
    have v2 : ((wipeD ρ [l]).set l (some (.str y)))[j]? = some (some d) := by rw [List.getElem?_set_ne h2, hw, List.getElem?_set_ne h2, hj]
    exact ⟨_, rfl, tst_at (op_at (var_at v1) (var_at v2) (in_ks hd)), fun _ => var_at v1⟩
  rw [go, bind_ok, List.map_id', List.nil_append]
  unfold ksD
  rw [List.filter_map]
  rfl
theorem root_call (w : Wd h q T Kn R m ks es A) {i : Nat} (hi : ρ[i]? = some (some (.ref T))) : ∃ n d, mMeth "Tree" "root" 1 f_Tree__root (mVar i) (mNil) ρ A = .ok d A ∧ Ok m n d es := by
  obtain ⟨n, d, e, o⟩ := tree_root w.tr
  obtain ⟨n1, d1, kvs1, z1, z2⟩ := w.tr.ex
  exact ⟨n, d, meth_at (ds := []) (var_at hi) z1 tF_no.2.2 rfl rfl e, o⟩
theorem next_call (w : Wd h q T Kn R m ks es A) {ms : MA} {key : Option Str} {up : Bool} (hms : ms ρ A = .ok [.ref R, kD key, .bl up] A) : mCallF 3 m__law_next ms ρ A = .ok (enO (nxE es key up)) A := callF_at hms rfl (next_ok w)
theorem key_if {α : Type} {k : Option α} : k = none ∨ ∃ x, k = some x := by cases k <;> simp
/-- one look at the tree, and the next key -/
theorem look_ok {x0 x10 x11 x12 x13 x14 x15 x16 x17 x18 : Option D} (I : Iv h q T Kn R M m ks up key met stay es A) : ∃ (y13 y14 y15 y17 : Option D) (A' : AH), (∀ rest : MS, mSeq (mPar2 13 12 (mCons (mMeth "Tree" "root" 1 f_Tree__root (mVar 4) mNil) (mCons (mCallF 3 m__law_next (mCons (mVar 3) (mCons (mVar 6) (mCons (mVar 5) (mNil))))) (mNil)))) (mSeq (mIfS (mTst (mOp (fIsN false) (mVar 6) (mK .non))) (mSeq (mSet 17 (mIf (mTst (mVar 5)) (mCallF 1 f_first (mCons (mVar 13) (mNil))) (mCallF 1 f_last (mCons (mVar 13) (mNil))))) (mIfS (mTst (mOp (fEq true) (mCall fRepr (mCons (mLst (mCons (mCallK 0 1 1 [0] f_first (mNil) (mCons (mVar 13) (mNil))) (mCons (mCallK 0 1 1 [0] f_last (mNil) (mCons (mVar 13) (mNil))) (mNil)))) (mNil))) (mCall fRepr (mCons (mLst (mCons (mCallF 3 m__law_next (mCons (mVar 3) (mCons (mK .non) (mCons (mK (.bl true)) (mNil))))) (mCons (mCallF 3 m__law_next (mCons (mVar 3) (mCons (mK .non) (mCons (mK (.bl false)) (mNil))))) (mNil)))) (mNil))))) (mRet (mK (.bl false))) (mNext))) (mSet 17 (mIf (mTst (mVar 5)) (mCallF 2 f_after (mCons (mVar 13) (mCons (mVar 6) (mNil)))) (mCallF 2 f_before (mCons (mVar 13) (mCons (mVar 6) (mNil))))))) (mSeq (mIfS (mTst (mOp (fEq true) (mCall fRepr (mCons (mVar 17) (mNil))) (mCall fRepr (mCons (mVar 12) (mNil))))) (mRet (mK (.bl false))) (mNext)) (mSeq (mSet 14 (mCallF 2 (pickM anyN) (mCons (mVar 1) (mCons (mVar 2) (mNil))))) (mSeq (mSet 15 (mLst (mCons (mCallK 0 2 2 [1, 0] f_after (mNil) (mCons (mVar 14) (mCons (mVar 13) (mNil)))) (mCons (mCallF 2 f_before (mCons (mVar 13) (mCons (mVar 14) (mNil)))) (mNil))))) (mSeq (mIfS (mTst (mOp (fEq true) (mCall fRepr (mCons (mVar 15) (mNil))) (mCall fRepr (mCons (mLst (mCons (mCallF 3 m__law_next (mCons (mVar 3) (mCons (mVar 14) (mCons (mK (.bl true)) (mNil))))) (mCons (mCallF 3 m__law_next (mCons (mVar 3) (mCons (mVar 14) (mCons (mK (.bl false)) (mNil))))) (mNil)))) (mNil))))) (mRet (mK (.bl false))) (mNext)) rest))))) (Ev x0 h R T M ks stay up key false x10 x11 x12 x13 x14 x15 x16 x17 x18) A = rest (Ev x0 h R T M ks stay up key false x10 x11 (some (enO (nxE es key up))) y13 y14 y15 x16 y17 x18) A') ∧ Drawn h q A A' := by
  have w := I.w
  obtain ⟨n, d, c0, o⟩ := root_call (ρ := Ev x0 h R T M ks stay up key false x10 x11 x12 x13 x14 x15 x16 x17 x18) (i := 4) w rfl
  have c1 := next_call (ρ := Ev x0 h R T M ks stay up key false x10 x11 x12 x13 x14 x15 x16 x17 x18) (ms := mCons (mVar 3) (mCons (mVar 6) (mCons (mVar 5) (mNil)))) w (key := key) (up := up) rfl
  have s0 : (mPar2 13 12 (mCons (mMeth "Tree" "root" 1 f_Tree__root (mVar 4) mNil) (mCons (mCallF 3 m__law_next (mCons (mVar 3) (mCons (mVar 6) (mCons (mVar 5) (mNil))))) (mNil)))) (Ev x0 h R T M ks stay up key false x10 x11 x12 x13 x14 x15 x16 x17 x18) A = .nx (Ev x0 h R T M ks stay up key false x10 x11 (some (enO (nxE es key up))) (some d) x14 x15 x16 x17 x18) A := by
    rw [ev_par2, ev_cons, c0, bind_ok, ev_cons, c1, bind_ok, ev_nil]
    rfl
  have h3 := w.tr.h3
  have hm := w.tr.hm
  have fi := first_at (A := A) o
  have la := last_at (A := A) o
  have s1 : (mIfS (mTst (mOp (fIsN false) (mVar 6) (mK .non))) (mSeq (mSet 17 (mIf (mTst (mVar 5)) (mCallF 1 f_first (mCons (mVar 13) (mNil))) (mCallF 1 f_last (mCons (mVar 13) (mNil))))) (mIfS (mTst (mOp (fEq true) (mCall fRepr (mCons (mLst (mCons (mCallK 0 1 1 [0] f_first (mNil) (mCons (mVar 13) (mNil))) (mCons (mCallK 0 1 1 [0] f_last (mNil) (mCons (mVar 13) (mNil))) (mNil)))) (mNil))) (mCall fRepr (mCons (mLst (mCons (mCallF 3 m__law_next (mCons (mVar 3) (mCons (mK .non) (mCons (mK (.bl true)) (mNil))))) (mCons (mCallF 3 m__law_next (mCons (mVar 3) (mCons (mK .non) (mCons (mK (.bl false)) (mNil))))) (mNil)))) (mNil))))) (mRet (mK (.bl false))) (mNext))) (mSet 17 (mIf (mTst (mVar 5)) (mCallF 2 f_after (mCons (mVar 13) (mCons (mVar 6) (mNil)))) (mCallF 2 f_before (mCons (mVar 13) (mCons (mVar 6) (mNil))))))) (Ev x0 h R T M ks stay up key false x10 x11 (some (enO (nxE es key up))) (some d) x14 x15 x16 x17 x18) A = .nx (Ev x0 h R T M ks stay up key false x10 x11 (some (enO (nxE es key up))) (some d) x14 x15 x16 (some (enO (nxE es key up))) x18) A := by
    rcases key_if (k := key) with rfl | ⟨k, rfl⟩
    · refine ifs_at (k := true) (A1 := A) rfl ?_
      rw [if_pos rfl]
      have t17 : (mIf (mTst (mVar 5)) (mCallF 1 f_first (mCons (mVar 13) (mNil))) (mCallF 1 f_last (mCons (mVar 13) (mNil)))) (Ev x0 h R T M ks stay up none false x10 x11 (some (enO (nxE es none up))) (some d) x14 x15 x16 x17 x18) A = .ok (enO (nxE es none up)) A := by
        cases up with
        | true =>
          rw [nx_head]
          exact if_yes (A1 := A) rfl (callF_at (A1 := A) (ds := [d]) rfl rfl fi)
        | false =>
          rw [nx_last]
          exact if_not (A1 := A) rfl (callF_at (A1 := A) (ds := [d]) rfl rfl la)
      refine (seq_nx (ρ1 := Ev x0 h R T M ks stay up none false x10 x11 (some (enO (nxE es none up))) (some d) x14 x15 x16 (some (enO (nxE es none up))) x18) (A1 := A) (set_at t17)).trans ?_
      obtain ⟨p, hp⟩ := two_shd w (o := nxE es none true) (o' := nxE es none false) (fun e he => (nx_in he).1) (fun e he => (nx_in he).1)
      have e1 : mLst (mCons (mCallK 0 1 1 [0] f_first (mNil) (mCons (mVar 13) (mNil))) (mCons (mCallK 0 1 1 [0] f_last (mNil) (mCons (mVar 13) (mNil))) (mNil))) (Ev x0 h R T M ks stay up none false x10 x11 (some (enO (nxE es none up))) (some d) x14 x15 x16 (some (enO (nxE es none up))) x18) A = .ok (.lst [enO (nxE es none true), enO (nxE es none false)]) A := by
        have z1 : mCallK 0 1 1 [0] f_first (mNil) (mCons (mVar 13) (mNil)) (Ev x0 h R T M ks stay up none false x10 x11 (some (enO (nxE es none up))) (some d) x14 x15 x16 (some (enO (nxE es none up))) x18) A = .ok (enO (nxE es none true)) A := callK_at (ds := []) (es := [d]) (zs := [d]) (A1 := A) (A2 := A) rfl rfl rfl rfl rfl rfl (by rw [nx_head]; exact fi)
        have z2 : mCallK 0 1 1 [0] f_last (mNil) (mCons (mVar 13) (mNil)) (Ev x0 h R T M ks stay up none false x10 x11 (some (enO (nxE es none up))) (some d) x14 x15 x16 (some (enO (nxE es none up))) x18) A = .ok (enO (nxE es none false)) A := callK_at (ds := []) (es := [d]) (zs := [d]) (A1 := A) (A2 := A) rfl rfl rfl rfl rfl rfl (by rw [nx_last]; exact la)
        rw [ev_lst, ev_cons, z1, bind_ok, ev_cons, z2]
        rfl
      have e2 : mLst (mCons (mCallF 3 m__law_next (mCons (mVar 3) (mCons (mK .non) (mCons (mK (.bl true)) (mNil))))) (mCons (mCallF 3 m__law_next (mCons (mVar 3) (mCons (mK .non) (mCons (mK (.bl false)) (mNil))))) (mNil))) (Ev x0 h R T M ks stay up none false x10 x11 (some (enO (nxE es none up))) (some d) x14 x15 x16 (some (enO (nxE es none up))) x18) A = .ok (.lst [enO (nxE es none true), enO (nxE es none false)]) A := by
        have z1 := next_call (ρ := Ev x0 h R T M ks stay up none false x10 x11 (some (enO (nxE es none up))) (some d) x14 x15 x16 (some (enO (nxE es none up))) x18) (ms := mCons (mVar 3) (mCons (mK .non) (mCons (mK (.bl true)) (mNil)))) w (key := none) (up := true) rfl
        have z2 := next_call (ρ := Ev x0 h R T M ks stay up none false x10 x11 (some (enO (nxE es none up))) (some d) x14 x15 x16 (some (enO (nxE es none up))) x18) (ms := mCons (mVar 3) (mCons (mK .non) (mCons (mK (.bl false)) (mNil)))) w (key := none) (up := false) rfl
        rw [ev_lst, ev_cons, z1, bind_ok, ev_cons, z2]
        rfl
      exact no_if (rep_same e1 e2 hp (by decide) (by decide))
    · refine ifs_at (k := false) (A1 := A) rfl ?_
      rw [if_neg (by decide)]
      have g : KG k := w.K.gk k I.kl.1
      refine set_at ?_
      cases up with
      | true =>
        rw [nx_after]
        exact if_yes (A1 := A) rfl (callF_at (A1 := A) (ds := [d, .str k]) rfl rfl (after_at h3 hm o w.tr.srt g))
      | false =>
        rw [nx_before]
        exact if_not (A1 := A) rfl (callF_at (A1 := A) (ds := [d, .str k]) rfl rfl (before_at h3 hm o w.tr.srt g))
  obtain ⟨p2, hp2⟩ := enO_shd w (o := nxE es key up) (fun e he => (nx_in he).1)
  have s2 : (mIfS (mTst (mOp (fEq true) (mCall fRepr (mCons (mVar 17) (mNil))) (mCall fRepr (mCons (mVar 12) (mNil))))) (mRet (mK (.bl false))) (mNext)) (Ev x0 h R T M ks stay up key false x10 x11 (some (enO (nxE es key up))) (some d) x14 x15 x16 (some (enO (nxE es key up))) x18) A = .nx (Ev x0 h R T M ks stay up key false x10 x11 (some (enO (nxE es key up))) (some d) x14 x15 x16 (some (enO (nxE es key up))) x18) A := no_if (rep_same (A1 := A) (A2 := A) rfl rfl hp2 (by decide) (by decide))
  obtain ⟨b, hb, A1, e3, d3⟩ := pick_key w.hs w.K
  have s3 : (mSet 14 (mCallF 2 (pickM anyN) (mCons (mVar 1) (mCons (mVar 2) (mNil))))) (Ev x0 h R T M ks stay up key false x10 x11 (some (enO (nxE es key up))) (some d) x14 x15 x16 (some (enO (nxE es key up))) x18) A = .nx (Ev x0 h R T M ks stay up key false x10 x11 (some (enO (nxE es key up))) (some d) (some (.str b)) x15 x16 (some (enO (nxE es key up))) x18) A1 := set_at (callF_at (A1 := A) (ds := [.ref h, .lst (ksD ks)]) rfl rfl e3)
  have w1 := w.drawn d3
  have gb := w.K.gk b hb
  have s4 : (mSet 15 (mLst (mCons (mCallK 0 2 2 [1, 0] f_after (mNil) (mCons (mVar 14) (mCons (mVar 13) (mNil)))) (mCons (mCallF 2 f_before (mCons (mVar 13) (mCons (mVar 14) (mNil)))) (mNil))))) (Ev x0 h R T M ks stay up key false x10 x11 (some (enO (nxE es key up))) (some d) (some (.str b)) x15 x16 (some (enO (nxE es key up))) x18) A1 = .nx (Ev x0 h R T M ks stay up key false x10 x11 (some (enO (nxE es key up))) (some d) (some (.str b)) (some (.lst [enO (nxE es (some b) true), enO (nxE es (some b) false)])) x16 (some (enO (nxE es key up))) x18) A1 := by
    have z1 : mCallK 0 2 2 [1, 0] f_after (mNil) (mCons (mVar 14) (mCons (mVar 13) (mNil))) (Ev x0 h R T M ks stay up key false x10 x11 (some (enO (nxE es key up))) (some d) (some (.str b)) x15 x16 (some (enO (nxE es key up))) x18) A1 = .ok (enO (nxE es (some b) true)) A1 := callK_at (ds := []) (es := [.str b, d]) (zs := [d, .str b]) (A1 := A1) (A2 := A1) rfl rfl rfl rfl rfl rfl (by rw [nx_after]; exact after_at h3 hm o w.tr.srt gb)
    have z2 : mCallF 2 f_before (mCons (mVar 13) (mCons (mVar 14) (mNil))) (Ev x0 h R T M ks stay up key false x10 x11 (some (enO (nxE es key up))) (some d) (some (.str b)) x15 x16 (some (enO (nxE es key up))) x18) A1 = .ok (enO (nxE es (some b) false)) A1 := callF_at (A1 := A1) (ds := [d, .str b]) rfl rfl (by rw [nx_before]; exact before_at h3 hm o w.tr.srt gb)
    refine set_at ?_
    rw [ev_lst, ev_cons, z1, bind_ok, ev_cons, z2]
    rfl
  obtain ⟨p5, hp5⟩ := two_shd w (o := nxE es (some b) true) (o' := nxE es (some b) false) (fun e he => (nx_in he).1) (fun e he => (nx_in he).1)
  have s5 : (mIfS (mTst (mOp (fEq true) (mCall fRepr (mCons (mVar 15) (mNil))) (mCall fRepr (mCons (mLst (mCons (mCallF 3 m__law_next (mCons (mVar 3) (mCons (mVar 14) (mCons (mK (.bl true)) (mNil))))) (mCons (mCallF 3 m__law_next (mCons (mVar 3) (mCons (mVar 14) (mCons (mK (.bl false)) (mNil))))) (mNil)))) (mNil))))) (mRet (mK (.bl false))) (mNext)) (Ev x0 h R T M ks stay up key false x10 x11 (some (enO (nxE es key up))) (some d) (some (.str b)) (some (.lst [enO (nxE es (some b) true), enO (nxE es (some b) false)])) x16 (some (enO (nxE es key up))) x18) A1 = .nx (Ev x0 h R T M ks stay up key false x10 x11 (some (enO (nxE es key up))) (some d) (some (.str b)) (some (.lst [enO (nxE es (some b) true), enO (nxE es (some b) false)])) x16 (some (enO (nxE es key up))) x18) A1 := by
    have z1 := next_call (ρ := Ev x0 h R T M ks stay up key false x10 x11 (some (enO (nxE es key up))) (some d) (some (.str b)) (some (.lst [enO (nxE es (some b) true), enO (nxE es (some b) false)])) x16 (some (enO (nxE es key up))) x18) (ms := mCons (mVar 3) (mCons (mVar 14) (mCons (mK (.bl true)) (mNil)))) w1 (key := some b) (up := true) rfl
    have z2 := next_call (ρ := Ev x0 h R T M ks stay up key false x10 x11 (some (enO (nxE es key up))) (some d) (some (.str b)) (some (.lst [enO (nxE es (some b) true), enO (nxE es (some b) false)])) x16 (some (enO (nxE es key up))) x18) (ms := mCons (mVar 3) (mCons (mVar 14) (mCons (mK (.bl false)) (mNil)))) w1 (key := some b) (up := false) rfl
    refine no_if (rep_same (A1 := A1) (A2 := A1) rfl ?_ hp5 (by decide) (by decide))
    rw [ev_lst, ev_cons, z1, bind_ok, ev_cons, z2]
    rfl
  exact ⟨some d, some (.str b), some (.lst [enO (nxE es (some b) true), enO (nxE es (some b) false)]), some (enO (nxE es key up)), A1, fun rest => (seq_nx s0).trans ((seq_nx s1).trans ((seq_nx s2).trans ((seq_nx s3).trans ((seq_nx s4).trans (seq_nx s5))))), d3⟩
theorem seq_bk {sa sb : MS} {ρ1 : DM.Env} {A1 : AH} (h : sa ρ A = .bk ρ1 A1) : mSeq sa sb ρ A = .bk ρ1 A1 := by
  unfold mSeq
  rw [h]
theorem for_bk {iv : ItV} {all xs : List D} {x : D} {t : Tg} {sb : MS} {ρ1 ρ2 : DM.Env} {A2 : AH} (h : itemsOf A iv = some all) (hb : bindT t x ρ = some ρ1) (hs : sb ρ1 A = .bk ρ2 A2) : forGo iv all t sb (x :: xs) ρ A = .nx ρ2 A2 := by
  unfold forGo
  rw [if_pos h, hb]
  simp only [hs]
noncomputable def b_loop : MS := (mSeq (mPar2 13 12 (mCons (mMeth "Tree" "root" 1 f_Tree__root (mVar 4) mNil) (mCons (mCallF 3 m__law_next (mCons (mVar 3) (mCons (mVar 6) (mCons (mVar 5) (mNil))))) (mNil)))) (mSeq (mIfS (mTst (mOp (fIsN false) (mVar 6) (mK .non))) (mSeq (mSet 17 (mIf (mTst (mVar 5)) (mCallF 1 f_first (mCons (mVar 13) (mNil))) (mCallF 1 f_last (mCons (mVar 13) (mNil))))) (mIfS (mTst (mOp (fEq true) (mCall fRepr (mCons (mLst (mCons (mCallK 0 1 1 [0] f_first (mNil) (mCons (mVar 13) (mNil))) (mCons (mCallK 0 1 1 [0] f_last (mNil) (mCons (mVar 13) (mNil))) (mNil)))) (mNil))) (mCall fRepr (mCons (mLst (mCons (mCallF 3 m__law_next (mCons (mVar 3) (mCons (mK .non) (mCons (mK (.bl true)) (mNil))))) (mCons (mCallF 3 m__law_next (mCons (mVar 3) (mCons (mK .non) (mCons (mK (.bl false)) (mNil))))) (mNil)))) (mNil))))) (mRet (mK (.bl false))) (mNext))) (mSet 17 (mIf (mTst (mVar 5)) (mCallF 2 f_after (mCons (mVar 13) (mCons (mVar 6) (mNil)))) (mCallF 2 f_before (mCons (mVar 13) (mCons (mVar 6) (mNil))))))) (mSeq (mIfS (mTst (mOp (fEq true) (mCall fRepr (mCons (mVar 17) (mNil))) (mCall fRepr (mCons (mVar 12) (mNil))))) (mRet (mK (.bl false))) (mNext)) (mSeq (mSet 14 (mCallF 2 (pickM anyN) (mCons (mVar 1) (mCons (mVar 2) (mNil))))) (mSeq (mSet 15 (mLst (mCons (mCallK 0 2 2 [1, 0] f_after (mNil) (mCons (mVar 14) (mCons (mVar 13) (mNil)))) (mCons (mCallF 2 f_before (mCons (mVar 13) (mCons (mVar 14) (mNil)))) (mNil))))) (mSeq (mIfS (mTst (mOp (fEq true) (mCall fRepr (mCons (mVar 15) (mNil))) (mCall fRepr (mCons (mLst (mCons (mCallF 3 m__law_next (mCons (mVar 3) (mCons (mVar 14) (mCons (mK (.bl true)) (mNil))))) (mCons (mCallF 3 m__law_next (mCons (mVar 3) (mCons (mVar 14) (mCons (mK (.bl false)) (mNil))))) (mNil)))) (mNil))))) (mRet (mK (.bl false))) (mNext)) (mSeq (mIfS (mTst (mOp (fIsN false) (mVar 12) (mK .non))) (mSeq (mSet 9 (mK (.bl true))) (mBk)) (mNext)) (mSeq (mSet 6 (mOp fIx (mVar 12) (mK (.int 0)))) (mSeq (mDrop (mMet fApp (mVar 8) (mCons (mVar 6) (mNil)))) (mSeq (mSet 16 (mCallF 4 chM (mCons (mVar 1) (mCons (mVar 4) (mCons (mVar 3) (mCons (mVar 2) (mNil))))))) (mSet 7 (mLc false (mSq (mVar 7)) (.nm 18) (mTst (mOp (fIn false) (mVar 18) (mVar 16))) (mVar 18) [18]))))))))))))
theorem turn_ok {x0 x10 x11 x12 x13 x14 x15 x16 x17 x18 : Option D} (I : Iv h q T Kn R M m ks up key met stay es A) :
    (∃ (y12 y13 y14 y15 y17 : Option D) (A' : AH), b_loop (Ev x0 h R T M ks stay up key false x10 x11 x12 x13 x14 x15 x16 x17 x18) A = .bk (Ev x0 h R T M ks stay up key true x10 x11 y12 y13 y14 y15 x16 y17 x18) A' ∧ Iv h q T Kn R M m ks up key met stay es A' ∧ ∀ x ∈ stay, x ∈ met) ∨
    (∃ (k : Str) (stay' : List Str) (es' : List En) (y12 y13 y14 y15 y16 y17 : Option D) (A' : AH), b_loop (Ev x0 h R T M ks stay up key false x10 x11 x12 x13 x14 x15 x16 x17 x18) A = .nx (Ev x0 h R T M ks stay' up (some k) false x10 x11 y12 y13 y14 y15 y16 y17 x18) A' ∧ Iv h q T Kn R M m ks up (some k) (met ++ [k]) stay' es' A') := by
  obtain ⟨y13, y14, y15, y17, A1, e1, d1⟩ := look_ok (x0 := x0) (x10 := x10) (x11 := x11) (x12 := x12) (x13 := x13) (x14 := x14) (x15 := x15) (x16 := x16) (x17 := x17) (x18 := x18) I
  have w1 := I.w.drawn d1
  have hM1 : A1[M]? = some (.lst (ksD met)) := (d1.2.2 M I.nM.1.1 I.nM.1.2).trans I.hM
  unfold b_loop
  rw [e1]
  cases hn : nxE es key up with
  | none =>
    refine .inl ⟨some (enO none), y13, y14, y15, y17, A1, ?_, ⟨w1, hM1, I.nM, I.mt, I.kl, I.ms, I.st, I.sk, I.sl⟩, fun x hx => ?_⟩
    · have s : (mIfS (mTst (mOp (fIsN false) (mVar 12) (mK .non))) (mSeq (mSet 9 (mK (.bl true))) (mBk)) (mNext)) (Ev x0 h R T M ks stay up key false x10 x11 (some (enO none)) y13 y14 y15 x16 y17 x18) A1 = .bk (Ev x0 h R T M ks stay up key true x10 x11 (some (enO none)) y13 y14 y15 x16 y17 x18) A1 := rfl
      exact seq_bk s
    · rcases I.st x hx with z | ⟨z1, z2⟩
      · exact z
      · obtain ⟨e, he, rfl⟩ := List.mem_map.mp z1
        rw [nx_no hn he] at z2
        cases z2
  | some e =>
    obtain ⟨he, hp⟩ := nx_in hn
    have hks : e.1 ∈ ks := (I.w.sub e he).1
    have hl := len_of I.w.K I.mt I.ms
    have mlt := (List.getElem?_eq_some_iff.mp hM1).1
    have ap := app_ks (k := e.1) hM1 (by omega)
    have w2 : Wd h q T Kn R m ks es (A1.set M (.lst (ksD (met ++ [e.1])))) := by
      obtain ⟨kvs, a, b⟩ := w1.rw
      exact ⟨hs_set w1.hs I.nM.1.1 I.nM.1.2, w1.tr.keep (List.getElem?_set_ne I.nM.2.1) (List.getElem?_set_ne I.nM.2.2.1), ⟨kvs, (List.getElem?_set_ne I.nM.2.2.2).trans a, b⟩, w1.ne, w1.sub, w1.K⟩
    obtain ⟨es', A3, e3, w3, k3⟩ := changed_ok w2
    have hM3 : A3[M]? = some (.lst (ksD (met ++ [e.1]))) := (k3.2 M I.nM.1.1 I.nM.1.2 I.nM.2.1 I.nM.2.2.1 I.nM.2.2.2).trans (List.getElem?_set_self mlt)
    refine .inr ⟨e.1, stay.filter (fun x => decide (x ∈ es'.map (·.1))), es', some (enO (some e)), y13, y14, y15, some (.lst (ksD (es'.map (·.1)))), y17, A3, ?_, ⟨w3, hM3, I.nM, ?_, ⟨hks, ?_⟩, ?_, ?_, fun x hx => I.sk x (List.mem_filter.mp hx).1, Nat.le_trans (List.length_filter_le _ _) I.sl⟩⟩
    · have s6 : (mIfS (mTst (mOp (fIsN false) (mVar 12) (mK .non))) (mSeq (mSet 9 (mK (.bl true))) (mBk)) (mNext)) (Ev x0 h R T M ks stay up key false x10 x11 (some (enO (some e))) y13 y14 y15 x16 y17 x18) A1 = .nx (Ev x0 h R T M ks stay up key false x10 x11 (some (enO (some e))) y13 y14 y15 x16 y17 x18) A1 := rfl
      have ix : fIx (enO (some e)) (.int 0) A1 = .ok (.str e.1) A1 := ixt (j := 0) rfl
      have s7 : (mSet 6 (mOp fIx (mVar 12) (mK (.int 0)))) (Ev x0 h R T M ks stay up key false x10 x11 (some (enO (some e))) y13 y14 y15 x16 y17 x18) A1 = .nx (Ev x0 h R T M ks stay up (some e.1) false x10 x11 (some (enO (some e))) y13 y14 y15 x16 y17 x18) A1 := set_at (op_at (A1 := A1) (A2 := A1) rfl rfl ix)
      have c8 : mMet fApp (mVar 8) (mCons (mVar 6) (mNil)) (Ev x0 h R T M ks stay up (some e.1) false x10 x11 (some (enO (some e))) y13 y14 y15 x16 y17 x18) A1 = .ok .non (A1.set M (.lst (ksD (met ++ [e.1])))) := by
        rw [ev_met, var_at (d := .ref M) rfl, bind_ok]
        simp only [hM1, ev_cons, bind_ok, ev_nil]
        rw [var_at (d := .str e.1) rfl]
        exact ap
      have s9 : (mSet 16 (mCallF 4 chM (mCons (mVar 1) (mCons (mVar 4) (mCons (mVar 3) (mCons (mVar 2) (mNil))))))) (Ev x0 h R T M ks stay up (some e.1) false x10 x11 (some (enO (some e))) y13 y14 y15 x16 y17 x18) (A1.set M (.lst (ksD (met ++ [e.1])))) = .nx (Ev x0 h R T M ks stay up (some e.1) false x10 x11 (some (enO (some e))) y13 y14 y15 (some (.lst (ksD (es'.map (·.1))))) y17 x18) A3 := set_at (callF_at (A1 := A1.set M (.lst (ksD (met ++ [e.1])))) (ds := [.ref h, .ref T, .ref R, .lst (ksD ks)]) rfl rfl e3)
      have c10 := fil_ks (A := A3) (ρ := Ev x0 h R T M ks stay up (some e.1) false x10 x11 (some (enO (some e))) y13 y14 y15 (some (.lst (ksD (es'.map (·.1))))) y17 x18) (neg := false) (i := 7) (j := 16) (l := 18) (L := stay) (Q := es'.map (·.1)) (d := .lst (ksD (es'.map (·.1)))) rfl rfl rfl (by simp) (by decide) (by decide) (by have := I.sl; omega)
      exact (seq_nx s6).trans ((seq_nx s7).trans ((seq_nx (drop_at c8)).trans ((seq_nx s9).trans (set_at c10))))
    · refine List.pairwise_append.mpr ⟨I.mt, List.pairwise_singleton .., fun a ha b hb => ?_⟩
      rw [List.mem_singleton] at hb
      subst hb
      have kl := I.kl
      cases key with
      | none => rw [kl] at ha; cases ha
      | some k =>
        rcases kl.2 a ha with z | z
        · rw [z]; exact Pn_rel.mp hp
        · exact rel_tr z (Pn_rel.mp hp)
    · intro a ha
      rcases List.mem_append.mp ha with z | z
      · have kl := I.kl
        cases key with
        | none => rw [kl] at z; cases z
        | some k =>
          rcases kl.2 a z with z | z
          · rw [z]; exact .inr (Pn_rel.mp hp)
          · exact .inr (rel_tr z (Pn_rel.mp hp))
      · exact .inl (List.mem_singleton.mp z)
    · intro a ha
      rcases List.mem_append.mp ha with z | z
      · exact I.ms a z
      · rw [List.mem_singleton.mp z]; exact hks
    · intro x hx
      obtain ⟨hx1, hx2⟩ := List.mem_filter.mp hx
      rcases I.st x hx1 with z | ⟨z1, z2⟩
      · exact .inl (List.mem_append_left _ z)
      · obtain ⟨y, hy, rfl⟩ := List.mem_map.mp z1
        rcases nx_least I.w.tr.srt hn hy z2 with z | z
        · rw [z]; exact .inl (List.mem_append_right _ List.mem_cons_self)
        · exact .inr ⟨of_decide_eq_true hx2, Pn_rel.mpr z⟩
end K12
end
section
set_option maxHeartbeats 1000000
namespace K12
open PySem PySem.Spec PyProof.Rows L2 DM TR
variable {A : AH} {h q T Kn R M m : Nat} {ks met stay : List Str} {es : List En} {up : Bool} {key : Option Str} {ρ : DM.Env}
/-! ### the loop -/
theorem loop_ok {iv : ItV} {all : List D} {x0 x11 x18 : Option D} (hit : ∀ A, itemsOf A iv = some all) : ∀ (xs : List D) (key : Option Str) (met stay : List Str) (es : List En) (A : AH) (x10 x12 x13 x14 x15 x16 x17 : Option D), Iv h q T Kn R M m ks up key met stay es A → 31 ≤ met.length + xs.length →
    ∃ (key' : Option Str) (met' stay' : List Str) (es' : List En) (A' : AH) (y10 y12 y13 y14 y15 y16 y17 : Option D), forGo iv all (.nm 10) b_loop xs (Ev x0 h R T M ks stay up key false x10 x11 x12 x13 x14 x15 x16 x17 x18) A = .nx (Ev x0 h R T M ks stay' up key' true y10 x11 y12 y13 y14 y15 y16 y17 x18) A' ∧ Iv h q T Kn R M m ks up key' met' stay' es' A' ∧ ∀ x ∈ stay', x ∈ met'
  | [], key, met, stay, es, A, x10, x12, x13, x14, x15, x16, x17, I, hl => by
    have := len_of I.w.K I.mt I.ms
    rw [List.length_nil] at hl
    omega
  | x :: xs, key, met, stay, es, A, x10, x12, x13, x14, x15, x16, x17, I, hl => by
    rcases turn_ok (x0 := x0) (x10 := some x) (x11 := x11) (x12 := x12) (x13 := x13) (x14 := x14) (x15 := x15) (x16 := x16) (x17 := x17) (x18 := x18) I with ⟨y12, y13, y14, y15, y17, A', e, I', f⟩ | ⟨k, stay', es', y12, y13, y14, y15, y16, y17, A', e, I'⟩
    · exact ⟨key, met, stay, es, A', some x, y12, y13, y14, y15, x16, y17, for_bk (ρ1 := Ev x0 h R T M ks stay up key false (some x) x11 x12 x13 x14 x15 x16 x17 x18) (hit A) rfl e, I', f⟩
    · obtain ⟨key2, met2, stay2, es2, A2, z10, z12, z13, z14, z15, z16, z17, e2, I2, f2⟩ := loop_ok hit xs (some k) (met ++ [k]) stay' es' A' (some x) y12 y13 y14 y15 y16 y17 I' (by rw [List.length_append, List.length_singleton]; rw [List.length_cons] at hl; omega)
      refine ⟨key2, met2, stay2, es2, A2, z10, z12, z13, z14, z15, z16, z17, ?_, I2, f2⟩
      rw [for_nx (ρ1 := Ev x0 h R T M ks stay up key false (some x) x11 x12 x13 x14 x15 x16 x17 x18) (hit A) rfl e]
      exact e2
/-! ### the first puts -/
noncomputable def b_puts : MS := (mSeq (mSet 6 (mCallF 2 (pickM anyN) (mCons (mVar 1) (mCons (mVar 2) (mNil))))) (mSeq (mDPut (mCallF 1 thingN (mCons (mVar 1) (mNil))) (mVar 3) (mVar 6)) (mDrop (mMeth "Tree" "put" 3 f_Tree__put (mVar 4) (mCons (mVar 6) (mCons (mOp fDGet (mVar 3) (mVar 6)) (mNil)))))))
abbrev Ew (x0 : Option D) (h R T : Nat) (ks : List Str) (up : Bool) (x6 : Option D) : DM.Env := [x0, some (.ref h), some (.lst (ksD ks)), some (.ref R), some (.ref T), some (.bl up), x6, none, none, none, none, none, none, none, none, none, none, none, none]
theorem puts_ok {iv : ItV} {all : List D} {x0 : Option D} (hit : ∀ A, itemsOf A iv = some all) : ∀ (xs : List D) (es : List En) (A : AH) (x6 : Option D), Wd h q T Kn R m ks es A →
    ∃ (es' : List En) (A' : AH) (y6 : Option D), forGo iv all (.nm 6) b_puts xs (Ew x0 h R T ks up x6) A = .nx (Ew x0 h R T ks up y6) A' ∧ Wd h q T Kn R m ks es' A' ∧ Kp h q T Kn R A A'
  | [], es, A, x6, w => ⟨es, A, x6, for_nil (hit A), w, .refl⟩
  | x :: xs, es, A, x6, w => by
    obtain ⟨k, hk, A1, e1, d1⟩ := pick_key w.hs w.K
    obtain ⟨es2, A2, e2, w2, k2⟩ := put_deed (ρ := Ew x0 h R T ks up (some (.str k))) (i := 1) (j := 6) (r := 3) (t := 4) (w.drawn d1) hk rfl rfl rfl rfl
    have s1 : (mSet 6 (mCallF 2 (pickM anyN) (mCons (mVar 1) (mCons (mVar 2) (mNil))))) (Ew x0 h R T ks up (some x)) A = .nx (Ew x0 h R T ks up (some (.str k))) A1 := set_at (callF_at (A1 := A) (ds := [.ref h, .lst (ksD ks)]) rfl rfl e1)
    have s : b_puts (Ew x0 h R T ks up (some x)) A = .nx (Ew x0 h R T ks up (some (.str k))) A2 := (seq_nx s1).trans e2
    obtain ⟨es3, A3, y6, e3, w3, k3⟩ := puts_ok hit xs es2 A2 (some (.str k)) w2
    refine ⟨es3, A3, y6, ?_, w3, ((Kp.of d1).trans k2).trans k3⟩
    rw [for_nx (ρ1 := Ew x0 h R T ks up (some x)) (hit A) rfl s]
    exact e3
/-! ### what is no key -/
theorem or_no {ma mb : MT} {A1 : AH} {r : Res Bool} (h1 : ma ρ A = .ok false A1) (h2 : mb ρ A1 = r) : mOr ma mb ρ A = r := by
  rw [ev_or, h1]
  exact h2
def due (s : Str) : Int := if s = "" then -1 else if s = "a b" then 1 else if s = "Z" then 0 else 16
theorem eq_to {s t : Str} : fEq false (.str s) (.str t) A = .ok (.bl (decide (s = t))) A := eq_ss
theorem due_str {s : Str} {x0 x10 x12 x13 x14 x15 x16 x17 x18 : Option D} {dn : Bool} : (mIf (mOr (mNot (mTst (mCall fIsi (mCons (mVar 11) (mCons (mK (.ty "str")) (mNil)))))) (mTst (mOp (fEq false) (mVar 11) (mK (.str ""))))) (mNeg (mK (.int 1))) (mIf (mTst (mOp (fEq false) (mVar 11) (mK (.str "a b")))) (mK (.int 1)) (mIf (mTst (mOp (fEq false) (mVar 11) (mK (.str "Z")))) (mK (.int 0)) (mK (.int 16))))) (Ev x0 h R T M ks stay up key dn x10 (some (.str s)) x12 x13 x14 x15 x16 x17 x18) A = .ok (.int (due s)) A := by
  have t1 : (mOr (mNot (mTst (mCall fIsi (mCons (mVar 11) (mCons (mK (.ty "str")) (mNil)))))) (mTst (mOp (fEq false) (mVar 11) (mK (.str ""))))) (Ev x0 h R T M ks stay up key dn x10 (some (.str s)) x12 x13 x14 x15 x16 x17 x18) A = .ok (decide (s = "")) A := or_no (A1 := A) rfl (tst_at (op_at (A1 := A) (A2 := A) rfl rfl eq_to))
  have t2 : (mTst (mOp (fEq false) (mVar 11) (mK (.str "a b")))) (Ev x0 h R T M ks stay up key dn x10 (some (.str s)) x12 x13 x14 x15 x16 x17 x18) A = .ok (decide (s = "a b")) A := tst_at (op_at (A1 := A) (A2 := A) rfl rfl eq_to)
  have t3 : (mTst (mOp (fEq false) (mVar 11) (mK (.str "Z")))) (Ev x0 h R T M ks stay up key dn x10 (some (.str s)) x12 x13 x14 x15 x16 x17 x18) A = .ok (decide (s = "Z")) A := tst_at (op_at (A1 := A) (A2 := A) rfl rfl eq_to)
  unfold due
  by_cases z1 : s = ""
  · rw [if_pos z1]
    rw [decide_eq_true z1] at t1
    exact if_yes t1 rfl
  · rw [if_neg z1]
    rw [decide_eq_false z1] at t1
    refine if_not t1 ?_
    by_cases z2 : s = "a b"
    · rw [if_pos z2]
      rw [decide_eq_true z2] at t2
      exact if_yes t2 rfl
    · rw [if_neg z2]
      rw [decide_eq_false z2] at t2
      refine if_not t2 ?_
      by_cases z3 : s = "Z"
      · rw [if_pos z3]
        rw [decide_eq_true z3] at t3
        exact if_yes t3 rfl
      · rw [if_neg z3]
        rw [decide_eq_false z3] at t3
        exact if_not t3 rfl
theorem fault_due {k : Str} (g : KG k) {v : D} (hv : v ∈ [D.non, .str "", .int 3, .str "a b", .str "Z", .tup [.str "a"], .str (k ++ "abcdefghijklmnop"), .bl true]) :
    ∃ i : Int, i.natAbs < 100 ∧ (∀ B : AH, f_key_fault [v] B = .ok (.int i) B) ∧ ∀ {A : AH} {h R T M : Nat} {ks stay : List Str} {up : Bool} {key : Option Str} {dn : Bool} {x0 x10 x12 x13 x14 x15 x16 x17 x18 : Option D}, (mIf (mOr (mNot (mTst (mCall fIsi (mCons (mVar 11) (mCons (mK (.ty "str")) (mNil)))))) (mTst (mOp (fEq false) (mVar 11) (mK (.str ""))))) (mNeg (mK (.int 1))) (mIf (mTst (mOp (fEq false) (mVar 11) (mK (.str "a b")))) (mK (.int 1)) (mIf (mTst (mOp (fEq false) (mVar 11) (mK (.str "Z")))) (mK (.int 0)) (mK (.int 16))))) (Ev x0 h R T M ks stay up key dn x10 (some v) x12 x13 x14 x15 x16 x17 x18) A = .ok (.int i) A := by
  simp only [List.mem_cons, List.not_mem_nil, or_false] at hv
  rcases hv with rfl | rfl | rfl | rfl | rfl | rfl | rfl | rfl
  · exact ⟨-1, by decide, fun B => rfl, rfl⟩
  · exact ⟨-1, by decide, fun B => rfl, due_str.trans (by rw [show due "" = -1 from by decide +kernel])⟩
  · exact ⟨-1, by decide, fun B => rfl, rfl⟩
  · refine ⟨1, by decide, fun B => ?_, due_str.trans (by rw [show due "a b" = 1 from by decide +kernel])⟩
    rw [fault_at (by decide +kernel), show wrongI 0 ("a b" : Str).cps.toList = some 1 from by decide +kernel]
    rfl
  · refine ⟨0, by decide, fun B => ?_, due_str.trans (by rw [show due "Z" = 0 from by decide +kernel])⟩
    rw [fault_at (by decide +kernel), show wrongI 0 ("Z" : Str).cps.toList = some 0 from by decide +kernel]
    rfl
  · exact ⟨-1, by decide, fun B => rfl, rfl⟩
  · have hc : (k ++ "abcdefghijklmnop" : Str).cps.toList = k.cps.toList ++ ("abcdefghijklmnop" : Str).cps.toList := by
      show (k.cps ++ ("abcdefghijklmnop" : Str).cps).toList = _
      rw [Array.toList_append]
    have l16 : ("abcdefghijklmnop" : Str).cps.toList.length = 16 := by decide +kernel
    have in16 : ∀ c ∈ ("abcdefghijklmnop" : Str).cps.toList, c ∈ SG.cps.toList := by decide +kernel
    have kl : 0 < k.cps.toList.length := List.length_pos_iff.mpr g.ne
    have len : ((k ++ "abcdefghijklmnop" : Str).cps.toList).length = k.cps.toList.length + 16 := by rw [hc, List.length_append, l16]
    have wr := wrong_long 0 (k ++ "abcdefghijklmnop" : Str).cps.toList (by decide) (fun c hcc => by
      rw [hc] at hcc
      exact (List.mem_append.mp hcc).elim (g.sg c) (in16 c)) (by rw [len]; omega)
    have ne : ∀ t : Str, t.cps.toList.length ≤ 16 → (k ++ "abcdefghijklmnop" : Str) ≠ t := fun t ht z => by
      rw [z] at len
      omega
    generalize (k ++ "abcdefghijklmnop" : Str) = s at *
    refine ⟨16, by decide, fun B => ?_, due_str.trans ?_⟩
    · rw [fault_at (ne _ (by decide +kernel)), wr]
      rfl
    · unfold due
      rw [if_neg (ne _ (by decide +kernel)), if_neg (ne _ (by decide +kernel)), if_neg (ne _ (by decide +kernel))]
  · exact ⟨-1, by decide, fun B => rfl, rfl⟩
/-! ### the end -/
theorem cons_at {me : ME} {ms : MA} {A1 A2 : AH} {d : D} {ds : List D} (h1 : me ρ A = .ok d A1) (h2 : ms ρ A1 = .ok ds A2) : mCons me ms ρ A = .ok (d :: ds) A2 := by
  rw [ev_cons, h1, bind_ok, h2]
  rfl
theorem lst_at {ms : MA} {A1 : AH} {ds : List D} (h1 : ms ρ A = .ok ds A1) (h2 : ds.length ≤ 1000) : mLst ms ρ A = .ok (.lst ds) A1 := by
  rw [ev_lst, h1, bind_ok, if_pos h2]
theorem andv_at {ma mb : ME} {A1 : AH} {r : Res D} (h1 : ma ρ A = .ok (.bl true) A1) (h2 : mb ρ A1 = r) : mAndV ma mb ρ A = r := by
  rw [ev_andV, h1]
  exact h2
theorem same_len (K : Ks 30 ks) (hm : met.Pairwise (rel up)) (hs : ∀ a ∈ met, a ∈ ks) : (ks.filter fun x => decide (x ∈ met)).length = met.length := by
  have hf : (ks.filter fun x => decide (x ∈ met)).Pairwise sLt := K.st.filter _
  have key : ∀ l : List Str, l.Pairwise sLt → (∀ x, x ∈ l ↔ x ∈ met) → (ks.filter fun x => decide (x ∈ met)).length = l.length := fun l hl hx => by
    refine Nat.le_antisymm (sub_len hf hl fun x hz => ?_) (sub_len hl hf fun x hz => ?_)
    · exact (hx x).mpr (of_decide_eq_true (List.mem_filter.mp hz).2)
    · exact List.mem_filter.mpr ⟨hs x ((hx x).mp hz), decide_eq_true ((hx x).mp hz)⟩
  cases up with
  | true => exact key met hm fun _ => Iff.rfl
  | false =>
    rw [key met.reverse (List.pairwise_reverse.mpr hm) fun _ => List.mem_reverse, List.length_reverse]
theorem end_ok {x0 x10 x11 x12 x13 x14 x15 x16 x17 x18 : Option D} (I : Iv h q T Kn R M m ks up key met stay es A) (hf : ∀ x ∈ stay, x ∈ met) : ∃ AE, mSeq (mSet 11 (mCallF 2 (pickM anyN) (mCons (mVar 1) (mCons (mLst (mCons (mK .non) (mCons (mK (.str "")) (mCons (mK (.int 3)) (mCons (mK (.str "a b")) (mCons (mK (.str "Z")) (mCons (mTup (mCons (mK (.str "a")) (mNil))) (mCons (mOp fAdd (mOp fIx (mVar 2) (mK (.int 0))) (mK (.str "abcdefghijklmnop"))) (mCons (mK (.bl true)) (mNil)))))))))) (mNil))))) (mSeq (mSet 12 (mIf (mOr (mNot (mTst (mCall fIsi (mCons (mVar 11) (mCons (mK (.ty "str")) (mNil)))))) (mTst (mOp (fEq false) (mVar 11) (mK (.str ""))))) (mNeg (mK (.int 1))) (mIf (mTst (mOp (fEq false) (mVar 11) (mK (.str "a b")))) (mK (.int 1)) (mIf (mTst (mOp (fEq false) (mVar 11) (mK (.str "Z")))) (mK (.int 0)) (mK (.int 16)))))) (mSeq (mIfS (mTst (mOp (fEq true) (mCall fRepr (mCons (mCallF 2 wrM (mCons (mMeth "Tree" "root" 1 f_Tree__root (mVar 4) mNil) (mCons (mVar 11) (mNil)))) (mNil))) (mCall fRepr (mCons (mLst (mCons (mVar 12) (mCons (mVar 12) (mNil)))) (mNil))))) (mRet (mK (.bl false))) (mNext)) (mRet (mAndV (mVar 9) (mAndV (mOp (fEq false) (mLc false (mSq (mVar 7)) (.nm 18) (mTst (mOp (fIn true) (mVar 18) (mVar 8))) (mVar 18) [18]) (mLst (mNil))) (mOp (fEq false) (mCall fLen (mCons (mVar 8) (mNil))) (mCall fLen (mCons (mLc false (mSq (mVar 2)) (.nm 18) (mTst (mOp (fIn false) (mVar 18) (mVar 8))) (mVar 18) [18]) (mNil))))))))) (Ev x0 h R T M ks stay up key true x10 x11 x12 x13 x14 x15 x16 x17 x18) A = .rt (.bl true) AE := by
  have K := I.w.K
  obtain ⟨k0, kr, hk⟩ : ∃ k0 kr, ks = k0 :: kr := by
    cases hks : ks with
    | nil => exact absurd hks K.ne
    | cons a b => exact ⟨a, b, rfl⟩
  have g0 : KG k0 := K.gk k0 (by rw [hk]; exact List.mem_cons_self)
  obtain ⟨v, hv, A1, e1, d1⟩ := of_lst (xs := [D.non, .str "", .int 3, .str "a b", .str "Z", .tup [.str "a"], .str (k0 ++ "abcdefghijklmnop"), .bl true]) I.w.hs (by simp) (by simp)
  obtain ⟨i, hi, fv, dv⟩ := fault_due g0 hv
  have w1 := I.w.drawn d1
  have hM1 : A1[M]? = some (.lst (ksD met)) := (d1.2.2 M I.nM.1.1 I.nM.1.2).trans I.hM
  have s6 : (mSet 11 (mCallF 2 (pickM anyN) (mCons (mVar 1) (mCons (mLst (mCons (mK .non) (mCons (mK (.str "")) (mCons (mK (.int 3)) (mCons (mK (.str "a b")) (mCons (mK (.str "Z")) (mCons (mTup (mCons (mK (.str "a")) (mNil))) (mCons (mOp fAdd (mOp fIx (mVar 2) (mK (.int 0))) (mK (.str "abcdefghijklmnop"))) (mCons (mK (.bl true)) (mNil)))))))))) (mNil))))) (Ev x0 h R T M ks stay up key true x10 x11 x12 x13 x14 x15 x16 x17 x18) A = .nx (Ev x0 h R T M ks stay up key true x10 (some v) x12 x13 x14 x15 x16 x17 x18) A1 := by
    have ix : fIx (.lst (ksD ks)) (.int 0) A = .ok (.str k0) A := ixl (j := 0) (by rw [hk]; rfl)
    have o1 : mOp fIx (mVar 2) (mK (.int 0)) (Ev x0 h R T M ks stay up key true x10 x11 x12 x13 x14 x15 x16 x17 x18) A = .ok (.str k0) A := op_at (A1 := A) (A2 := A) rfl rfl ix
    have ad : fAdd (.str k0) (.str "abcdefghijklmnop") A = .ok (.str (k0 ++ "abcdefghijklmnop")) A := by
      have h2 : ("abcdefghijklmnop" : Str).length = 16 := by decide +kernel
      have h3 : k0.length ≤ 16 := by have := g0.len; rw [show k0.length = k0.cps.toList.length by simp [Str.length]]; exact this
      simp only [fAdd]
      rw [if_pos (by rw [h2]; omega)]
    have o2 : mOp fAdd (mOp fIx (mVar 2) (mK (.int 0))) (mK (.str "abcdefghijklmnop")) (Ev x0 h R T M ks stay up key true x10 x11 x12 x13 x14 x15 x16 x17 x18) A = .ok (.str (k0 ++ "abcdefghijklmnop")) A := op_at o1 rfl ad
    generalize (k0 ++ "abcdefghijklmnop" : Str) = s at *
    have l1 : (mLst (mCons (mK .non) (mCons (mK (.str "")) (mCons (mK (.int 3)) (mCons (mK (.str "a b")) (mCons (mK (.str "Z")) (mCons (mTup (mCons (mK (.str "a")) (mNil))) (mCons (mOp fAdd (mOp fIx (mVar 2) (mK (.int 0))) (mK (.str "abcdefghijklmnop"))) (mCons (mK (.bl true)) (mNil)))))))))) (Ev x0 h R T M ks stay up key true x10 x11 x12 x13 x14 x15 x16 x17 x18) A = .ok (.lst [D.non, .str "", .int 3, .str "a b", .str "Z", .tup [.str "a"], .str s, .bl true]) A := by
      refine lst_at (cons_at rfl (cons_at rfl (cons_at rfl (cons_at rfl (cons_at rfl (cons_at (d := .tup [.str "a"]) (A1 := A) rfl (cons_at o2 (A2 := A) rfl))))))) (by simp)
    have l2 : (mCons (mVar 1) (mCons (mLst (mCons (mK .non) (mCons (mK (.str "")) (mCons (mK (.int 3)) (mCons (mK (.str "a b")) (mCons (mK (.str "Z")) (mCons (mTup (mCons (mK (.str "a")) (mNil))) (mCons (mOp fAdd (mOp fIx (mVar 2) (mK (.int 0))) (mK (.str "abcdefghijklmnop"))) (mCons (mK (.bl true)) (mNil)))))))))) (mNil))) (Ev x0 h R T M ks stay up key true x10 x11 x12 x13 x14 x15 x16 x17 x18) A = .ok [.ref h, .lst [D.non, .str "", .int 3, .str "a b", .str "Z", .tup [.str "a"], .str s, .bl true]] A := by
      rw [ev_cons, var_at (d := .ref h) rfl, bind_ok, ev_cons, l1]
      rfl
    exact set_at (callF_at l2 rfl e1)
  have s7 : (mSet 12 (mIf (mOr (mNot (mTst (mCall fIsi (mCons (mVar 11) (mCons (mK (.ty "str")) (mNil)))))) (mTst (mOp (fEq false) (mVar 11) (mK (.str ""))))) (mNeg (mK (.int 1))) (mIf (mTst (mOp (fEq false) (mVar 11) (mK (.str "a b")))) (mK (.int 1)) (mIf (mTst (mOp (fEq false) (mVar 11) (mK (.str "Z")))) (mK (.int 0)) (mK (.int 16)))))) (Ev x0 h R T M ks stay up key true x10 (some v) x12 x13 x14 x15 x16 x17 x18) A1 = .nx (Ev x0 h R T M ks stay up key true x10 (some v) (some (.int i)) x13 x14 x15 x16 x17 x18) A1 := set_at dv
  obtain ⟨n, d, c0, o⟩ := root_call (ρ := Ev x0 h R T M ks stay up key true x10 (some v) (some (.int i)) x13 x14 x15 x16 x17 x18) (i := 4) w1 rfl
  obtain ⟨A2, e2, l2, k2, f2⟩ := wrong_ok (A := A1) (d := d) fv
  have hM2 : A2[M]? = some (.lst (ksD met)) := (k2 M (List.getElem?_eq_some_iff.mp hM1).1).trans hM1
  have s8 : (mIfS (mTst (mOp (fEq true) (mCall fRepr (mCons (mCallF 2 wrM (mCons (mMeth "Tree" "root" 1 f_Tree__root (mVar 4) mNil) (mCons (mVar 11) (mNil)))) (mNil))) (mCall fRepr (mCons (mLst (mCons (mVar 12) (mCons (mVar 12) (mNil)))) (mNil))))) (mRet (mK (.bl false))) (mNext)) (Ev x0 h R T M ks stay up key true x10 (some v) (some (.int i)) x13 x14 x15 x16 x17 x18) A1 = .nx (Ev x0 h R T M ks stay up key true x10 (some v) (some (.int i)) x13 x14 x15 x16 x17 x18) A2 := by
    have z1 : (mCallF 2 wrM (mCons (mMeth "Tree" "root" 1 f_Tree__root (mVar 4) mNil) (mCons (mVar 11) (mNil)))) (Ev x0 h R T M ks stay up key true x10 (some v) (some (.int i)) x13 x14 x15 x16 x17 x18) A1 = .ok (.ref A1.length) A2 := callF_at (A1 := A1) (ds := [d, v]) (by rw [ev_cons, c0, bind_ok]; rfl) rfl e2
    have sh : Shd 1 130 (.lst [.int i, .int i]) (.list [.int i, .int i]) := shd_lst (k := 0) (w := 64) (shl_cons (shd_int (by omega)) (by decide) (by decide) (shl_cons (shd_int (by omega)) (by decide) (by decide) shl_nil))
    have tp : toPyA A2 (.ref A1.length) = some (.list [.int i, .int i]) := by
      unfold toPyA
      have e : toPys [D.int i, D.int i] = some [.int i, .int i] := rfl
      simp only [toPy, toPyG, refPy, f2, toPysG, Option.map_some]
    have r1 : fRepr [.ref A1.length] A2 = .ok (.str (PyData.list [.int i, .int i]).shown) A2 := repr_fewB tp sh.2 (by decide) (by decide) (by decide)
    have r2 : fRepr [.lst [.int i, .int i]] A2 = .ok (.str (PyData.list [.int i, .int i]).shown) A2 := repr_shd sh (by decide) (by decide)
    generalize (PyData.list [.int i, .int i]).shown = sw at r1 r2
    have y1 : mCall fRepr (mCons (mCallF 2 wrM (mCons (mMeth "Tree" "root" 1 f_Tree__root (mVar 4) mNil) (mCons (mVar 11) (mNil)))) (mNil)) (Ev x0 h R T M ks stay up key true x10 (some v) (some (.int i)) x13 x14 x15 x16 x17 x18) A1 = .ok (.str sw) A2 := by
      rw [ev_call, ev_cons, z1, bind_ok, ev_nil, bind_ok, bind_ok, r1]
    have y2 : mCall fRepr (mCons (mLst (mCons (mVar 12) (mCons (mVar 12) (mNil)))) (mNil)) (Ev x0 h R T M ks stay up key true x10 (some v) (some (.int i)) x13 x14 x15 x16 x17 x18) A2 = .ok (.str sw) A2 := by
      have : mLst (mCons (mVar 12) (mCons (mVar 12) (mNil))) (Ev x0 h R T M ks stay up key true x10 (some v) (some (.int i)) x13 x14 x15 x16 x17 x18) A2 = .ok (.lst [.int i, .int i]) A2 := rfl
      rw [ev_call, ev_cons, this, bind_ok, ev_nil, bind_ok, bind_ok, r2]
    refine no_if (tst_at (op_at y1 y2 ?_))
    rw [eq_ss, decide_eq_true rfl]
    rfl
  have s9 : (mRet (mAndV (mVar 9) (mAndV (mOp (fEq false) (mLc false (mSq (mVar 7)) (.nm 18) (mTst (mOp (fIn true) (mVar 18) (mVar 8))) (mVar 18) [18]) (mLst (mNil))) (mOp (fEq false) (mCall fLen (mCons (mVar 8) (mNil))) (mCall fLen (mCons (mLc false (mSq (mVar 2)) (.nm 18) (mTst (mOp (fIn false) (mVar 18) (mVar 8))) (mVar 18) [18]) (mNil))))))) (Ev x0 h R T M ks stay up key true x10 (some v) (some (.int i)) x13 x14 x15 x16 x17 x18) A2 = .rt (.bl true) A2 := by
    have hq2 : seqOf A2 (.ref M) = some (ksD met) := seqOf_ref hM2
    have c1 := fil_ks (A := A2) (ρ := Ev x0 h R T M ks stay up key true x10 (some v) (some (.int i)) x13 x14 x15 x16 x17 x18) (neg := true) (i := 7) (j := 8) (l := 18) (L := stay) (Q := met) (d := .ref M) rfl rfl hq2 (by simp) (by decide) (by decide) (by have := I.sl; omega)
    have c2 := fil_ks (A := A2) (ρ := Ev x0 h R T M ks stay up key true x10 (some v) (some (.int i)) x13 x14 x15 x16 x17 x18) (neg := false) (i := 2) (j := 8) (l := 18) (L := ks) (Q := met) (d := .ref M) rfl rfl hq2 (by simp) (by decide) (by decide) (by have := K.ln; omega)
    have z1 : (stay.filter fun x => if true = true then !decide (x ∈ met) else decide (x ∈ met)) = [] := List.filter_eq_nil_iff.mpr fun x hx => by
      rw [if_pos rfl, decide_eq_true (hf x hx)]
      decide
    have z2 : (ks.filter fun x => if false = true then !decide (x ∈ met) else decide (x ∈ met)).length = met.length := same_len K I.mt I.ms
    rw [z1] at c1
    have n1 : fEq false (.lst (ksD [])) (.lst []) A2 = .ok (.bl true) A2 := eq_ks (neg := false) (L := []) fun _ h => nomatch h
    have l1 : fLen [.ref M] A2 = .ok (.int (met.length : Nat)) A2 := len_ks hM2
    have l2 : fLen [.lst (ksD (ks.filter fun x => if false = true then !decide (x ∈ met) else decide (x ∈ met)))] A2 = .ok (.int (met.length : Nat)) A2 := by
      unfold fLen
      simp only [seqOf]
      rw [show (ksD (ks.filter fun x => if false = true then !decide (x ∈ met) else decide (x ∈ met))).length = met.length by unfold ksD; rw [List.length_map]; exact z2]
    refine ret_at (andv_at (A1 := A2) rfl (andv_at (A1 := A2) (op_at c1 rfl n1) ?_))
    have y1 : mCall fLen (mCons (mVar 8) (mNil)) (Ev x0 h R T M ks stay up key true x10 (some v) (some (.int i)) x13 x14 x15 x16 x17 x18) A2 = .ok (.int (met.length : Nat)) A2 := by
      rw [ev_call, ev_cons, var_at (d := .ref M) rfl, bind_ok, ev_nil, bind_ok, bind_ok, l1]
    have y2 : mCall fLen (mCons (mLc false (mSq (mVar 2)) (.nm 18) (mTst (mOp (fIn false) (mVar 18) (mVar 8))) (mVar 18) [18]) (mNil)) (Ev x0 h R T M ks stay up key true x10 (some v) (some (.int i)) x13 x14 x15 x16 x17 x18) A2 = .ok (.int (met.length : Nat)) A2 := by
      rw [ev_call, ev_cons, c2, bind_ok, ev_nil, bind_ok, bind_ok, l2]
    refine op_at y1 y2 ?_
    rw [eq_ii, decide_eq_true rfl]
  exact ⟨A2, (seq_nx s6).trans ((seq_nx s7).trans ((seq_nx s8).trans s9))⟩
end K12
end
section
set_option maxHeartbeats 1000000
namespace K12
open PySem PySem.Spec PyProof.Rows L2 DM TR
noncomputable def lawM : List D → AH → Res D := m_law dealN (pickM anyN) keysN f_Tree__init thingN f_Tree__put chM anyN f_Tree__root m__law_next f_after f_before wrM f_first f_last
theorem law_holds (ns : List Int) (A : AH) : ∃ AE, lawM [.lst (ns.map D.int)] A = .ok (.bl true) AE := by
  obtain ⟨h, q, A1, e1, hs1, l1, hh, hq, k1⟩ := dealN_ok (A := A) (ns := ns) (b := 12) (by decide) (by decide)
  obtain ⟨v, A2, e2, hv, d2⟩ := any_nat (k := 30) hs1 (by decide) (by decide)
  rw [show ((30 : Nat) : Int) = 30 from rfl] at e2
  obtain ⟨ks, A3, e3, l3, hs3, k3, K3⟩ := keysN_ok (many := 1 + v) d2.2.1 (by omega) (by omega)
  have K : Ks 30 ks := ⟨K3.st, K3.gk, Nat.le_trans K3.ln (by omega), K3.ne⟩
  have hs4 : HS h q (A3 ++ [.dk []]) := hs_push hs3 _
  obtain ⟨d5, hd5, A5, e5, dr5⟩ := of_lst (xs := [.int 3, .int 3, .int 4, .int 6]) hs4 (by simp) (by simp)
  obtain ⟨m, rfl, m3, m16⟩ : ∃ m : Nat, d5 = .int (m : Int) ∧ 3 ≤ m ∧ m ≤ 16 := by
    simp only [List.mem_cons, List.not_mem_nil, or_false] at hd5
    rcases hd5 with rfl | rfl | rfl | rfl
    · exact ⟨3, rfl, by decide, by decide⟩
    · exact ⟨3, rfl, by decide, by decide⟩
    · exact ⟨4, rfl, by decide, by decide⟩
    · exact ⟨6, rfl, by decide, by decide⟩
  have L2 : A2.length = A.length + 2 := by rw [d2.1, l1]
  have L3 : A3.length = A.length + 3 := by rw [l3, L2]
  have L5 : A5.length = A.length + 4 := by rw [dr5.1, List.length_append, L3]; rfl
  obtain ⟨A6, e6, t6, l6, k6⟩ := tree_init (m := m) (B := A5) m3 m16
  have lt := hs_lt dr5.2.1
  have hs6 : HS h q A6 := hs_keep dr5.2.1 (k6 h lt.1) (k6 q lt.2)
  have hR : A6[A3.length]? = some (.dk []) := by
    rw [k6 _ (by omega), dr5.2.2 _ (by omega) (by omega), List.getElem?_append_right (Nat.le_refl _), Nat.sub_self]
    rfl
  have w6 : Wd h q A5.length (A5.length + 1) A3.length m ks [] A6 := ⟨hs6, t6, ⟨[], hR, .nil⟩, ⟨⟨by omega, by omega, by omega, by omega⟩, by omega, by omega, by omega, by omega⟩, fun _ h => (nomatch h), K⟩
  obtain ⟨u, A7, e7, hu, d7⟩ := any_nat (k := 2) hs6 (by decide) (by decide)
  rw [show ((2 : Nat) : Int) = 2 from rfl] at e7
  have w7 := w6.drawn d7
  obtain ⟨f, A8, e8, hf, d8⟩ := any_nat (k := 5) d7.2.1 (by decide) (by decide)
  rw [show ((5 : Nat) : Int) = 5 from rfl] at e8
  have w8 := w7.drawn d8
  -- the statements
  have s0 : (mSet 1 (mCallF 2 dealN (mCons (mVar 0) (mCons (mK (.int 12)) (mNil))))) [some (.lst (ns.map D.int)), none, none, none, none, none, none, none, none, none, none, none, none, none, none, none, none, none, none] A = .nx [some (.lst (ns.map D.int)), some (.ref h), none, none, none, none, none, none, none, none, none, none, none, none, none, none, none, none, none] A1 := set_at (callF_at (A1 := A) (ds := [.lst (ns.map D.int), .int 12]) rfl rfl e1)
  have s1 : (mPar2 2 3 (mCons (mCallF 2 keysN (mCons (mVar 1) (mCons (mOp fAdd (mK (.int 1)) (mCallF 2 anyN (mCons (mVar 1) (mCons (mK (.int 30)) (mNil))))) (mNil)))) (mCons (mDict0) (mNil)))) [some (.lst (ns.map D.int)), some (.ref h), none, none, none, none, none, none, none, none, none, none, none, none, none, none, none, none, none] A1 = .nx [some (.lst (ns.map D.int)), some (.ref h), some (.lst (ksD ks)), some (.ref A3.length), none, none, none, none, none, none, none, none, none, none, none, none, none, none, none] (A3 ++ [.dk []]) := by
    have z1 : mCallF 2 anyN (mCons (mVar 1) (mCons (mK (.int 30)) (mNil))) [some (.lst (ns.map D.int)), some (.ref h), none, none, none, none, none, none, none, none, none, none, none, none, none, none, none, none, none] A1 = .ok (.int (v : Int)) A2 := callF_at (A1 := A1) (ds := [.ref h, .int 30]) rfl rfl e2
    have z2 : mOp fAdd (mK (.int 1)) (mCallF 2 anyN (mCons (mVar 1) (mCons (mK (.int 30)) (mNil)))) [some (.lst (ns.map D.int)), some (.ref h), none, none, none, none, none, none, none, none, none, none, none, none, none, none, none, none, none] A1 = .ok (.int ((1 + v : Nat) : Int)) A2 := op_at (A1 := A1) rfl z1 (by rw [add_ii, show (1 : Int) + (v : Int) = ((1 + v : Nat) : Int) by omega])
    have z3 : (mCallF 2 keysN (mCons (mVar 1) (mCons (mOp fAdd (mK (.int 1)) (mCallF 2 anyN (mCons (mVar 1) (mCons (mK (.int 30)) (mNil))))) (mNil)))) [some (.lst (ns.map D.int)), some (.ref h), none, none, none, none, none, none, none, none, none, none, none, none, none, none, none, none, none] A1 = .ok (.lst (ksD ks)) A3 := callF_at (A1 := A2) (ds := [.ref h, .int ((1 + v : Nat) : Int)]) (cons_at (A1 := A1) rfl (cons_at z2 (A2 := A2) rfl)) rfl e3
    have z4 : (mCons (mCallF 2 keysN (mCons (mVar 1) (mCons (mOp fAdd (mK (.int 1)) (mCallF 2 anyN (mCons (mVar 1) (mCons (mK (.int 30)) (mNil))))) (mNil)))) (mCons (mDict0) (mNil))) [some (.lst (ns.map D.int)), some (.ref h), none, none, none, none, none, none, none, none, none, none, none, none, none, none, none, none, none] A1 = .ok [.lst (ksD ks), .ref A3.length] (A3 ++ [.dk []]) := cons_at z3 (cons_at ev_dict0 rfl)
    rw [ev_par2, z4]
    rfl
  have s2 : (mPar2 4 5 (mCons (mMake "Tree" 2 f_Tree__init (mCons (mCallF 2 (pickM anyN) (mCons (mVar 1) (mCons (mLst (mCons (mK (.int 3)) (mCons (mK (.int 3)) (mCons (mK (.int 4)) (mCons (mK (.int 6)) (mNil)))))) (mNil)))) (mNil))) (mCons (mOp (fEq false) (mCallF 2 anyN (mCons (mVar 1) (mCons (mK (.int 2)) (mNil)))) (mK (.int 0))) (mNil)))) [some (.lst (ns.map D.int)), some (.ref h), some (.lst (ksD ks)), some (.ref A3.length), none, none, none, none, none, none, none, none, none, none, none, none, none, none, none] (A3 ++ [.dk []]) = .nx (Ew (some (.lst (ns.map D.int))) h A3.length A5.length ks (decide ((u : Int) = 0)) none) A7 := by
    have z1 : (mCallF 2 (pickM anyN) (mCons (mVar 1) (mCons (mLst (mCons (mK (.int 3)) (mCons (mK (.int 3)) (mCons (mK (.int 4)) (mCons (mK (.int 6)) (mNil)))))) (mNil)))) [some (.lst (ns.map D.int)), some (.ref h), some (.lst (ksD ks)), some (.ref A3.length), none, none, none, none, none, none, none, none, none, none, none, none, none, none, none] (A3 ++ [.dk []]) = .ok (.int (m : Int)) A5 := callF_at (A1 := A3 ++ [.dk []]) (ds := [.ref h, .lst [.int 3, .int 3, .int 4, .int 6]]) rfl rfl e5
    have z2 : (mMake "Tree" 2 f_Tree__init (mCons (mCallF 2 (pickM anyN) (mCons (mVar 1) (mCons (mLst (mCons (mK (.int 3)) (mCons (mK (.int 3)) (mCons (mK (.int 4)) (mCons (mK (.int 6)) (mNil)))))) (mNil)))) (mNil))) [some (.lst (ns.map D.int)), some (.ref h), some (.lst (ksD ks)), some (.ref A3.length), none, none, none, none, none, none, none, none, none, none, none, none, none, none, none] (A3 ++ [.dk []]) = .ok (.ref A5.length) A6 := make_run (ds := [.int (m : Int)]) (A1 := A5) (cons_at z1 rfl) rfl e6
    have z3 : (mOp (fEq false) (mCallF 2 anyN (mCons (mVar 1) (mCons (mK (.int 2)) (mNil)))) (mK (.int 0))) [some (.lst (ns.map D.int)), some (.ref h), some (.lst (ksD ks)), some (.ref A3.length), none, none, none, none, none, none, none, none, none, none, none, none, none, none, none] A6 = .ok (.bl (decide ((u : Int) = 0))) A7 := op_at (x := .int (u : Int)) (y := .int 0) (A1 := A7) (A2 := A7) (callF_at (A1 := A6) (ds := [.ref h, .int 2]) rfl rfl e7) rfl eq_ii
    have z4 : (mCons (mMake "Tree" 2 f_Tree__init (mCons (mCallF 2 (pickM anyN) (mCons (mVar 1) (mCons (mLst (mCons (mK (.int 3)) (mCons (mK (.int 3)) (mCons (mK (.int 4)) (mCons (mK (.int 6)) (mNil)))))) (mNil)))) (mNil))) (mCons (mOp (fEq false) (mCallF 2 anyN (mCons (mVar 1) (mCons (mK (.int 2)) (mNil)))) (mK (.int 0))) (mNil))) [some (.lst (ns.map D.int)), some (.ref h), some (.lst (ksD ks)), some (.ref A3.length), none, none, none, none, none, none, none, none, none, none, none, none, none, none, none] (A3 ++ [.dk []]) = .ok [.ref A5.length, .bl (decide ((u : Int) = 0))] A7 := cons_at z2 (cons_at z3 rfl)
    rw [ev_par2, z4]
    rfl
  generalize decide ((u : Int) = 0) = up at s2
  obtain ⟨all, hall⟩ : ∃ all : List D, (mSq (mIf (mTst (mOp fGt (mCallF 2 anyN (mCons (mVar 1) (mCons (mK (.int 5)) (mNil)))) (mK (.int 0)))) (mVar 2) (mLst (mNil)))) (Ew (some (.lst (ns.map D.int))) h A3.length A5.length ks up none) A7 = .ok (.sq (.lst all)) A8 := by
    have t : mTst (mOp fGt (mCallF 2 anyN (mCons (mVar 1) (mCons (mK (.int 5)) (mNil)))) (mK (.int 0))) (Ew (some (.lst (ns.map D.int))) h A3.length A5.length ks up none) A7 = .ok (decide ((0 : Int) < (f : Int))) A8 := tst_at (op_at (x := .int (f : Int)) (y := .int 0) (A1 := A8) (A2 := A8) (callF_at (A1 := A7) (ds := [.ref h, .int 5]) rfl rfl e8) rfl gt_int)
    by_cases z : (0 : Int) < (f : Int)
    · rw [decide_eq_true z] at t
      exact ⟨ksD ks, by rw [ev_sq, if_yes t (r := .ok (.lst (ksD ks)) A8) rfl]; rfl⟩
    · rw [decide_eq_false z] at t
      exact ⟨[], by rw [ev_sq, if_not t (r := .ok (.lst []) A8) rfl]; rfl⟩
  obtain ⟨es, A9, y6, e9, w9, k9⟩ := puts_ok (iv := .sq (.lst all)) (all := all) (x0 := some (.lst (ns.map D.int))) (up := up) (fun _ => rfl) all [] A8 none w8
  have s3 : (mFor (mSq (mIf (mTst (mOp fGt (mCallF 2 anyN (mCons (mVar 1) (mCons (mK (.int 5)) (mNil)))) (mK (.int 0)))) (mVar 2) (mLst (mNil)))) (.nm 6) (mSeq (mSet 6 (mCallF 2 (pickM anyN) (mCons (mVar 1) (mCons (mVar 2) (mNil))))) (mSeq (mDPut (mCallF 1 thingN (mCons (mVar 1) (mNil))) (mVar 3) (mVar 6)) (mDrop (mMeth "Tree" "put" 3 f_Tree__put (mVar 4) (mCons (mVar 6) (mCons (mOp fDGet (mVar 3) (mVar 6)) (mNil)))))))) (Ew (some (.lst (ns.map D.int))) h A3.length A5.length ks up none) A7 = .nx (Ew (some (.lst (ns.map D.int))) h A3.length A5.length ks up y6) A9 := by
    rw [ev_for, hall, lift_ok]
    exact e9
  have so := w9.sorted
  have hl9 := w9.len
  have s4 : (mAsg (.tp [.nm 7, .nm 8, .nm 6, .nm 9]) (mTup (mCons (mCall fSortD (mCons (mVar 3) (mNil))) (mCons (mNew (mNil)) (mCons (mK .non) (mCons (mK (.bl false)) (mNil))))))) (Ew (some (.lst (ns.map D.int))) h A3.length A5.length ks up y6) A9 = .nx (Ev (some (.lst (ns.map D.int))) h A3.length A5.length A9.length ks (es.map (·.1)) up none false none none none none none none none none none) (A9 ++ [.lst (ksD [])]) := by
    have z1 : mCall fSortD (mCons (mVar 3) (mNil)) (Ew (some (.lst (ns.map D.int))) h A3.length A5.length ks up y6) A9 = .ok (.lst (ksD (es.map (·.1)))) A9 := by
      rw [ev_call, ev_cons, var_at (d := .ref A3.length) rfl, bind_ok, ev_nil, bind_ok, bind_ok, so]
    have z2 : (mTup (mCons (mCall fSortD (mCons (mVar 3) (mNil))) (mCons (mNew (mNil)) (mCons (mK .non) (mCons (mK (.bl false)) (mNil)))))) (Ew (some (.lst (ns.map D.int))) h A3.length A5.length ks up y6) A9 = .ok (.tup [.lst (ksD (es.map (·.1))), .ref A9.length, .non, .bl false]) (A9 ++ [.lst (ksD [])]) := by
      rw [ev_tup, cons_at z1 (ds := [.ref A9.length, .non, .bl false]) (A2 := A9 ++ [.lst (ksD [])]) rfl]
      rfl
    rw [ev_asg, z2]
    rfl
  have lt9 : A3.length < A9.length ∧ A5.length < A9.length ∧ A5.length + 1 < A9.length ∧ h < A9.length ∧ q < A9.length := by
    have a := w9.tr.lt
    have b := hs_lt w9.hs
    exact ⟨by omega, a.1, a.2, b.1, b.2⟩
  have I : Iv h q A5.length (A5.length + 1) A3.length A9.length m ks up none [] (es.map (·.1)) es (A9 ++ [.lst (ksD [])]) := by
    obtain ⟨kvs, a, b⟩ := w9.rw
    refine ⟨⟨hs_push w9.hs _, w9.tr.keep (List.getElem?_append_left lt9.2.1) (List.getElem?_append_left lt9.2.2.1), ⟨kvs, (List.getElem?_append_left lt9.1).trans a, b⟩, w9.ne, w9.sub, w9.K⟩, by rw [List.getElem?_append_right (Nat.le_refl _), Nat.sub_self]; rfl, ⟨⟨by omega, by omega⟩, by omega, by omega, by omega⟩, List.Pairwise.nil, rfl, fun _ h => (nomatch h), fun x hx => .inr ⟨hx, rfl⟩, fun x hx => ?_, by rw [List.length_map]; exact hl9⟩
    obtain ⟨e, he, rfl⟩ := List.mem_map.mp hx
    exact (w9.sub e he).1
  have hit : ∀ B : AH, itemsOf B (.rng 0 80) = some ((List.range ((80 : Int) - 0).toNat).map fun i => D.int (0 + (i : Nat))) := fun B => rfl
  obtain ⟨key', met', stay', es', A10, y10, y12, y13, y14, y15, y16, y17, e10, I10, f10⟩ := loop_ok (x0 := some (.lst (ns.map D.int))) (x11 := none) (x18 := none) hit ((List.range ((80 : Int) - 0).toNat).map fun i => D.int (0 + (i : Nat))) none [] (es.map (·.1)) es _ none none none none none none none I (by rw [List.length_map, List.length_range]; decide)
  have s5 : (mFor (mR1 (mCons (mK (.int 80)) (mNil))) (.nm 10) (mSeq (mPar2 13 12 (mCons (mMeth "Tree" "root" 1 f_Tree__root (mVar 4) mNil) (mCons (mCallF 3 m__law_next (mCons (mVar 3) (mCons (mVar 6) (mCons (mVar 5) (mNil))))) (mNil)))) (mSeq (mIfS (mTst (mOp (fIsN false) (mVar 6) (mK .non))) (mSeq (mSet 17 (mIf (mTst (mVar 5)) (mCallF 1 f_first (mCons (mVar 13) (mNil))) (mCallF 1 f_last (mCons (mVar 13) (mNil))))) (mIfS (mTst (mOp (fEq true) (mCall fRepr (mCons (mLst (mCons (mCallK 0 1 1 [0] f_first (mNil) (mCons (mVar 13) (mNil))) (mCons (mCallK 0 1 1 [0] f_last (mNil) (mCons (mVar 13) (mNil))) (mNil)))) (mNil))) (mCall fRepr (mCons (mLst (mCons (mCallF 3 m__law_next (mCons (mVar 3) (mCons (mK .non) (mCons (mK (.bl true)) (mNil))))) (mCons (mCallF 3 m__law_next (mCons (mVar 3) (mCons (mK .non) (mCons (mK (.bl false)) (mNil))))) (mNil)))) (mNil))))) (mRet (mK (.bl false))) (mNext))) (mSet 17 (mIf (mTst (mVar 5)) (mCallF 2 f_after (mCons (mVar 13) (mCons (mVar 6) (mNil)))) (mCallF 2 f_before (mCons (mVar 13) (mCons (mVar 6) (mNil))))))) (mSeq (mIfS (mTst (mOp (fEq true) (mCall fRepr (mCons (mVar 17) (mNil))) (mCall fRepr (mCons (mVar 12) (mNil))))) (mRet (mK (.bl false))) (mNext)) (mSeq (mSet 14 (mCallF 2 (pickM anyN) (mCons (mVar 1) (mCons (mVar 2) (mNil))))) (mSeq (mSet 15 (mLst (mCons (mCallK 0 2 2 [1, 0] f_after (mNil) (mCons (mVar 14) (mCons (mVar 13) (mNil)))) (mCons (mCallF 2 f_before (mCons (mVar 13) (mCons (mVar 14) (mNil)))) (mNil))))) (mSeq (mIfS (mTst (mOp (fEq true) (mCall fRepr (mCons (mVar 15) (mNil))) (mCall fRepr (mCons (mLst (mCons (mCallF 3 m__law_next (mCons (mVar 3) (mCons (mVar 14) (mCons (mK (.bl true)) (mNil))))) (mCons (mCallF 3 m__law_next (mCons (mVar 3) (mCons (mVar 14) (mCons (mK (.bl false)) (mNil))))) (mNil)))) (mNil))))) (mRet (mK (.bl false))) (mNext)) (mSeq (mIfS (mTst (mOp (fIsN false) (mVar 12) (mK .non))) (mSeq (mSet 9 (mK (.bl true))) (mBk)) (mNext)) (mSeq (mSet 6 (mOp fIx (mVar 12) (mK (.int 0)))) (mSeq (mDrop (mMet fApp (mVar 8) (mCons (mVar 6) (mNil)))) (mSeq (mSet 16 (mCallF 4 chM (mCons (mVar 1) (mCons (mVar 4) (mCons (mVar 3) (mCons (mVar 2) (mNil))))))) (mSet 7 (mLc false (mSq (mVar 7)) (.nm 18) (mTst (mOp (fIn false) (mVar 18) (mVar 16))) (mVar 18) [18]))))))))))))) (Ev (some (.lst (ns.map D.int))) h A3.length A5.length A9.length ks (es.map (·.1)) up none false none none none none none none none none none) (A9 ++ [.lst (ksD [])]) = .nx (Ev (some (.lst (ns.map D.int))) h A3.length A5.length A9.length ks stay' up key' true y10 none y12 y13 y14 y15 y16 y17 none) A10 := by
    rw [ev_for, r1_at (j := 80) (A1 := A9 ++ [.lst (ksD [])]) rfl (by omega), lift_ok, hit]
    exact e10
  obtain ⟨AE, eE⟩ := end_ok (x0 := some (.lst (ns.map D.int))) (x10 := y10) (x11 := none) (x12 := y12) (x13 := y13) (x14 := y14) (x15 := y15) (x16 := y16) (x17 := y17) (x18 := none) I10 f10
  refine ⟨AE, ?_⟩
  unfold lawM m_law
  refine fun_rt ?_
  exact (seq_nx s0).trans ((seq_nx s1).trans ((seq_nx s2).trans ((seq_nx s3).trans ((seq_nx s4).trans ((seq_nx s5).trans eE)))))
end K12
namespace JR
end JR
end
section
set_option maxHeartbeats 4000000
namespace K12
open PySem PySem.Spec PyProof.Rows L2 DM JR
theorem law_true {P : Program} {w : World} {K : PySem.W.Frag} {mg : Str → Option Value} {base : Heap} {ad : Nat → Addr} {fd : Nat → FuncData} {tb : Nat → Addr × Addr} (T : Tx P w K mg ad fd tb) (ns : List Int) (hl : ns.length ≤ 63) (hb : ∀ z ∈ ns, Builtin.Int.intBits z ≤ 1048576) :
    ∃ (mf : List D → AH → Res D) (AE : AH), mf [.lst (ns.map D.int)] (tabs0 []) = .ok (.bl true) AE ∧ FnD P w K mg base 16 (ad 45) (fd 45) ["_law_script"] mf := by
  obtain ⟨AE, e⟩ := law_holds ns (tabs0 [])
  have gis_integer : FnD P w K mg base 1 (ad 0) (fd 0) ["value"] (m_is_integer) := w_is_integer T 
  have gis_text : FnD P w K mg base 1 (ad 1) (fd 1) ["value"] (m_is_text) := w_is_text T 
  have gwrong_sign : FnD P w K mg base 1 (ad 2) (fd 2) ["text", "signs", "most"] (m_wrong_sign) := w_wrong_sign T 
  have gkey_fault : FnD P w K mg base 2 (ad 3) (fd 3) ["value"] (m_key_fault (m_wrong_sign) (m_is_text)) := w_key_fault T gwrong_sign gis_text
  have gis_key : FnD P w K mg base 3 (ad 4) (fd 4) ["value"] (m_is_key (m_key_fault (m_wrong_sign) (m_is_text))) := w_is_key T gkey_fault
  have gneed_key : FnD P w K mg base 3 (ad 5) (fd 5) ["value"] (m_need_key (m_key_fault (m_wrong_sign) (m_is_text))) := w_need_key T gkey_fault
  have gneed_most : FnD P w K mg base 2 (ad 6) (fd 6) ["most"] (m_need_most (m_is_integer)) := w_need_most T gis_integer
  have ghalf_of : FnD P w K mg base 3 (ad 7) (fd 7) ["most"] (m_half_of (m_need_most (m_is_integer))) := w_half_of T gneed_most
  have gis_leaf : FnD P w K mg base 1 (ad 8) (fd 8) ["page"] (m_is_leaf) := w_is_leaf T 
  have gthings_on : FnD P w K mg base 1 (ad 9) (fd 9) ["page"] (m_things_on) := w_things_on T 
  have gchild_number : FnD P w K mg base 1 (ad 10) (fd 10) ["keys", "key"] (m_child_number) := w_child_number T 
  have gentry_number : FnD P w K mg base 1 (ad 11) (fd 11) ["entries", "key"] (m_entry_number) := w_entry_number T 
  have gleaf_for : FnD P w K mg base 2 (ad 12) (fd 12) ["page", "key"] (m_leaf_for (m_is_leaf) (m_child_number)) := w_leaf_for T gis_leaf gchild_number
  have gentry_of : FnD P w K mg base 3 (ad 13) (fd 13) ["page", "key"] (m_entry_of (m_entry_number) (m_leaf_for (m_is_leaf) (m_child_number))) := w_entry_of T gentry_number gleaf_for
  have ghas : FnD P w K mg base 4 (ad 14) (fd 14) ["page", "key"] (m_has (m_entry_of (m_entry_number) (m_leaf_for (m_is_leaf) (m_child_number)))) := w_has T gentry_of
  have gpacked_leaf : FnD P w K mg base 1 (ad 15) (fd 15) ["most", "row"] (m_packed_leaf) := w_packed_leaf T 
  have gpacked_branch : FnD P w K mg base 1 (ad 16) (fd 16) ["most", "keys", "pages"] (m_packed_branch) := w_packed_branch T 
  have groot_of : FnD P w K mg base 2 (ad 17) (fd 17) ["pieces"] (m_root_of (m_is_leaf)) := w_root_of T gis_leaf
  have gspliced : FnD P w K mg base 2 (ad 18) (fd 18) ["most", "page", "begin", "end", "pieces"] (m_spliced (m_packed_branch)) := w_spliced T gpacked_branch
  have gfused : FnD P w K mg base 2 (ad 19) (fd 19) ["most", "left", "key", "right"] (m_fused (m_is_leaf) (m_packed_branch) (m_packed_leaf)) := w_fused T gis_leaf gpacked_branch gpacked_leaf
  have gput_pieces : FnD P w K mg base 11 (ad 20) (fd 20) ["most", "page", "key", "thing"] (r_put_pieces (m_is_leaf) (m_child_number) (m_spliced (m_packed_branch)) (m_entry_number) (m_packed_leaf) 9) := w_put_pieces T gis_leaf gchild_number gspliced gentry_number gpacked_leaf
  have gwith_entry : FnD P w K mg base 12 (ad 21) (fd 21) ["most", "page", "key", "thing"] (m_with_entry (m_root_of (m_is_leaf)) (r_put_pieces (m_is_leaf) (m_child_number) (m_spliced (m_packed_branch)) (m_entry_number) (m_packed_leaf) 9)) := w_with_entry T groot_of gput_pieces
  have gless_page : FnD P w K mg base 12 (ad 22) (fd 22) ["most", "page", "key"] (r_less_page (m_is_leaf) (m_child_number) (m_entry_number) (m_half_of (m_need_most (m_is_integer))) (m_things_on) (m_spliced (m_packed_branch)) (m_fused (m_is_leaf) (m_packed_branch) (m_packed_leaf)) 9) := w_less_page T gis_leaf gchild_number gentry_number ghalf_of gthings_on gspliced gfused
  have gwithout_entry : FnD P w K mg base 13 (ad 23) (fd 23) ["most", "page", "key"] (m_without_entry (m_root_of (m_is_leaf)) (r_less_page (m_is_leaf) (m_child_number) (m_entry_number) (m_half_of (m_need_most (m_is_integer))) (m_things_on) (m_spliced (m_packed_branch)) (m_fused (m_is_leaf) (m_packed_branch) (m_packed_leaf)) 9)) := w_without_entry T groot_of gless_page
  have gfirst_key : FnD P w K mg base 2 (ad 24) (fd 24) ["page"] (m_first_key (m_is_leaf)) := w_first_key T gis_leaf
  have gbehind_of : FnD P w K mg base 3 (ad 25) (fd 25) ["page", "key"] (m_behind_of (m_leaf_for (m_is_leaf) (m_child_number)) (m_is_leaf) (m_child_number) (m_first_key (m_is_leaf))) := w_behind_of T gleaf_for gis_leaf gchild_number gfirst_key
  have gfirst : FnD P w K mg base 2 (ad 26) (fd 26) ["page"] (m_first (m_is_leaf)) := w_first T gis_leaf
  have glast : FnD P w K mg base 2 (ad 27) (fd 27) ["page"] (m_last (m_is_leaf)) := w_last T gis_leaf
  have gafter : FnD P w K mg base 4 (ad 28) (fd 28) ["page", "key"] (m_after (m_need_key (m_key_fault (m_wrong_sign) (m_is_text))) (m_behind_of (m_leaf_for (m_is_leaf) (m_child_number)) (m_is_leaf) (m_child_number) (m_first_key (m_is_leaf))) (m_entry_of (m_entry_number) (m_leaf_for (m_is_leaf) (m_child_number)))) := w_after T gneed_key gbehind_of gentry_of
  have gbefore : FnD P w K mg base 4 (ad 29) (fd 29) ["page", "key"] (m_before (m_need_key (m_key_fault (m_wrong_sign) (m_is_text))) (m_entry_number) (m_last (m_is_leaf)) (m_leaf_for (m_is_leaf) (m_child_number)) (m_is_leaf) (m_child_number)) := w_before T gneed_key gentry_number glast gleaf_for gis_leaf gchild_number
  have gTree__init : FnD P w K mg base 3 (ad 30) (fd 30) ["self", "most"] (m_Tree__init (m_need_most (m_is_integer))) := w_Tree__init T gneed_most
  have gTree____len__ : FnD P w K mg base 1 (ad 31) (fd 31) ["self"] (m_Tree____len__) := w_Tree____len__ T 
  have gTree____contains__ : FnD P w K mg base 5 (ad 32) (fd 32) ["self", "key"] (m_Tree____contains__ (m_is_key (m_key_fault (m_wrong_sign) (m_is_text))) (m_has (m_entry_of (m_entry_number) (m_leaf_for (m_is_leaf) (m_child_number))))) := w_Tree____contains__ T gis_key ghas
  have gTree__root : FnD P w K mg base 1 (ad 33) (fd 33) ["self"] (m_Tree__root) := w_Tree__root T 
  have gTree__put : FnD P w K mg base 13 (ad 34) (fd 34) ["self", "key", "thing"] (m_Tree__put (m_need_key (m_key_fault (m_wrong_sign) (m_is_text))) (m_with_entry (m_root_of (m_is_leaf)) (r_put_pieces (m_is_leaf) (m_child_number) (m_spliced (m_packed_branch)) (m_entry_number) (m_packed_leaf) 9)) (m_has (m_entry_of (m_entry_number) (m_leaf_for (m_is_leaf) (m_child_number))))) := w_Tree__put T gneed_key gwith_entry ghas
  have gTree__take : FnD P w K mg base 14 (ad 35) (fd 35) ["self", "key"] (m_Tree__take (m_need_key (m_key_fault (m_wrong_sign) (m_is_text))) (m_without_entry (m_root_of (m_is_leaf)) (r_less_page (m_is_leaf) (m_child_number) (m_entry_number) (m_half_of (m_need_most (m_is_integer))) (m_things_on) (m_spliced (m_packed_branch)) (m_fused (m_is_leaf) (m_packed_branch) (m_packed_leaf)) 9)) (m_has (m_entry_of (m_entry_number) (m_leaf_for (m_is_leaf) (m_child_number))))) := w_Tree__take T gneed_key gwithout_entry ghas
  have gTree__has : FnD P w K mg base 5 (ad 36) (fd 36) ["self", "key"] (m_Tree__has (m_need_key (m_key_fault (m_wrong_sign) (m_is_text))) (m_has (m_entry_of (m_entry_number) (m_leaf_for (m_is_leaf) (m_child_number))))) := w_Tree__has T gneed_key ghas
  have g_law_deal : FnD P w K mg base 1 (ad 37) (fd 37) ["_law_script", "_law_base"] (m__law_deal) := w__law_deal T 
  have g_law_any : FnD P w K mg base 1 (ad 38) (fd 38) ["_law_deal_here", "_law_bound"] (m__law_any) := w__law_any T 
  have g_law_of : FnD P w K mg base 2 (ad 39) (fd 39) ["_law_deal_here", "_law_some"] (m__law_of (m__law_any)) := w__law_of T g_law_any
  have g_law_keys : FnD P w K mg base 3 (ad 40) (fd 40) ["_law_deal_here", "_law_many"] (m__law_keys (m__law_of (m__law_any)) (m__law_any)) := w__law_keys T g_law_of g_law_any
  have g_law_thing : FnD P w K mg base 3 (ad 41) (fd 41) ["_law_deal_here"] (m__law_thing (m__law_of (m__law_any)) (m__law_any)) := w__law_thing T g_law_of g_law_any
  have g_law_next : FnD P w K mg base 1 (ad 42) (fd 42) ["_law_rows", "_law_key", "_law_is_up"] (m__law_next) := w__law_next T 
  have g_law_wrong : FnD P w K mg base 5 (ad 43) (fd 43) ["_law_page", "_law_value"] (m__law_wrong (m_after (m_need_key (m_key_fault (m_wrong_sign) (m_is_text))) (m_behind_of (m_leaf_for (m_is_leaf) (m_child_number)) (m_is_leaf) (m_child_number) (m_first_key (m_is_leaf))) (m_entry_of (m_entry_number) (m_leaf_for (m_is_leaf) (m_child_number)))) (m_before (m_need_key (m_key_fault (m_wrong_sign) (m_is_text))) (m_entry_number) (m_last (m_is_leaf)) (m_leaf_for (m_is_leaf) (m_child_number)) (m_is_leaf) (m_child_number))) := w__law_wrong T gafter gbefore
  have g_law_changed : FnD P w K mg base 15 (ad 44) (fd 44) ["_law_deal_here", "_law_tree", "_law_rows", "_law_keys_here"] (m__law_changed (m__law_any) (m__law_of (m__law_any)) (m__law_thing (m__law_of (m__law_any)) (m__law_any)) (m_Tree__put (m_need_key (m_key_fault (m_wrong_sign) (m_is_text))) (m_with_entry (m_root_of (m_is_leaf)) (r_put_pieces (m_is_leaf) (m_child_number) (m_spliced (m_packed_branch)) (m_entry_number) (m_packed_leaf) 9)) (m_has (m_entry_of (m_entry_number) (m_leaf_for (m_is_leaf) (m_child_number))))) (m_Tree__take (m_need_key (m_key_fault (m_wrong_sign) (m_is_text))) (m_without_entry (m_root_of (m_is_leaf)) (r_less_page (m_is_leaf) (m_child_number) (m_entry_number) (m_half_of (m_need_most (m_is_integer))) (m_things_on) (m_spliced (m_packed_branch)) (m_fused (m_is_leaf) (m_packed_branch) (m_packed_leaf)) 9)) (m_has (m_entry_of (m_entry_number) (m_leaf_for (m_is_leaf) (m_child_number)))))) := w__law_changed T g_law_any g_law_of g_law_thing gTree__put gTree__take
  have glaw : FnD P w K mg base 16 (ad 45) (fd 45) ["_law_script"] (m_law (m__law_deal) (m__law_of (m__law_any)) (m__law_keys (m__law_of (m__law_any)) (m__law_any)) (m_Tree__init (m_need_most (m_is_integer))) (m__law_thing (m__law_of (m__law_any)) (m__law_any)) (m_Tree__put (m_need_key (m_key_fault (m_wrong_sign) (m_is_text))) (m_with_entry (m_root_of (m_is_leaf)) (r_put_pieces (m_is_leaf) (m_child_number) (m_spliced (m_packed_branch)) (m_entry_number) (m_packed_leaf) 9)) (m_has (m_entry_of (m_entry_number) (m_leaf_for (m_is_leaf) (m_child_number))))) (m__law_changed (m__law_any) (m__law_of (m__law_any)) (m__law_thing (m__law_of (m__law_any)) (m__law_any)) (m_Tree__put (m_need_key (m_key_fault (m_wrong_sign) (m_is_text))) (m_with_entry (m_root_of (m_is_leaf)) (r_put_pieces (m_is_leaf) (m_child_number) (m_spliced (m_packed_branch)) (m_entry_number) (m_packed_leaf) 9)) (m_has (m_entry_of (m_entry_number) (m_leaf_for (m_is_leaf) (m_child_number))))) (m_Tree__take (m_need_key (m_key_fault (m_wrong_sign) (m_is_text))) (m_without_entry (m_root_of (m_is_leaf)) (r_less_page (m_is_leaf) (m_child_number) (m_entry_number) (m_half_of (m_need_most (m_is_integer))) (m_things_on) (m_spliced (m_packed_branch)) (m_fused (m_is_leaf) (m_packed_branch) (m_packed_leaf)) 9)) (m_has (m_entry_of (m_entry_number) (m_leaf_for (m_is_leaf) (m_child_number)))))) (m__law_any) (m_Tree__root) (m__law_next) (m_after (m_need_key (m_key_fault (m_wrong_sign) (m_is_text))) (m_behind_of (m_leaf_for (m_is_leaf) (m_child_number)) (m_is_leaf) (m_child_number) (m_first_key (m_is_leaf))) (m_entry_of (m_entry_number) (m_leaf_for (m_is_leaf) (m_child_number)))) (m_before (m_need_key (m_key_fault (m_wrong_sign) (m_is_text))) (m_entry_number) (m_last (m_is_leaf)) (m_leaf_for (m_is_leaf) (m_child_number)) (m_is_leaf) (m_child_number)) (m__law_wrong (m_after (m_need_key (m_key_fault (m_wrong_sign) (m_is_text))) (m_behind_of (m_leaf_for (m_is_leaf) (m_child_number)) (m_is_leaf) (m_child_number) (m_first_key (m_is_leaf))) (m_entry_of (m_entry_number) (m_leaf_for (m_is_leaf) (m_child_number)))) (m_before (m_need_key (m_key_fault (m_wrong_sign) (m_is_text))) (m_entry_number) (m_last (m_is_leaf)) (m_leaf_for (m_is_leaf) (m_child_number)) (m_is_leaf) (m_child_number))) (m_first (m_is_leaf)) (m_last (m_is_leaf))) := w_law T g_law_deal g_law_of g_law_keys gTree__init g_law_thing gTree__put g_law_changed g_law_any gTree__root g_law_next gafter gbefore g_law_wrong gfirst glast
  exact ⟨lawM, AE, e, glaw⟩
end K12
end
set_option maxHeartbeats 4000000
namespace K12
open PySem PySem.Spec PyProof.Rows L2 DM
theorem law_end {l : PySem.W.OpenLaw} {q : Program} {w : World} {K : PySem.W.Frag} {h : Heap} {mg : Str → Option Value} {fa : Addr} (X : K.In h) (G : h.Ns mainGlobals mg) (hfa : mg "law" = some (.ref fa)) {f0 f1 f2 f3 f4 f5 f6 f7 f8 f9 f10 f11 f12 f13 f14 f15 f16 f17 f18 f19 f20 f21 f22 f23 f24 f25 f26 f27 f28 f29 f30 f31 f32 f33 f34 f35 f36 f37 f38 f39 f40 f41 f42 f43 f44 f45 f46 f47 f48 f50 f51 f52 : Addr}
    {oc0 kV0 dc0 pm0 cd0 ct0 : Value} {od0 an0 : Option Addr} {sl0 : Array (Option Value)}
    (a0 : PySem.W.nsIn K mainGlobals "is_integer" = some (some (.ref f0)))
    (l0 : K.lookup f0 = some ⟨oc0, od0, .func (PySem.W.fnOf "is_integer" "is_integer" (defArgs x_is_integer) (defBody x_is_integer) (defScope x_is_integer) .none kV0 dc0 pm0 an0 cd0 ct0), sl0⟩)
    (c0 : PySem.W.codeIn K cd0 "is_integer" = true)
    (k0 : PySem.W.keepIn K (.ref f0) = true)
    {oc1 kV1 dc1 pm1 cd1 ct1 : Value} {od1 an1 : Option Addr} {sl1 : Array (Option Value)}
    (a1 : PySem.W.nsIn K mainGlobals "is_text" = some (some (.ref f1)))
    (l1 : K.lookup f1 = some ⟨oc1, od1, .func (PySem.W.fnOf "is_text" "is_text" (defArgs x_is_text) (defBody x_is_text) (defScope x_is_text) .none kV1 dc1 pm1 an1 cd1 ct1), sl1⟩)
    (c1 : PySem.W.codeIn K cd1 "is_text" = true)
    (k1 : PySem.W.keepIn K (.ref f1) = true)
    {oc2 kV2 dc2 pm2 cd2 ct2 : Value} {od2 an2 : Option Addr} {sl2 : Array (Option Value)}
    (a2 : PySem.W.nsIn K mainGlobals "wrong_sign" = some (some (.ref f2)))
    (l2 : K.lookup f2 = some ⟨oc2, od2, .func (PySem.W.fnOf "wrong_sign" "wrong_sign" (defArgs x_wrong_sign) (defBody x_wrong_sign) (defScope x_wrong_sign) .none kV2 dc2 pm2 an2 cd2 ct2), sl2⟩)
    (c2 : PySem.W.codeIn K cd2 "wrong_sign" = true)
    (k2 : PySem.W.keepIn K (.ref f2) = true)
    {oc3 kV3 dc3 pm3 cd3 ct3 : Value} {od3 an3 : Option Addr} {sl3 : Array (Option Value)}
    (a3 : PySem.W.nsIn K mainGlobals "key_fault" = some (some (.ref f3)))
    (l3 : K.lookup f3 = some ⟨oc3, od3, .func (PySem.W.fnOf "key_fault" "key_fault" (defArgs x_key_fault) (defBody x_key_fault) (defScope x_key_fault) .none kV3 dc3 pm3 an3 cd3 ct3), sl3⟩)
    (c3 : PySem.W.codeIn K cd3 "key_fault" = true)
    (k3 : PySem.W.keepIn K (.ref f3) = true)
    {oc4 kV4 dc4 pm4 cd4 ct4 : Value} {od4 an4 : Option Addr} {sl4 : Array (Option Value)}
    (a4 : PySem.W.nsIn K mainGlobals "is_key" = some (some (.ref f4)))
    (l4 : K.lookup f4 = some ⟨oc4, od4, .func (PySem.W.fnOf "is_key" "is_key" (defArgs x_is_key) (defBody x_is_key) (defScope x_is_key) .none kV4 dc4 pm4 an4 cd4 ct4), sl4⟩)
    (c4 : PySem.W.codeIn K cd4 "is_key" = true)
    (k4 : PySem.W.keepIn K (.ref f4) = true)
    {oc5 kV5 dc5 pm5 cd5 ct5 : Value} {od5 an5 : Option Addr} {sl5 : Array (Option Value)}
    (a5 : PySem.W.nsIn K mainGlobals "need_key" = some (some (.ref f5)))
    (l5 : K.lookup f5 = some ⟨oc5, od5, .func (PySem.W.fnOf "need_key" "need_key" (defArgs x_need_key) (defBody x_need_key) (defScope x_need_key) .none kV5 dc5 pm5 an5 cd5 ct5), sl5⟩)
    (c5 : PySem.W.codeIn K cd5 "need_key" = true)
    (k5 : PySem.W.keepIn K (.ref f5) = true)
    {oc6 kV6 dc6 pm6 cd6 ct6 : Value} {od6 an6 : Option Addr} {sl6 : Array (Option Value)}
    (a6 : PySem.W.nsIn K mainGlobals "need_most" = some (some (.ref f6)))
    (l6 : K.lookup f6 = some ⟨oc6, od6, .func (PySem.W.fnOf "need_most" "need_most" (defArgs x_need_most) (defBody x_need_most) (defScope x_need_most) .none kV6 dc6 pm6 an6 cd6 ct6), sl6⟩)
    (c6 : PySem.W.codeIn K cd6 "need_most" = true)
    (k6 : PySem.W.keepIn K (.ref f6) = true)
    {oc7 kV7 dc7 pm7 cd7 ct7 : Value} {od7 an7 : Option Addr} {sl7 : Array (Option Value)}
    (a7 : PySem.W.nsIn K mainGlobals "half_of" = some (some (.ref f7)))
    (l7 : K.lookup f7 = some ⟨oc7, od7, .func (PySem.W.fnOf "half_of" "half_of" (defArgs x_half_of) (defBody x_half_of) (defScope x_half_of) .none kV7 dc7 pm7 an7 cd7 ct7), sl7⟩)
    (c7 : PySem.W.codeIn K cd7 "half_of" = true)
    (k7 : PySem.W.keepIn K (.ref f7) = true)
    {oc8 kV8 dc8 pm8 cd8 ct8 : Value} {od8 an8 : Option Addr} {sl8 : Array (Option Value)}
    (a8 : PySem.W.nsIn K mainGlobals "is_leaf" = some (some (.ref f8)))
    (l8 : K.lookup f8 = some ⟨oc8, od8, .func (PySem.W.fnOf "is_leaf" "is_leaf" (defArgs x_is_leaf) (defBody x_is_leaf) (defScope x_is_leaf) .none kV8 dc8 pm8 an8 cd8 ct8), sl8⟩)
    (c8 : PySem.W.codeIn K cd8 "is_leaf" = true)
    (k8 : PySem.W.keepIn K (.ref f8) = true)
    {oc9 kV9 dc9 pm9 cd9 ct9 : Value} {od9 an9 : Option Addr} {sl9 : Array (Option Value)}
    (a9 : PySem.W.nsIn K mainGlobals "things_on" = some (some (.ref f9)))
    (l9 : K.lookup f9 = some ⟨oc9, od9, .func (PySem.W.fnOf "things_on" "things_on" (defArgs x_things_on) (defBody x_things_on) (defScope x_things_on) .none kV9 dc9 pm9 an9 cd9 ct9), sl9⟩)
    (c9 : PySem.W.codeIn K cd9 "things_on" = true)
    (k9 : PySem.W.keepIn K (.ref f9) = true)
    {oc10 kV10 dc10 pm10 cd10 ct10 : Value} {od10 an10 : Option Addr} {sl10 : Array (Option Value)}
    (a10 : PySem.W.nsIn K mainGlobals "child_number" = some (some (.ref f10)))
    (l10 : K.lookup f10 = some ⟨oc10, od10, .func (PySem.W.fnOf "child_number" "child_number" (defArgs x_child_number) (defBody x_child_number) (defScope x_child_number) .none kV10 dc10 pm10 an10 cd10 ct10), sl10⟩)
    (c10 : PySem.W.codeIn K cd10 "child_number" = true)
    (k10 : PySem.W.keepIn K (.ref f10) = true)
    {oc11 kV11 dc11 pm11 cd11 ct11 : Value} {od11 an11 : Option Addr} {sl11 : Array (Option Value)}
    (a11 : PySem.W.nsIn K mainGlobals "entry_number" = some (some (.ref f11)))
    (l11 : K.lookup f11 = some ⟨oc11, od11, .func (PySem.W.fnOf "entry_number" "entry_number" (defArgs x_entry_number) (defBody x_entry_number) (defScope x_entry_number) .none kV11 dc11 pm11 an11 cd11 ct11), sl11⟩)
    (c11 : PySem.W.codeIn K cd11 "entry_number" = true)
    (k11 : PySem.W.keepIn K (.ref f11) = true)
    {oc12 kV12 dc12 pm12 cd12 ct12 : Value} {od12 an12 : Option Addr} {sl12 : Array (Option Value)}
    (a12 : PySem.W.nsIn K mainGlobals "leaf_for" = some (some (.ref f12)))
    (l12 : K.lookup f12 = some ⟨oc12, od12, .func (PySem.W.fnOf "leaf_for" "leaf_for" (defArgs x_leaf_for) (defBody x_leaf_for) (defScope x_leaf_for) .none kV12 dc12 pm12 an12 cd12 ct12), sl12⟩)
    (c12 : PySem.W.codeIn K cd12 "leaf_for" = true)
    (k12 : PySem.W.keepIn K (.ref f12) = true)
    {oc13 kV13 dc13 pm13 cd13 ct13 : Value} {od13 an13 : Option Addr} {sl13 : Array (Option Value)}
    (a13 : PySem.W.nsIn K mainGlobals "entry_of" = some (some (.ref f13)))
    (l13 : K.lookup f13 = some ⟨oc13, od13, .func (PySem.W.fnOf "entry_of" "entry_of" (defArgs x_entry_of) (defBody x_entry_of) (defScope x_entry_of) .none kV13 dc13 pm13 an13 cd13 ct13), sl13⟩)
    (c13 : PySem.W.codeIn K cd13 "entry_of" = true)
    (k13 : PySem.W.keepIn K (.ref f13) = true)
    {oc14 kV14 dc14 pm14 cd14 ct14 : Value} {od14 an14 : Option Addr} {sl14 : Array (Option Value)}
    (a14 : PySem.W.nsIn K mainGlobals "has" = some (some (.ref f14)))
    (l14 : K.lookup f14 = some ⟨oc14, od14, .func (PySem.W.fnOf "has" "has" (defArgs x_has) (defBody x_has) (defScope x_has) .none kV14 dc14 pm14 an14 cd14 ct14), sl14⟩)
    (c14 : PySem.W.codeIn K cd14 "has" = true)
    (k14 : PySem.W.keepIn K (.ref f14) = true)
    {oc15 kV15 dc15 pm15 cd15 ct15 : Value} {od15 an15 : Option Addr} {sl15 : Array (Option Value)}
    (a15 : PySem.W.nsIn K mainGlobals "packed_leaf" = some (some (.ref f15)))
    (l15 : K.lookup f15 = some ⟨oc15, od15, .func (PySem.W.fnOf "packed_leaf" "packed_leaf" (defArgs x_packed_leaf) (defBody x_packed_leaf) (defScope x_packed_leaf) .none kV15 dc15 pm15 an15 cd15 ct15), sl15⟩)
    (c15 : PySem.W.codeIn K cd15 "packed_leaf" = true)
    (k15 : PySem.W.keepIn K (.ref f15) = true)
    {oc16 kV16 dc16 pm16 cd16 ct16 : Value} {od16 an16 : Option Addr} {sl16 : Array (Option Value)}
    (a16 : PySem.W.nsIn K mainGlobals "packed_branch" = some (some (.ref f16)))
    (l16 : K.lookup f16 = some ⟨oc16, od16, .func (PySem.W.fnOf "packed_branch" "packed_branch" (defArgs x_packed_branch) (defBody x_packed_branch) (defScope x_packed_branch) .none kV16 dc16 pm16 an16 cd16 ct16), sl16⟩)
    (c16 : PySem.W.codeIn K cd16 "packed_branch" = true)
    (k16 : PySem.W.keepIn K (.ref f16) = true)
    {oc17 kV17 dc17 pm17 cd17 ct17 : Value} {od17 an17 : Option Addr} {sl17 : Array (Option Value)}
    (a17 : PySem.W.nsIn K mainGlobals "root_of" = some (some (.ref f17)))
    (l17 : K.lookup f17 = some ⟨oc17, od17, .func (PySem.W.fnOf "root_of" "root_of" (defArgs x_root_of) (defBody x_root_of) (defScope x_root_of) .none kV17 dc17 pm17 an17 cd17 ct17), sl17⟩)
    (c17 : PySem.W.codeIn K cd17 "root_of" = true)
    (k17 : PySem.W.keepIn K (.ref f17) = true)
    {oc18 kV18 dc18 pm18 cd18 ct18 : Value} {od18 an18 : Option Addr} {sl18 : Array (Option Value)}
    (a18 : PySem.W.nsIn K mainGlobals "spliced" = some (some (.ref f18)))
    (l18 : K.lookup f18 = some ⟨oc18, od18, .func (PySem.W.fnOf "spliced" "spliced" (defArgs x_spliced) (defBody x_spliced) (defScope x_spliced) .none kV18 dc18 pm18 an18 cd18 ct18), sl18⟩)
    (c18 : PySem.W.codeIn K cd18 "spliced" = true)
    (k18 : PySem.W.keepIn K (.ref f18) = true)
    {oc19 kV19 dc19 pm19 cd19 ct19 : Value} {od19 an19 : Option Addr} {sl19 : Array (Option Value)}
    (a19 : PySem.W.nsIn K mainGlobals "fused" = some (some (.ref f19)))
    (l19 : K.lookup f19 = some ⟨oc19, od19, .func (PySem.W.fnOf "fused" "fused" (defArgs x_fused) (defBody x_fused) (defScope x_fused) .none kV19 dc19 pm19 an19 cd19 ct19), sl19⟩)
    (c19 : PySem.W.codeIn K cd19 "fused" = true)
    (k19 : PySem.W.keepIn K (.ref f19) = true)
    {oc20 kV20 dc20 pm20 cd20 ct20 : Value} {od20 an20 : Option Addr} {sl20 : Array (Option Value)}
    (a20 : PySem.W.nsIn K mainGlobals "put_pieces" = some (some (.ref f20)))
    (l20 : K.lookup f20 = some ⟨oc20, od20, .func (PySem.W.fnOf "put_pieces" "put_pieces" (defArgs x_put_pieces) (defBody x_put_pieces) (defScope x_put_pieces) .none kV20 dc20 pm20 an20 cd20 ct20), sl20⟩)
    (c20 : PySem.W.codeIn K cd20 "put_pieces" = true)
    (k20 : PySem.W.keepIn K (.ref f20) = true)
    {oc21 kV21 dc21 pm21 cd21 ct21 : Value} {od21 an21 : Option Addr} {sl21 : Array (Option Value)}
    (a21 : PySem.W.nsIn K mainGlobals "with_entry" = some (some (.ref f21)))
    (l21 : K.lookup f21 = some ⟨oc21, od21, .func (PySem.W.fnOf "with_entry" "with_entry" (defArgs x_with_entry) (defBody x_with_entry) (defScope x_with_entry) .none kV21 dc21 pm21 an21 cd21 ct21), sl21⟩)
    (c21 : PySem.W.codeIn K cd21 "with_entry" = true)
    (k21 : PySem.W.keepIn K (.ref f21) = true)
    {oc22 kV22 dc22 pm22 cd22 ct22 : Value} {od22 an22 : Option Addr} {sl22 : Array (Option Value)}
    (a22 : PySem.W.nsIn K mainGlobals "less_page" = some (some (.ref f22)))
    (l22 : K.lookup f22 = some ⟨oc22, od22, .func (PySem.W.fnOf "less_page" "less_page" (defArgs x_less_page) (defBody x_less_page) (defScope x_less_page) .none kV22 dc22 pm22 an22 cd22 ct22), sl22⟩)
    (c22 : PySem.W.codeIn K cd22 "less_page" = true)
    (k22 : PySem.W.keepIn K (.ref f22) = true)
    {oc23 kV23 dc23 pm23 cd23 ct23 : Value} {od23 an23 : Option Addr} {sl23 : Array (Option Value)}
    (a23 : PySem.W.nsIn K mainGlobals "without_entry" = some (some (.ref f23)))
    (l23 : K.lookup f23 = some ⟨oc23, od23, .func (PySem.W.fnOf "without_entry" "without_entry" (defArgs x_without_entry) (defBody x_without_entry) (defScope x_without_entry) .none kV23 dc23 pm23 an23 cd23 ct23), sl23⟩)
    (c23 : PySem.W.codeIn K cd23 "without_entry" = true)
    (k23 : PySem.W.keepIn K (.ref f23) = true)
    {oc24 kV24 dc24 pm24 cd24 ct24 : Value} {od24 an24 : Option Addr} {sl24 : Array (Option Value)}
    (a24 : PySem.W.nsIn K mainGlobals "first_key" = some (some (.ref f24)))
    (l24 : K.lookup f24 = some ⟨oc24, od24, .func (PySem.W.fnOf "first_key" "first_key" (defArgs x_first_key) (defBody x_first_key) (defScope x_first_key) .none kV24 dc24 pm24 an24 cd24 ct24), sl24⟩)
    (c24 : PySem.W.codeIn K cd24 "first_key" = true)
    (k24 : PySem.W.keepIn K (.ref f24) = true)
    {oc25 kV25 dc25 pm25 cd25 ct25 : Value} {od25 an25 : Option Addr} {sl25 : Array (Option Value)}
    (a25 : PySem.W.nsIn K mainGlobals "behind_of" = some (some (.ref f25)))
    (l25 : K.lookup f25 = some ⟨oc25, od25, .func (PySem.W.fnOf "behind_of" "behind_of" (defArgs x_behind_of) (defBody x_behind_of) (defScope x_behind_of) .none kV25 dc25 pm25 an25 cd25 ct25), sl25⟩)
    (c25 : PySem.W.codeIn K cd25 "behind_of" = true)
    (k25 : PySem.W.keepIn K (.ref f25) = true)
    {oc26 kV26 dc26 pm26 cd26 ct26 : Value} {od26 an26 : Option Addr} {sl26 : Array (Option Value)}
    (a26 : PySem.W.nsIn K mainGlobals "first" = some (some (.ref f26)))
    (l26 : K.lookup f26 = some ⟨oc26, od26, .func (PySem.W.fnOf "first" "first" (defArgs x_first) (defBody x_first) (defScope x_first) .none kV26 dc26 pm26 an26 cd26 ct26), sl26⟩)
    (c26 : PySem.W.codeIn K cd26 "first" = true)
    (k26 : PySem.W.keepIn K (.ref f26) = true)
    {oc27 kV27 dc27 pm27 cd27 ct27 : Value} {od27 an27 : Option Addr} {sl27 : Array (Option Value)}
    (a27 : PySem.W.nsIn K mainGlobals "last" = some (some (.ref f27)))
    (l27 : K.lookup f27 = some ⟨oc27, od27, .func (PySem.W.fnOf "last" "last" (defArgs x_last) (defBody x_last) (defScope x_last) .none kV27 dc27 pm27 an27 cd27 ct27), sl27⟩)
    (c27 : PySem.W.codeIn K cd27 "last" = true)
    (k27 : PySem.W.keepIn K (.ref f27) = true)
    {oc28 kV28 dc28 pm28 cd28 ct28 : Value} {od28 an28 : Option Addr} {sl28 : Array (Option Value)}
    (a28 : PySem.W.nsIn K mainGlobals "after" = some (some (.ref f28)))
    (l28 : K.lookup f28 = some ⟨oc28, od28, .func (PySem.W.fnOf "after" "after" (defArgs x_after) (defBody x_after) (defScope x_after) .none kV28 dc28 pm28 an28 cd28 ct28), sl28⟩)
    (c28 : PySem.W.codeIn K cd28 "after" = true)
    (k28 : PySem.W.keepIn K (.ref f28) = true)
    {oc29 kV29 dc29 pm29 cd29 ct29 : Value} {od29 an29 : Option Addr} {sl29 : Array (Option Value)}
    (a29 : PySem.W.nsIn K mainGlobals "before" = some (some (.ref f29)))
    (l29 : K.lookup f29 = some ⟨oc29, od29, .func (PySem.W.fnOf "before" "before" (defArgs x_before) (defBody x_before) (defScope x_before) .none kV29 dc29 pm29 an29 cd29 ct29), sl29⟩)
    (c29 : PySem.W.codeIn K cd29 "before" = true)
    (k29 : PySem.W.keepIn K (.ref f29) = true)
    {oc30 kV30 dc30 pm30 cd30 ct30 : Value} {od30 an30 : Option Addr} {sl30 : Array (Option Value)}
    (a30 : PySem.W.findIn K (.ref f52) "__init__" = some (some (.ref f30)))
    (b30 : PySem.W.isFn K (.ref f30) = true)
    (l30 : K.lookup f30 = some ⟨oc30, od30, .func (PySem.W.fnOf "__init__" "Tree.__init__" (defArgs x_Tree__init) (defBody x_Tree__init) (defScope x_Tree__init) .none kV30 dc30 pm30 an30 cd30 ct30), sl30⟩)
    (c30 : PySem.W.codeIn K cd30 "Tree.__init__" = true)
    (k30 : PySem.W.keepIn K (.ref f30) = true)
    {oc31 kV31 dc31 pm31 cd31 ct31 : Value} {od31 an31 : Option Addr} {sl31 : Array (Option Value)}
    (a31 : PySem.W.findIn K (.ref f52) "__len__" = some (some (.ref f31)))
    (b31 : PySem.W.isFn K (.ref f31) = true)
    (l31 : K.lookup f31 = some ⟨oc31, od31, .func (PySem.W.fnOf "__len__" "Tree.__len__" (defArgs x_Tree____len__) (defBody x_Tree____len__) (defScope x_Tree____len__) .none kV31 dc31 pm31 an31 cd31 ct31), sl31⟩)
    (c31 : PySem.W.codeIn K cd31 "Tree.__len__" = true)
    (k31 : PySem.W.keepIn K (.ref f31) = true)
    {oc32 kV32 dc32 pm32 cd32 ct32 : Value} {od32 an32 : Option Addr} {sl32 : Array (Option Value)}
    (a32 : PySem.W.findIn K (.ref f52) "__contains__" = some (some (.ref f32)))
    (b32 : PySem.W.isFn K (.ref f32) = true)
    (l32 : K.lookup f32 = some ⟨oc32, od32, .func (PySem.W.fnOf "__contains__" "Tree.__contains__" (defArgs x_Tree____contains__) (defBody x_Tree____contains__) (defScope x_Tree____contains__) .none kV32 dc32 pm32 an32 cd32 ct32), sl32⟩)
    (c32 : PySem.W.codeIn K cd32 "Tree.__contains__" = true)
    (k32 : PySem.W.keepIn K (.ref f32) = true)
    {oc33 kV33 dc33 pm33 cd33 ct33 : Value} {od33 an33 : Option Addr} {sl33 : Array (Option Value)}
    (a33 : PySem.W.findIn K (.ref f52) "root" = some (some (.ref f33)))
    (b33 : PySem.W.isFn K (.ref f33) = true)
    (l33 : K.lookup f33 = some ⟨oc33, od33, .func (PySem.W.fnOf "root" "Tree.root" (defArgs x_Tree__root) (defBody x_Tree__root) (defScope x_Tree__root) .none kV33 dc33 pm33 an33 cd33 ct33), sl33⟩)
    (c33 : PySem.W.codeIn K cd33 "Tree.root" = true)
    (k33 : PySem.W.keepIn K (.ref f33) = true)
    {oc34 kV34 dc34 pm34 cd34 ct34 : Value} {od34 an34 : Option Addr} {sl34 : Array (Option Value)}
    (a34 : PySem.W.findIn K (.ref f52) "put" = some (some (.ref f34)))
    (b34 : PySem.W.isFn K (.ref f34) = true)
    (l34 : K.lookup f34 = some ⟨oc34, od34, .func (PySem.W.fnOf "put" "Tree.put" (defArgs x_Tree__put) (defBody x_Tree__put) (defScope x_Tree__put) .none kV34 dc34 pm34 an34 cd34 ct34), sl34⟩)
    (c34 : PySem.W.codeIn K cd34 "Tree.put" = true)
    (k34 : PySem.W.keepIn K (.ref f34) = true)
    {oc35 kV35 dc35 pm35 cd35 ct35 : Value} {od35 an35 : Option Addr} {sl35 : Array (Option Value)}
    (a35 : PySem.W.findIn K (.ref f52) "take" = some (some (.ref f35)))
    (b35 : PySem.W.isFn K (.ref f35) = true)
    (l35 : K.lookup f35 = some ⟨oc35, od35, .func (PySem.W.fnOf "take" "Tree.take" (defArgs x_Tree__take) (defBody x_Tree__take) (defScope x_Tree__take) .none kV35 dc35 pm35 an35 cd35 ct35), sl35⟩)
    (c35 : PySem.W.codeIn K cd35 "Tree.take" = true)
    (k35 : PySem.W.keepIn K (.ref f35) = true)
    {oc36 kV36 dc36 pm36 cd36 ct36 : Value} {od36 an36 : Option Addr} {sl36 : Array (Option Value)}
    (a36 : PySem.W.findIn K (.ref f52) "has" = some (some (.ref f36)))
    (b36 : PySem.W.isFn K (.ref f36) = true)
    (l36 : K.lookup f36 = some ⟨oc36, od36, .func (PySem.W.fnOf "has" "Tree.has" (defArgs x_Tree__has) (defBody x_Tree__has) (defScope x_Tree__has) .none kV36 dc36 pm36 an36 cd36 ct36), sl36⟩)
    (c36 : PySem.W.codeIn K cd36 "Tree.has" = true)
    (k36 : PySem.W.keepIn K (.ref f36) = true)
    {oc37 kV37 dc37 pm37 cd37 ct37 : Value} {od37 an37 : Option Addr} {sl37 : Array (Option Value)}
    (a37 : PySem.W.nsIn K mainGlobals "_law_deal" = some (some (.ref f37)))
    (l37 : K.lookup f37 = some ⟨oc37, od37, .func (PySem.W.fnOf "_law_deal" "_law_deal" (defArgs x__law_deal) (defBody x__law_deal) (defScope x__law_deal) .none kV37 dc37 pm37 an37 cd37 ct37), sl37⟩)
    (c37 : PySem.W.codeIn K cd37 "_law_deal" = true)
    (k37 : PySem.W.keepIn K (.ref f37) = true)
    {oc38 kV38 dc38 pm38 cd38 ct38 : Value} {od38 an38 : Option Addr} {sl38 : Array (Option Value)}
    (a38 : PySem.W.nsIn K mainGlobals "_law_any" = some (some (.ref f38)))
    (l38 : K.lookup f38 = some ⟨oc38, od38, .func (PySem.W.fnOf "_law_any" "_law_any" (defArgs x__law_any) (defBody x__law_any) (defScope x__law_any) .none kV38 dc38 pm38 an38 cd38 ct38), sl38⟩)
    (c38 : PySem.W.codeIn K cd38 "_law_any" = true)
    (k38 : PySem.W.keepIn K (.ref f38) = true)
    {oc39 kV39 dc39 pm39 cd39 ct39 : Value} {od39 an39 : Option Addr} {sl39 : Array (Option Value)}
    (a39 : PySem.W.nsIn K mainGlobals "_law_of" = some (some (.ref f39)))
    (l39 : K.lookup f39 = some ⟨oc39, od39, .func (PySem.W.fnOf "_law_of" "_law_of" (defArgs x__law_of) (defBody x__law_of) (defScope x__law_of) .none kV39 dc39 pm39 an39 cd39 ct39), sl39⟩)
    (c39 : PySem.W.codeIn K cd39 "_law_of" = true)
    (k39 : PySem.W.keepIn K (.ref f39) = true)
    {oc40 kV40 dc40 pm40 cd40 ct40 : Value} {od40 an40 : Option Addr} {sl40 : Array (Option Value)}
    (a40 : PySem.W.nsIn K mainGlobals "_law_keys" = some (some (.ref f40)))
    (l40 : K.lookup f40 = some ⟨oc40, od40, .func (PySem.W.fnOf "_law_keys" "_law_keys" (defArgs x__law_keys) (defBody x__law_keys) (defScope x__law_keys) .none kV40 dc40 pm40 an40 cd40 ct40), sl40⟩)
    (c40 : PySem.W.codeIn K cd40 "_law_keys" = true)
    (k40 : PySem.W.keepIn K (.ref f40) = true)
    {oc41 kV41 dc41 pm41 cd41 ct41 : Value} {od41 an41 : Option Addr} {sl41 : Array (Option Value)}
    (a41 : PySem.W.nsIn K mainGlobals "_law_thing" = some (some (.ref f41)))
    (l41 : K.lookup f41 = some ⟨oc41, od41, .func (PySem.W.fnOf "_law_thing" "_law_thing" (defArgs x__law_thing) (defBody x__law_thing) (defScope x__law_thing) .none kV41 dc41 pm41 an41 cd41 ct41), sl41⟩)
    (c41 : PySem.W.codeIn K cd41 "_law_thing" = true)
    (k41 : PySem.W.keepIn K (.ref f41) = true)
    {oc42 kV42 dc42 pm42 cd42 ct42 : Value} {od42 an42 : Option Addr} {sl42 : Array (Option Value)}
    (a42 : PySem.W.nsIn K mainGlobals "_law_next" = some (some (.ref f42)))
    (l42 : K.lookup f42 = some ⟨oc42, od42, .func (PySem.W.fnOf "_law_next" "_law_next" (defArgs x__law_next) (defBody x__law_next) (defScope x__law_next) .none kV42 dc42 pm42 an42 cd42 ct42), sl42⟩)
    (c42 : PySem.W.codeIn K cd42 "_law_next" = true)
    (k42 : PySem.W.keepIn K (.ref f42) = true)
    {oc43 kV43 dc43 pm43 cd43 ct43 : Value} {od43 an43 : Option Addr} {sl43 : Array (Option Value)}
    (a43 : PySem.W.nsIn K mainGlobals "_law_wrong" = some (some (.ref f43)))
    (l43 : K.lookup f43 = some ⟨oc43, od43, .func (PySem.W.fnOf "_law_wrong" "_law_wrong" (defArgs x__law_wrong) (defBody x__law_wrong) (defScope x__law_wrong) .none kV43 dc43 pm43 an43 cd43 ct43), sl43⟩)
    (c43 : PySem.W.codeIn K cd43 "_law_wrong" = true)
    (k43 : PySem.W.keepIn K (.ref f43) = true)
    {oc44 kV44 dc44 pm44 cd44 ct44 : Value} {od44 an44 : Option Addr} {sl44 : Array (Option Value)}
    (a44 : PySem.W.nsIn K mainGlobals "_law_changed" = some (some (.ref f44)))
    (l44 : K.lookup f44 = some ⟨oc44, od44, .func (PySem.W.fnOf "_law_changed" "_law_changed" (defArgs x__law_changed) (defBody x__law_changed) (defScope x__law_changed) .none kV44 dc44 pm44 an44 cd44 ct44), sl44⟩)
    (c44 : PySem.W.codeIn K cd44 "_law_changed" = true)
    (k44 : PySem.W.keepIn K (.ref f44) = true)
    {oc45 kV45 dc45 pm45 cd45 ct45 : Value} {od45 an45 : Option Addr} {sl45 : Array (Option Value)}
    (a45 : PySem.W.nsIn K mainGlobals "law" = some (some (.ref f45)))
    (l45 : K.lookup f45 = some ⟨oc45, od45, .func (PySem.W.fnOf "law" "law" (defArgs x_law) (defBody x_law) (defScope x_law) .none kV45 dc45 pm45 an45 cd45 ct45), sl45⟩)
    (c45 : PySem.W.codeIn K cd45 "law" = true)
    (k45 : PySem.W.keepIn K (.ref f45) = true)
    (ca52 : PySem.W.nsIn K mainGlobals "Tree" = some (some (.ref f52)))
    (cb52 : PySem.W.plainGet K f52 Str.empty = true)
    (cx52 : PySem.W.hasDictIn K f52 = true)
    (cy52 : PySem.W.plainOver K f52 = true)
    (ce52 : PySem.W.findIn K (.ref f52) "__setattr__" = some (some (.builtin "object.__setattr__")))
    (cf52 : PySem.W.makesIn K f52 = true)
    (cg52 : PySem.W.keepIn K (.ref f52) = true)
    (cn52__known : PySem.W.findIn K (.ref f52) "_known" = some none)
    (cn52__page : PySem.W.findIn K (.ref f52) "_page" = some none)
    (cn52_most : PySem.W.findIn K (.ref f52) "most" = some none)
    (sp : PySem.W.specialIn K (.builtin "object.__class__") "__get__" = some (some (.builtin "getset_descriptor.__get__")))
    (tp : PySem.W.takesIn K (.builtin "object.__class__") = some true)
    (tq : PySem.W.nsIn K cStatics "thirdparty.any" = some none)
    (tr : (l.prog.main.scope.names.lookup ("super" : Str)).isSome = false)
    (ea46 : PySem.W.nsIn K mainGlobals "StoreError" = some (some (.ref f46)))
    (eb46 : PySem.W.findIn K (.ref f46) "__getattribute__" = some (some (.builtin "BaseException.__getattribute__")))
    (ec46 : PySem.W.findIn K (.ref f46) "__getattr__" = some none)
    (ed46 : PySem.W.subIn K (.ref f46) (.type "BaseException") = some true)
    (ee46 : PySem.W.hasDictIn K f46 = true)
    (ef46 : PySem.W.findIn K (.ref f46) "__class__" = some (some (.builtin "object.__class__")))
    (eg46 : PySem.W.mroIn K f46 (.type "object") = some true)
    (eh46 : PySem.W.typeIn K (.ref f46) = some (.type "type"))
    (ei46 : PySem.W.keepIn K (.ref f46) = true)
    (ej46 : PySem.W.subIn K (.ref f46) (.ref f46) = some true)
    (ea47 : PySem.W.nsIn K mainGlobals "InvalidKey" = some (some (.ref f47)))
    (eb47 : PySem.W.findIn K (.ref f47) "__getattribute__" = some (some (.builtin "BaseException.__getattribute__")))
    (ec47 : PySem.W.findIn K (.ref f47) "__getattr__" = some none)
    (ed47 : PySem.W.subIn K (.ref f47) (.type "BaseException") = some true)
    (ee47 : PySem.W.hasDictIn K f47 = true)
    (ef47 : PySem.W.findIn K (.ref f47) "__class__" = some (some (.builtin "object.__class__")))
    (eg47 : PySem.W.mroIn K f47 (.type "object") = some true)
    (eh47 : PySem.W.typeIn K (.ref f47) = some (.type "type"))
    (ei47 : PySem.W.keepIn K (.ref f47) = true)
    (ej47 : PySem.W.subIn K (.ref f47) (.ref f47) = some true)
    (ea48 : PySem.W.nsIn K mainGlobals "InvalidSize" = some (some (.ref f48)))
    (eb48 : PySem.W.findIn K (.ref f48) "__getattribute__" = some (some (.builtin "BaseException.__getattribute__")))
    (ec48 : PySem.W.findIn K (.ref f48) "__getattr__" = some none)
    (ed48 : PySem.W.subIn K (.ref f48) (.type "BaseException") = some true)
    (ee48 : PySem.W.hasDictIn K f48 = true)
    (ef48 : PySem.W.findIn K (.ref f48) "__class__" = some (some (.builtin "object.__class__")))
    (eg48 : PySem.W.mroIn K f48 (.type "object") = some true)
    (eh48 : PySem.W.typeIn K (.ref f48) = some (.type "type"))
    (ei48 : PySem.W.keepIn K (.ref f48) = true)
    (ej48 : PySem.W.subIn K (.ref f48) (.ref f48) = some true)
    (en47_at : PySem.W.findIn K (.ref f47) "at" = some none)
    (en48_word : PySem.W.findIn K (.ref f48) "word" = some none)
    (eu47_47 : PySem.W.subIn K (.ref f47) (.ref f47) = some true)
    (eu48_47 : PySem.W.subIn K (.ref f48) (.ref f47) = some false)
    {nm47 qn47 : Str} {N47 : Addr} {bs47 bm47 : List Value} {sn47 : List Str} {sb47 : List Value} {ab47 : Bool} {cl47 : Option Bool} {dd47 : Option Addr} {ka47 kb47 kc47 kd47 ke47 : Option Value}
    {oc47 kV47 dc47 pm47 ct47 ccl47 cel47 : Value} {od47 an47 cdd47 cld47 : Option Addr} {sl47 ccs47 csl47 : Array (Option Value)} {qual47 file47 : Str} {cda47 cc47 : Addr} {vs47 : Array Value} {tf47 : Tok}
    (xa47 : K.lookup f47 = some (excClassObj nm47 qn47 f47 N47 bs47 bm47 true sn47 sb47 ab47 cl47 dd47 ka47 kb47 kc47 kd47 ke47 "Exception.__new__"))
    (xb47 : ErE.Line [.type "Exception", .type "BaseException", .type "object"] bm47)
    (xc47 : PySem.W.findIn K (.ref f47) "__setattr__" = some (some (.builtin "object.__setattr__")))
    (xd47 : PySem.W.findIn K (.ref f47) "__init__" = some (some (.ref f50)))
    (xe47 : PySem.W.typeIn K (.ref f50) = some (.type "function"))
    (xf47 : PySem.W.ks_superIn K f47 f47 "__init__" = some (some (.builtin "Exception.__init__")))
    (xg47 : PySem.W.subIn K (.ref f47) (.type "Exception") = some true)
    (xh47 : K.lookup f50 = some ⟨oc47, od47, .func (PySem.W.ksFn "__init__" qual47 (defArgs (methAt x_InvalidKey 0)) (defBody (methAt x_InvalidKey 0)) (defScope (methAt x_InvalidKey 0)) .none kV47 dc47 pm47 an47 (.ref cda47) ct47 cc47), sl47⟩)
    (xi47 : PySem.W.codeIn K (.ref cda47) qual47 = true)
    (xj47 : K.lookup cda47 = some ⟨ccl47, cdd47, .fields vs47, ccs47⟩)
    (xk47 : vs47[2]? = some (.str file47 tf47))
    (xl47 : ((l.prog.main.file : Str) == file47) = true)
    (xm47 : K.lookup cc47 = some ⟨cel47, cld47, .cell (some (.ref f47)), csl47⟩)
    {nm48 qn48 : Str} {N48 : Addr} {bs48 bm48 : List Value} {sn48 : List Str} {sb48 : List Value} {ab48 : Bool} {cl48 : Option Bool} {dd48 : Option Addr} {ka48 kb48 kc48 kd48 ke48 : Option Value}
    {oc48 kV48 dc48 pm48 ct48 ccl48 cel48 : Value} {od48 an48 cdd48 cld48 : Option Addr} {sl48 ccs48 csl48 : Array (Option Value)} {qual48 file48 : Str} {cda48 cc48 : Addr} {vs48 : Array Value} {tf48 : Tok}
    (xa48 : K.lookup f48 = some (excClassObj nm48 qn48 f48 N48 bs48 bm48 true sn48 sb48 ab48 cl48 dd48 ka48 kb48 kc48 kd48 ke48 "Exception.__new__"))
    (xb48 : ErE.Line [.type "Exception", .type "BaseException", .type "object"] bm48)
    (xc48 : PySem.W.findIn K (.ref f48) "__setattr__" = some (some (.builtin "object.__setattr__")))
    (xd48 : PySem.W.findIn K (.ref f48) "__init__" = some (some (.ref f51)))
    (xe48 : PySem.W.typeIn K (.ref f51) = some (.type "function"))
    (xf48 : PySem.W.ks_superIn K f48 f48 "__init__" = some (some (.builtin "Exception.__init__")))
    (xg48 : PySem.W.subIn K (.ref f48) (.type "Exception") = some true)
    (xh48 : K.lookup f51 = some ⟨oc48, od48, .func (PySem.W.ksFn "__init__" qual48 (defArgs (methAt x_InvalidSize 0)) (defBody (methAt x_InvalidSize 0)) (defScope (methAt x_InvalidSize 0)) .none kV48 dc48 pm48 an48 (.ref cda48) ct48 cc48), sl48⟩)
    (xi48 : PySem.W.codeIn K (.ref cda48) qual48 = true)
    (xj48 : K.lookup cda48 = some ⟨ccl48, cdd48, .fields vs48, ccs48⟩)
    (xk48 : vs48[2]? = some (.str file48 tf48))
    (xl48 : ((l.prog.main.file : Str) == file48) = true)
    (xm48 : K.lookup cc48 = some ⟨cel48, cld48, .cell (some (.ref f48)), csl48⟩)
    (z0 : PySem.W.nsIn K mainGlobals "abs" = some none)
    (z1 : PySem.W.nsIn K mainGlobals "bool" = some none)
    (z2 : PySem.W.nsIn K mainGlobals "enumerate" = some none)
    (z3 : PySem.W.nsIn K mainGlobals "int" = some none)
    (z4 : PySem.W.nsIn K mainGlobals "isinstance" = some none)
    (z5 : PySem.W.nsIn K mainGlobals "len" = some none)
    (z6 : PySem.W.nsIn K mainGlobals "range" = some none)
    (z7 : PySem.W.nsIn K mainGlobals "repr" = some none)
    (z8 : PySem.W.nsIn K mainGlobals "sorted" = some none)
    (z9 : PySem.W.nsIn K mainGlobals "str" = some none)
    (z10 : PySem.W.nsIn K mainGlobals "super" = some none)
    (z11 : PySem.W.nsIn K mainGlobals "tuple" = some none)
    {t0 : Tok} (u0 : PySem.W.nsIn K mainGlobals "KEY_SIGNS" = some (some (.str "0123456789_abcdefghijklmnopqrstuvwxyz" t0)))
    {t1 : Tok} (u1 : PySem.W.nsIn K mainGlobals "LONGEST_KEY" = some (some (.int 16 t1)))
    {t2 : Tok} (u2 : PySem.W.nsIn K mainGlobals "LEAST_MOST" = some (some (.int 3 t2)))
    {t3 : Tok} (u3 : PySem.W.nsIn K mainGlobals "GREATEST_MOST" = some (some (.int 16 t3)))
    {t4 : Tok} (u4 : PySem.W.nsIn K mainGlobals "LEAF" = some (some (.str "leaf" t4)))
    {t5 : Tok} (u5 : PySem.W.nsIn K mainGlobals "BRANCH" = some (some (.str "branch" t5)))
    (al0 : PySem.W.nsIn K mainGlobals "has_pages" = some (some (.ref f14)))
    {qt0_1 : Tok}
    {qa0_2 : Addr} {qn0_2 : Nat}
    {qa0_0 : Addr} {qn0_0 : Nat}
    (qr0 : PySem.W.nsIn K mainGlobals "EMPTY" = some (some (.ref qa0_0)))
    (qb0_0 : K.lookup qa0_0 = some { cls := .type "tuple", data := .seq #[.str "leaf" qt0_1, .ref qa0_2] qn0_0 })
    (qb0_2 : K.lookup qa0_2 = some { cls := .type "tuple", data := .seq #[] qn0_2 })
    : ∃ (fd : FuncData) (cs : Tabs0), (∀ p ∈ cs, ∃ (y : Str) (e : DefRec), (recsOf q).find? (fun e => e.name == y) = some e ∧ PySem.W.tabIn K y = some (p.1, p.2.1)) ∧ (∀ p ∈ cs, K.lookup p.2.1 = none) ∧ (cs.map (·.2.1)).Nodup ∧
        (∀ (s : Shared) (u : Value), BindsTo s fd ⟨[u], []⟩ [("_law_script", u)]) ∧ ∀ base : Heap, K.In base → base.Ns mainGlobals mg → (∀ p ∈ cs, LamX.TabB base mg p.1 p.2.1) → ∀ ns : List Int, ns.length ≤ 63 → (∀ z ∈ ns, Builtin.Int.intBits z ≤ 1048576) →
        ∃ (mf : List D → AH → Res D) (AE : AH), mf [.lst (ns.map D.int)] (tabs0 cs) = .ok (.bl true) AE ∧ FnD l.prog w K mg base 16 fa fd ["_law_script"] mf := by
  have e := hfa.symm.trans (PySem.W.mg_of X G a45)
  cases e
  have T := tx_mk (P := l.prog) (w := w) X G a0 l0 c0 k0 a1 l1 c1 k1 a2 l2 c2 k2 a3 l3 c3 k3 a4 l4 c4 k4 a5 l5 c5 k5 a6 l6 c6 k6 a7 l7 c7 k7 a8 l8 c8 k8 a9 l9 c9 k9 a10 l10 c10 k10 a11 l11 c11 k11 a12 l12 c12 k12 a13 l13 c13 k13 a14 l14 c14 k14 a15 l15 c15 k15 a16 l16 c16 k16 a17 l17 c17 k17 a18 l18 c18 k18 a19 l19 c19 k19 a20 l20 c20 k20 a21 l21 c21 k21 a22 l22 c22 k22 a23 l23 c23 k23 a24 l24 c24 k24 a25 l25 c25 k25 a26 l26 c26 k26 a27 l27 c27 k27 a28 l28 c28 k28 a29 l29 c29 k29 a30 b30 l30 c30 k30 a31 b31 l31 c31 k31 a32 b32 l32 c32 k32 a33 b33 l33 c33 k33 a34 b34 l34 c34 k34 a35 b35 l35 c35 k35 a36 b36 l36 c36 k36 a37 l37 c37 k37 a38 l38 c38 k38 a39 l39 c39 k39 a40 l40 c40 k40 a41 l41 c41 k41 a42 l42 c42 k42 a43 l43 c43 k43 a44 l44 c44 k44 a45 l45 c45 k45 ca52 cb52 cx52 cy52 ce52 cf52 cg52 cn52__known cn52__page cn52_most sp tp tq tr ea46 eb46 ec46 ed46 ee46 ef46 eg46 eh46 ei46 ej46 ea47 eb47 ec47 ed47 ee47 ef47 eg47 eh47 ei47 ej47 ea48 eb48 ec48 ed48 ee48 ef48 eg48 eh48 ei48 ej48 en47_at en48_word eu47_47 eu48_47 xa47 xb47 xc47 xd47 xe47 xf47 xg47 xh47 xi47 xj47 xk47 xl47 xm47 xa48 xb48 xc48 xd48 xe48 xf48 xg48 xh48 xi48 xj48 xk48 xl48 xm48 z0 z1 z2 z3 z4 z5 z6 z7 z8 z9 z10 z11 u0 u1 u2 u3 u4 u5 al0 qr0 qb0_0 qb0_2
  exact ⟨_, [], fun p hp => (nomatch hp), fun p hp => (nomatch hp), List.nodup_nil, fun s u => .of_eq rfl, fun base _ _ _ ns hl hb => law_true T ns hl hb⟩
end K12
open PySem PySem.W PyProof.Rows
set_option maxHeartbeats 0 in
theorem PySem.Challenge.cw_spelledways_k12_whole_steps_through_a_tr_holds : PySem.Challenge.rw_spelledways_k12_whole_steps_through_a_tr.Holds := by
  w_on; o_law; k_head; (case hw => w_witness2)
  k_fill
  refine DM.law_walk (l := PySem.Challenge.rw_spelledways_k12_whole_steps_through_a_tr) (n := 63) (k := 16) (x := "_law_script") rfl (by decide) rfl ⟨rfl, by decide, by decide⟩ (fun w h Y => by first | exact PySem.W.kIn_of Y | exact PySem.W.km_in_of Y) ?F
  case F =>
    intro w mg fa h KX G hmg
    refine' K12.law_end KX G hmg ?a0 ?l0 ?c0 ?k0 ?a1 ?l1 ?c1 ?k1 ?a2 ?l2 ?c2 ?k2 ?a3 ?l3 ?c3 ?k3 ?a4 ?l4 ?c4 ?k4 ?a5 ?l5 ?c5 ?k5 ?a6 ?l6 ?c6 ?k6 ?a7 ?l7 ?c7 ?k7 ?a8 ?l8 ?c8 ?k8 ?a9 ?l9 ?c9 ?k9 ?a10 ?l10 ?c10 ?k10 ?a11 ?l11 ?c11 ?k11 ?a12 ?l12 ?c12 ?k12 ?a13 ?l13 ?c13 ?k13 ?a14 ?l14 ?c14 ?k14 ?a15 ?l15 ?c15 ?k15 ?a16 ?l16 ?c16 ?k16 ?a17 ?l17 ?c17 ?k17 ?a18 ?l18 ?c18 ?k18 ?a19 ?l19 ?c19 ?k19 ?a20 ?l20 ?c20 ?k20 ?a21 ?l21 ?c21 ?k21 ?a22 ?l22 ?c22 ?k22 ?a23 ?l23 ?c23 ?k23 ?a24 ?l24 ?c24 ?k24 ?a25 ?l25 ?c25 ?k25 ?a26 ?l26 ?c26 ?k26 ?a27 ?l27 ?c27 ?k27 ?a28 ?l28 ?c28 ?k28 ?a29 ?l29 ?c29 ?k29 ?a30 ?b30 ?l30 ?c30 ?k30 ?a31 ?b31 ?l31 ?c31 ?k31 ?a32 ?b32 ?l32 ?c32 ?k32 ?a33 ?b33 ?l33 ?c33 ?k33 ?a34 ?b34 ?l34 ?c34 ?k34 ?a35 ?b35 ?l35 ?c35 ?k35 ?a36 ?b36 ?l36 ?c36 ?k36 ?a37 ?l37 ?c37 ?k37 ?a38 ?l38 ?c38 ?k38 ?a39 ?l39 ?c39 ?k39 ?a40 ?l40 ?c40 ?k40 ?a41 ?l41 ?c41 ?k41 ?a42 ?l42 ?c42 ?k42 ?a43 ?l43 ?c43 ?k43 ?a44 ?l44 ?c44 ?k44 ?a45 ?l45 ?c45 ?k45 ?ca52 ?cb52 ?cx52 ?cy52 ?ce52 ?cf52 ?cg52 ?cn52__known ?cn52__page ?cn52_most ?sp ?tp ?tq ?tr ?ea46 ?eb46 ?ec46 ?ed46 ?ee46 ?ef46 ?eg46 ?eh46 ?ei46 ?ej46 ?ea47 ?eb47 ?ec47 ?ed47 ?ee47 ?ef47 ?eg47 ?eh47 ?ei47 ?ej47 ?ea48 ?eb48 ?ec48 ?ed48 ?ee48 ?ef48 ?eg48 ?eh48 ?ei48 ?ej48 ?en47_at ?en48_word ?eu47_47 ?eu48_47 ?xa47 ?xb47 ?xc47 ?xd47 ?xe47 ?xf47 ?xg47 ?xh47 ?xi47 ?xj47 ?xk47 ?xl47 ?xm47 ?xa48 ?xb48 ?xc48 ?xd48 ?xe48 ?xf48 ?xg48 ?xh48 ?xi48 ?xj48 ?xk48 ?xl48 ?xm48 ?z0 ?z1 ?z2 ?z3 ?z4 ?z5 ?z6 ?z7 ?z8 ?z9 ?z10 ?z11 ?u0 ?u1 ?u2 ?u3 ?u4 ?u5 ?al0 ?qr0 ?qb0_0 ?qb0_2
    (case ca52 => k_is); (case cb52 => k_is); (case cx52 => k_is); (case cy52 => k_is); (case ce52 => k_is); (case cf52 => k_is); (case cg52 => k_is); (case cn52__known => k_is); (case cn52__page => k_is); (case cn52_most => k_is); (case a0 => k_is); (case l0 => k_is); (case c0 => k_is); (case k0 => k_is); (case a1 => k_is); (case l1 => k_is); (case c1 => k_is); (case k1 => k_is); (case a2 => k_is); (case l2 => k_is); (case c2 => k_is); (case k2 => k_is); (case a3 => k_is); (case l3 => k_is); (case c3 => k_is); (case k3 => k_is); (case a4 => k_is); (case l4 => k_is); (case c4 => k_is); (case k4 => k_is); (case a5 => k_is); (case l5 => k_is); (case c5 => k_is); (case k5 => k_is); (case a6 => k_is); (case l6 => k_is); (case c6 => k_is); (case k6 => k_is); (case a7 => k_is); (case l7 => k_is); (case c7 => k_is); (case k7 => k_is); (case a8 => k_is); (case l8 => k_is); (case c8 => k_is); (case k8 => k_is); (case a9 => k_is); (case l9 => k_is); (case c9 => k_is); (case k9 => k_is); (case a10 => k_is); (case l10 => k_is); (case c10 => k_is); (case k10 => k_is); (case a11 => k_is); (case l11 => k_is); (case c11 => k_is); (case k11 => k_is); (case a12 => k_is); (case l12 => k_is); (case c12 => k_is); (case k12 => k_is); (case a13 => k_is); (case l13 => k_is); (case c13 => k_is); (case k13 => k_is); (case a14 => k_is); (case l14 => k_is); (case c14 => k_is); (case k14 => k_is); (case a15 => k_is); (case l15 => k_is); (case c15 => k_is); (case k15 => k_is); (case a16 => k_is); (case l16 => k_is); (case c16 => k_is); (case k16 => k_is); (case a17 => k_is); (case l17 => k_is); (case c17 => k_is); (case k17 => k_is); (case a18 => k_is); (case l18 => k_is); (case c18 => k_is); (case k18 => k_is); (case a19 => k_is); (case l19 => k_is); (case c19 => k_is); (case k19 => k_is); (case a20 => k_is); (case l20 => k_is); (case c20 => k_is); (case k20 => k_is); (case a21 => k_is); (case l21 => k_is); (case c21 => k_is); (case k21 => k_is); (case a22 => k_is); (case l22 => k_is); (case c22 => k_is); (case k22 => k_is); (case a23 => k_is); (case l23 => k_is); (case c23 => k_is); (case k23 => k_is); (case a24 => k_is); (case l24 => k_is); (case c24 => k_is); (case k24 => k_is); (case a25 => k_is); (case l25 => k_is); (case c25 => k_is); (case k25 => k_is); (case a26 => k_is); (case l26 => k_is); (case c26 => k_is); (case k26 => k_is); (case a27 => k_is); (case l27 => k_is); (case c27 => k_is); (case k27 => k_is); (case a28 => k_is); (case l28 => k_is); (case c28 => k_is); (case k28 => k_is); (case a29 => k_is); (case l29 => k_is); (case c29 => k_is); (case k29 => k_is); (case a30 => k_is); (case b30 => k_is); (case l30 => k_is); (case c30 => k_is); (case k30 => k_is); (case a31 => k_is); (case b31 => k_is); (case l31 => k_is); (case c31 => k_is); (case k31 => k_is); (case a32 => k_is); (case b32 => k_is); (case l32 => k_is); (case c32 => k_is); (case k32 => k_is); (case a33 => k_is); (case b33 => k_is); (case l33 => k_is); (case c33 => k_is); (case k33 => k_is); (case a34 => k_is); (case b34 => k_is); (case l34 => k_is); (case c34 => k_is); (case k34 => k_is); (case a35 => k_is); (case b35 => k_is); (case l35 => k_is); (case c35 => k_is); (case k35 => k_is); (case a36 => k_is); (case b36 => k_is); (case l36 => k_is); (case c36 => k_is); (case k36 => k_is); (case a37 => k_is); (case l37 => k_is); (case c37 => k_is); (case k37 => k_is); (case a38 => k_is); (case l38 => k_is); (case c38 => k_is); (case k38 => k_is); (case a39 => k_is); (case l39 => k_is); (case c39 => k_is); (case k39 => k_is); (case a40 => k_is); (case l40 => k_is); (case c40 => k_is); (case k40 => k_is); (case a41 => k_is); (case l41 => k_is); (case c41 => k_is); (case k41 => k_is); (case a42 => k_is); (case l42 => k_is); (case c42 => k_is); (case k42 => k_is); (case a43 => k_is); (case l43 => k_is); (case c43 => k_is); (case k43 => k_is); (case a44 => k_is); (case l44 => k_is); (case c44 => k_is); (case k44 => k_is); (case a45 => k_is); (case l45 => k_is); (case c45 => k_is); (case k45 => k_is); (case sp => k_is); (case tp => k_is); (case tq => k_is); (case tr => rfl); (case ea46 => k_is); (case eb46 => k_is); (case ec46 => k_is); (case ed46 => k_is); (case ee46 => k_is); (case ef46 => k_is); (case eg46 => k_is); (case eh46 => k_is); (case ei46 => k_is); (case ej46 => k_is); (case ea47 => k_is); (case eb47 => k_is); (case ec47 => k_is); (case ed47 => k_is); (case ee47 => k_is); (case ef47 => k_is); (case eg47 => k_is); (case eh47 => k_is); (case ei47 => k_is); (case ej47 => k_is); (case ea48 => k_is); (case eb48 => k_is); (case ec48 => k_is); (case ed48 => k_is); (case ee48 => k_is); (case ef48 => k_is); (case eg48 => k_is); (case eh48 => k_is); (case ei48 => k_is); (case ej48 => k_is); (case en47_at => k_is); (case en48_word => k_is); (case eu47_47 => k_is); (case eu48_47 => k_is); (case xa47 => k_is); (case xb47 => first | exact .tail | exact .own .tail | exact .own (.own .tail)); (case xc47 => k_is); (case xd47 => k_is); (case xe47 => k_is); (case xf47 => ks_is); (case xg47 => k_is); (case xh47 => k_is); (case xi47 => k_is); (case xj47 => k_is); (case xk47 => rfl); (case xl47 => first | rfl | decide +kernel); (case xm47 => k_is); (case xa48 => k_is); (case xb48 => first | exact .tail | exact .own .tail | exact .own (.own .tail)); (case xc48 => k_is); (case xd48 => k_is); (case xe48 => k_is); (case xf48 => ks_is); (case xg48 => k_is); (case xh48 => k_is); (case xi48 => k_is); (case xj48 => k_is); (case xk48 => rfl); (case xl48 => first | rfl | decide +kernel); (case xm48 => k_is); (case z0 => k_is); (case z1 => k_is); (case z2 => k_is); (case z3 => k_is); (case z4 => k_is); (case z5 => k_is); (case z6 => k_is); (case z7 => k_is); (case z8 => k_is); (case z9 => k_is); (case z10 => k_is); (case z11 => k_is); (case u0 => k_is); (case u1 => k_is); (case u2 => k_is); (case u3 => k_is); (case u4 => k_is); (case u5 => k_is); (case al0 => k_is); (case qr0 => k_is); (case qb0_0 => k_is); (case qb0_2 => k_is)
