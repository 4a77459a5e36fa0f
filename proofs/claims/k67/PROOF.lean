import PyProof.Rows.All
import HandS.Conv
import HandS.Deep
import HandS.Dict
import HandS.DictComp
import HandS.EndTab
import HandS.ExcField
import HandS.ExcInit
import HandS.ExcIs
import HandS.ExcSuper
import HandS.ForExc
import HandS.ForMost
import HandS.HotCalls
import HandS.IsInst
import HandS.Lambda
import HandS.More
import HandS.Nested
import HandS.NoneIn
import HandS.Remove
import HandS.SetFor
import HandS.Sort
import HandS.SortInts
import HandS.SortRule
import HandS.Strs
import HandS.Style
import HandS.Text
import HandS.TryMany
import HandS.TupAny
import HandS.TupMul
import HandS.TupSets
import HandS.Wide
import HandS.WideBits
import HandS.Zip
import KE.DataCmp
import KE.DataMinMax
import KE.GoesMore
import KE.GoesZip
import KE.KDictPairs
import KE.KExcIs
import KE.KExcSuper
import KE.OsArith
import KE.RegKSuper
import KE.SortData
import OpenK.AllK
import PyProof.EnumMake
import PyProof.MaxThree
import PyProof.StrOps2
import Wide.All
import Wide.FinOn
import PySem.Challenge.RW_spelledways_k67_whole_which_stamps_to_ke
set_option Elab.async false
set_option linter.all false
set_option maxRecDepth 100000
section
set_option maxHeartbeats 2000000
namespace DM
open PySem PySem.Spec PyProof.Rows L2
/-! ### tuples made in this run, known as plain objects -/
abbrev plT (us : List Value) : Obj := { cls := .type "tuple", data := .seq us.toArray }
abbrev plH (us : List Value) (vs : List V) : HO := .frz (plT us) (.tup vs)
theorem plain_ok {P : Program} {w : World} {H : Hp} {h : Heap} {a : Addr} {us : List Value} {vs : List V} (e : h.get? a = some (plT us)) (r : Vals vs us) (z : vs.length ≤ sizeLine) : ObjOk P w H h a (plH us vs) :=
  ⟨e, z, us, r, ⟨_, e, rfl, _, rfl⟩⟩
section
variable {X : Cx} {es : List Expr} {t : TA} {pos : Pos}
def tTupP (t : TA) : TE := fun σ H Q => t σ H fun xs H1 => xs.length ≤ sizeLine ∧ ∀ p us, H1 p = none → Q (.ref p) (upd H1 p (plH us xs))
theorem pe_tupP {x1 : Nat} (h : PA X es t) : PE X (.Tuple es x1 pos) (tTupP t) := by
  refine ⟨fun pins s σ H Q I hq => ?_⟩
  refine wpAny_Tuple_spliced (thn (h.run pos pins s σ H _ I hq) fun us s1 ⟨xs, H1, I1, r, z, q⟩ => ⟨by rw [← r.length]; exact z, ?_⟩)
  exact ⟨.ref s1.heap.objs.size, upd H1 s1.heap.objs.size (plH us xs), I1.laid (t' := s1.toks) (fun b u e => Heap.get?_push_of_some _ e) (Nat.le_refl _) (plain_ok (Heap.get?_push_size _ rfl) r z), rfl, q _ us (I1.hok.fresh (Nat.le_refl _))⟩
theorem tuple_ofP : CallR X (.type "tuple") (fun xs H Q => ∃ p ys, xs = [.ref p] ∧ ((SqL X.K H p ys ∧ ∀ l us, H l = none → Q (.ref l) (upd H l (plH us ys))) ∨ (SqT X.K H p ys ∧ Q (.ref p) H))) := by
  intro pins s σ H xs us Q I r h
  obtain ⟨p, ys, rfl, h⟩ := h
  obtain ⟨u, rfl, rx⟩ := vals1 r
  cases rx
  rcases h with ⟨sq, q⟩ | ⟨sq, q⟩
  · obtain ⟨its, rv, pl, hz⟩ := I.list sq
    have hlen := rv.length
    refine call_tuple_list pl.isList (fun h' kp => ?_) (by simp only [List.size_toArray] <;> omega)
    have I1 : Inv X pins σ H { s with heap := h' } := I.kept (t' := s.toks) kp
    exact ⟨.ref h'.objs.size, _, I1.laid (o := plH its ys) (t' := s.toks) (fun b o e => Heap.get?_push_of_some _ e) (Nat.le_refl _) (plain_ok (Heap.get?_push_size _ rfl) rv hz), rfl, q _ its (I1.hok.fresh (Nat.le_refl _))⟩
  · obtain ⟨its, rv, pl, hz⟩ := I.tuple sq
    exact call_tuple_same pl ⟨.ref p, H, I, rfl, q⟩
/-- t + u -/
def rCatP (K : PySem.W.Frag) : R2 := fun x y H Q => ∃ a b xs ys, x = .ref a ∧ y = .ref b ∧ SqT K H a xs ∧ SqT K H b ys ∧ xs.length + ys.length ≤ sizeLine ∧
  (xs = [] → Q (.ref b) H) ∧ (xs ≠ [] → ys = [] → Q (.ref a) H) ∧ (xs ≠ [] → ys ≠ [] → ∀ p us, H p = none → Q (.ref p) (upd H p (plH us (xs ++ ys))))
theorem op_catP : OpR X (binaryOp .Add) (rCatP X.K) := by
  intro pins s σ H x y v u Q I rx ry h
  obtain ⟨a, b, xs, ys, rfl, rfl, ha, hb, hz, q0, q1, q2⟩ := h
  cases rx
  cases ry
  obtain ⟨its, r1, p1, _⟩ := I.tuple ha
  obtain ⟨its2, r2, p2, _⟩ := I.tuple hb
  by_cases hx : xs = []
  · subst hx
    cases r1
    exact cat_tup0 p1 p2 ⟨.ref b, H, I, rfl, q0 rfl⟩
  · refine HT.cat_tup p1 p2 (fun z => hx (r1.nil_iff.mp z)) (fun z => ⟨.ref a, H, I, rfl, q1 hx (r2.nil_iff.mp z)⟩) (fun z => ?_) (by rw [← r1.length, ← r2.length]; exact hz)
    exact ⟨.ref s.heap.objs.size, _, I.laid (o := plH (its ++ its2) (xs ++ ys)) (t' := s.toks) (fun b ob q => Heap.get?_push_of_some _ q) (Nat.le_refl _) (plain_ok (Heap.get?_push_size _ rfl) (r1.append r2) (by rw [List.length_append]; exact hz)), rfl,
      q2 hx (fun w => z (r2.nil_iff.mpr w)) _ _ (I.hok.fresh (Nat.le_refl _))⟩
/-- t[lo:hi] -/
def rSlP (K : PySem.W.Frag) : V → Option Int → Option Int → Hp → VK → Prop := fun x lo hi H Q => ∃ a xs, x = .ref a ∧ SqT K H a xs ∧
  (HT.sIx xs.length 0 lo = 0 ∧ HT.sIx xs.length xs.length hi = xs.length → Q (.ref a) H) ∧ (¬ (HT.sIx xs.length 0 lo = 0 ∧ HT.sIx xs.length xs.length hi = xs.length) → ∀ p us, H p = none → Q (.ref p) (upd H p (plH us (cutV xs lo hi))))
theorem sl_tupP : SlR X (rSlP X.K) := by
  intro pins s σ H x v vl vu lo hi sl Q I rx hs pl pu h
  obtain ⟨a, xs, rfl, hx, q1, q2⟩ := h
  cases rx
  obtain ⟨its, r, ht, hz⟩ := I.tuple hx
  have hlen : its.toArray.size = xs.length := by rw [List.size_toArray]; exact r.length.symm
  refine ⟨"tuple", _, PyProof.Rows.slot_tuple_getitem.lookup, ht.typeIs, ?_⟩
  by_cases hw : HT.sIx xs.length 0 lo = 0 ∧ HT.sIx xs.length xs.length hi = xs.length
  · exact getItem_tuple_whole ht hs pl pu (by rw [hlen]; exact hw) ⟨.ref a, H, I, rfl, q1 hw⟩
  · refine HT.getItem_tuple_cut ht hs pl pu (by rw [hlen]; exact hw) ?_ (by rw [hlen]; exact hz)
    rw [hlen]
    exact ⟨.ref s.heap.objs.size, _, I.laid (o := plH _ (cutV xs lo hi)) (t' := s.toks) (fun b ob q => Heap.get?_push_of_some _ q) (Nat.le_refl _)
      (plain_ok (Heap.get?_push_size _ rfl) ((r.drop (HT.sIx xs.length 0 lo)).take (HT.sIx xs.length xs.length hi - HT.sIx xs.length 0 lo)) (Nat.le_trans (cutV_length xs lo hi) hz)), rfl, q2 hw _ _ (I.hok.fresh (Nat.le_refl _))⟩
end
end DM
end
section
set_option maxHeartbeats 2000000
namespace DM
open PySem PySem.Spec PyProof.Rows L2

/-- a lambda that captures nothing: its words; key: a number of its own, so that two of them are told apart -/
structure LF where
  key : Nat
  qual : Str
  params : Arguments
  body : Expr
  scope : Scope
abbrev LF.nf (F : LF) (c : Addr) : NdefX.NF := ⟨"<lambda>", F.qual, F.params, [], F.scope, [], c⟩
/-- the object at f is the lambda F, its code at c -/
def LamO (f c : Addr) (F : LF) : HO := .ext fun h => ∃ (pm ctv : Value), h.get? f = some (PySem.W.kla_obj "<lambda>" F.qual F.params F.body F.scope [] pm c ctv)
/-- data: tuples (and lists that nobody changes) by value, changing objects by number; exv: an exception in an except suite's hand; cl: an own class; fnv: a lambda, its code at c, made at the slots σ -/
inductive D where
  | non | bl (b : Bool) | int (i : Int) | str (x : Str) | ty (n : String) | abs (a : Addr) | cl (C : Str)
  | tup (xs : List D) | qtup (xs : List D) | lst (xs : List D) | ref (n : Nat) | exv (a : Addr) (d : Option Addr) (ns : List Str) (ds : List D) | fnv (f c : Addr) (q : Str) (σ : List (Option V)) (ρ : List (Option D)) | fno (F : LF)
/-- a changing object; tab: a code object's table -/
inductive AO where
  | lst (xs : List D) | dk (kvs : List (Key × D)) | dt (kvs : List (List Key × D)) | ins (C : Str) (fs : List (Str × D)) | tab (P : Addr) (q : Str) | fk (od : Obj) (ws : List (Key × V)) (kvs : List (Key × D))
abbrev AH := List AO
/-- C: the class's name -/
inductive Res (α : Type) where
  | ok (a : α) (A : AH) | exc (C : Str) (fs : List (Str × D)) (A : AH) | no
def Res.bind {α β : Type} (r : Res α) (k : α → AH → Res β) : Res β := match r with
  | .ok a A => k a A
  | .exc C fs A => .exc C fs A
  | .no => .no
@[simp] theorem bind_ok {α β : Type} (a : α) (A : AH) (k : α → AH → Res β) : Res.bind (.ok a A) k = k a A := rfl
@[simp] theorem bind_exc {α β : Type} (C : Str) (fs : List (Str × D)) (A : AH) (k : α → AH → Res β) : Res.bind (.exc C fs A) k = .exc C fs A := rfl
@[simp] theorem bind_no {α β : Type} (k : α → AH → Res β) : Res.bind .no k = .no := rfl
abbrev Env := List (Option D)
abbrev ME := Env → AH → Res D
abbrev MT := Env → AH → Res Bool
abbrev MA := Env → AH → Res (List D)
inductive SRes where
  | nx (ρ : Env) (A : AH) | rt (d : D) (A : AH) | bk (ρ : Env) (A : AH) | ct (ρ : Env) (A : AH) | exc (C : Str) (fs : List (Str × D)) (ρ : Env) (A : AH) | no
abbrev MS := Env → AH → SRes

/-! ### what stands for what -/
/-- the class of a name -/
def clsV (K : PySem.W.Frag) (C : Str) : Option Value := (PySem.W.nsIn K mainGlobals C).join
/-- the numbered objects' addresses; those of lists that are being made -/
abbrev Mp := List Addr × List Addr
def Out (m : Mp) (a : Addr) : Prop := a ∉ m.1 ∧ a ∉ m.2
def SqT' (K : PySem.W.Frag) (m : Mp) (H : Hp) (a : Addr) (vs : List V) : Prop :=
  (∃ us, H a = some (plH us vs) ∧ Out m a) ∨ ∃ (o : Obj) (its : Array Value) (n : Nat), K.lookup a = some o ∧ o.cls = .type "tuple" ∧ o.dict = none ∧ o.data = .seq its n ∧ its.size ≤ sizeLine ∧ Vals vs its.toList
def SqL' (K : PySem.W.Frag) (m : Mp) (H : Hp) (a : Addr) (vs : List V) : Prop :=
  (Rd H a (.lst vs) ∧ Out m a) ∨ ∃ (o : Obj) (its : Array Value) (n : Nat), K.lookup a = some o ∧ o.cls = .type "list" ∧ o.dict = none ∧ o.data = .seq its n ∧ its.size ≤ sizeLine ∧ Vals vs its.toList
theorem SqT'.sq {K : PySem.W.Frag} {m : Mp} {H : Hp} {a : Addr} {vs : List V} (h : SqT' K m H a vs) : SqT K H a vs := h.elim (fun ⟨us, x, _⟩ => .inl (.inr ⟨_, x⟩)) fun ⟨o, its, n, a, b, _, c⟩ => .inr ⟨o, its, n, a, b, c⟩
theorem SqL'.sq {K : PySem.W.Frag} {m : Mp} {H : Hp} {a : Addr} {vs : List V} (h : SqL' K m H a vs) : SqL K H a vs := h.elim (fun x => .inl x.1) .inr
mutual
inductive RD (K : PySem.W.Frag) (m : Mp) (H : Hp) : D → V → Prop
  | non : RD K m H .non .non
  | bl (b : Bool) : RD K m H (.bl b) (.bl b)
  | int (i : Int) : RD K m H (.int i) (.int i)
  | str (x : Str) : RD K m H (.str x) (.str x)
  | ty (n : String) : RD K m H (.ty n) (.ty n)
  | abs (a : Addr) : RD K m H (.abs a) (.ref a)
  | cl {C : Str} {a : Addr} : clsV K C = some (.ref a) → RD K m H (.cl C) (.ref a)
  | tup {a : Addr} {vs : List V} {xs : List D} : SqT' K m H a vs → RDs K m H xs vs → RD K m H (.tup xs) (.ref a)
  | qtup {a : Addr} {vs : List V} {xs : List D} : Rd H a (.tup vs) → Out m a → RDs K m H xs vs → RD K m H (.qtup xs) (.ref a)
  | lst {a : Addr} {vs : List V} {xs : List D} : SqL' K m H a vs → RDs K m H xs vs → RD K m H (.lst xs) (.ref a)
  | ref {n : Nat} {a : Addr} : m.1[n]? = some a → RD K m H (.ref n) (.ref a)
  | exv0 (a : Addr) : RD K m H (.exv a none [] []) (.ref a)
  | exv1 {a dd : Addr} {gs : List (Str × V)} {ns : List Str} {ds : List D} : H dd = some (.xd gs) → Out m dd → ns = gs.map (·.1) → RDs K m H ds (gs.map (·.2)) → RD K m H (.exv a (some dd) ns ds) (.ref a)
  | fnv {f c : Addr} {q : Str} {σ : List (Option V)} {ρ : List (Option D)} : H c = some (LamX.CodeO c q) → Out m c → RDo K m H ρ σ → RD K m H (.fnv f c q σ ρ) (.ref f)
  | fno {f c : Addr} {F : LF} : H f = some (LamO f c F) → Out m f → H c = some (LamX.CodeO c F.qual) → Out m c → RD K m H (.fno F) (.ref f)
inductive RDo (K : PySem.W.Frag) (m : Mp) (H : Hp) : List (Option D) → List (Option V) → Prop
  | nil : RDo K m H [] []
  | none {ρ : List (Option D)} {x : Option V} {σ : List (Option V)} : RDo K m H ρ σ → RDo K m H (none :: ρ) (x :: σ)
  | some {d : D} {v : V} {ρ : List (Option D)} {σ : List (Option V)} : RD K m H d v → RDo K m H ρ σ → RDo K m H (some d :: ρ) (some v :: σ)
inductive RDs (K : PySem.W.Frag) (m : Mp) (H : Hp) : List D → List V → Prop
  | nil : RDs K m H [] []
  | cons {x : D} {xs : List D} {v : V} {vs : List V} : RD K m H x v → RDs K m H xs vs → RDs K m H (x :: xs) (v :: vs)
end
/-- carried over: the numbers stay, what is in nobody's hand stays -/
theorem sqT_move {K : PySem.W.Frag} {m m' : Mp} {H H' : Hp} (ho : ∀ a o, H a = some o → Out m a → H' a = some o ∧ Out m' a) {a : Addr} {vs : List V} (h : SqT' K m H a vs) : SqT' K m' H' a vs := by
  rcases h with ⟨us, r, hn⟩ | h
  · exact .inl ⟨us, (ho _ _ r hn).1, (ho _ _ r hn).2⟩
  · exact .inr h
theorem qt_move {m m' : Mp} {H H' : Hp} (ho : ∀ a o, H a = some o → Out m a → H' a = some o ∧ Out m' a) {a : Addr} {vs : List V} (r : Rd H a (.tup vs)) (hn : Out m a) : Rd H' a (.tup vs) ∧ Out m' a := by
  rcases r with r | ⟨o, r⟩
  · exact ⟨.inl (ho _ _ r hn).1, (ho _ _ r hn).2⟩
  · exact ⟨.inr ⟨o, (ho _ _ r hn).1⟩, (ho _ _ r hn).2⟩
theorem sqL_move {K : PySem.W.Frag} {m m' : Mp} {H H' : Hp} (ho : ∀ a o, H a = some o → Out m a → H' a = some o ∧ Out m' a) {a : Addr} {vs : List V} (h : SqL' K m H a vs) : SqL' K m' H' a vs := by
  rcases h with ⟨r, hn⟩ | h
  · refine .inl ?_
    rcases r with r | ⟨o, r⟩
    · exact ⟨.inl (ho _ _ r hn).1, (ho _ _ r hn).2⟩
    · exact ⟨.inr ⟨o, (ho _ _ r hn).1⟩, (ho _ _ r hn).2⟩
  · exact .inr h
/-! no number of n or more is named -/
mutual
def clo (n : Nat) : D → Prop
  | .ref i => i < n
  | .tup xs => clos n xs
  | .qtup xs => clos n xs
  | .lst xs => clos n xs
  | .exv _ _ _ ds => clos n ds
  | .fnv _ _ _ _ ρ => cloo n ρ
  | .fno _ => True
  | .non => True
  | .bl _ => True
  | .int _ => True
  | .str _ => True
  | .ty _ => True
  | .abs _ => True
  | .cl _ => True
def cloo (n : Nat) : List (Option D) → Prop
  | [] => True
  | none :: ρ => cloo n ρ
  | some d :: ρ => clo n d ∧ cloo n ρ
def clos (n : Nat) : List D → Prop
  | [] => True
  | d :: ds => clo n d ∧ clos n ds
end
mutual
theorem RD.moveN {K : PySem.W.Frag} {m m' : Mp} {H H' : Hp} {n : Nat} (hr : ∀ (i : Nat) (a : Addr), i < n → m.1[i]? = some a → m'.1[i]? = some a) (ho : ∀ a o, H a = some o → Out m a → H' a = some o ∧ Out m' a) : ∀ (d : D) (v : V), clo n d → RD K m H d v → RD K m' H' d v
  | .non, _, _, h => by cases h; exact .non
  | .bl b, _, _, h => by cases h; exact .bl b
  | .int i, _, _, h => by cases h; exact .int i
  | .str x, _, _, h => by cases h; exact .str x
  | .ty x, _, _, h => by cases h; exact .ty x
  | .abs x, _, _, h => by cases h; exact .abs x
  | .cl x, _, _, h => by cases h with | cl h => exact .cl h
  | .ref n, _, c, h => by cases h with | ref h => exact .ref (hr _ _ c h)
  | .tup xs, _, c, h => by cases h with | tup h r => exact .tup (sqT_move ho h) (RDs.moveN hr ho xs _ c r)
  | .qtup xs, _, c, h => by cases h with | qtup h n r => exact .qtup (qt_move ho h n).1 (qt_move ho h n).2 (RDs.moveN hr ho xs _ c r)
  | .lst xs, _, c, h => by cases h with | lst h r => exact .lst (sqL_move ho h) (RDs.moveN hr ho xs _ c r)
  | .exv a d ns ds, _, c, h => by
    cases h with
    | exv0 => exact .exv0 a
    | exv1 h1 h2 h3 r => exact .exv1 (ho _ _ h1 h2).1 (ho _ _ h1 h2).2 h3 (RDs.moveN hr ho ds _ c r)
  | .fnv f a q σ ρ, _, c, h => by cases h with | fnv h1 h2 r => exact .fnv (ho _ _ h1 h2).1 (ho _ _ h1 h2).2 (RDo.moveN hr ho ρ _ c r)
  | .fno F, _, c, h => by cases h with | fno h1 h2 h3 h4 => exact .fno (ho _ _ h1 h2).1 (ho _ _ h1 h2).2 (ho _ _ h3 h4).1 (ho _ _ h3 h4).2
theorem RDo.moveN {K : PySem.W.Frag} {m m' : Mp} {H H' : Hp} {n : Nat} (hr : ∀ (i : Nat) (a : Addr), i < n → m.1[i]? = some a → m'.1[i]? = some a) (ho : ∀ a o, H a = some o → Out m a → H' a = some o ∧ Out m' a) : ∀ (ρ : List (Option D)) (σ : List (Option V)), cloo n ρ → RDo K m H ρ σ → RDo K m' H' ρ σ
  | [], _, _, h => by cases h; exact .nil
  | none :: ρ, _, c, h => by cases h with | none h => exact .none (RDo.moveN hr ho ρ _ c h)
  | some d :: ρ, _, c, h => by cases h with | some h r => exact .some (RD.moveN hr ho d _ c.1 h) (RDo.moveN hr ho ρ _ c.2 r)
theorem RDs.moveN {K : PySem.W.Frag} {m m' : Mp} {H H' : Hp} {n : Nat} (hr : ∀ (i : Nat) (a : Addr), i < n → m.1[i]? = some a → m'.1[i]? = some a) (ho : ∀ a o, H a = some o → Out m a → H' a = some o ∧ Out m' a) : ∀ (ds : List D) (vs : List V), clos n ds → RDs K m H ds vs → RDs K m' H' ds vs
  | [], _, _, h => by cases h; exact .nil
  | d :: ds, _, c, h => by cases h with | cons h r => exact .cons (RD.moveN hr ho d _ c.1 h) (RDs.moveN hr ho ds _ c.2 r)
end
mutual
theorem RD.clo {K : PySem.W.Frag} {m : Mp} {H : Hp} : ∀ (d : D) (v : V), RD K m H d v → DM.clo m.1.length d
  | .non, _, _ => trivial
  | .bl b, _, _ => trivial
  | .int b, _, _ => trivial
  | .str b, _, _ => trivial
  | .ty b, _, _ => trivial
  | .abs b, _, _ => trivial
  | .cl b, _, _ => trivial
  | .ref n, _, h => by cases h with | ref h => exact (List.getElem?_eq_some_iff.mp h).1
  | .tup xs, _, h => by cases h with | tup s r => exact RDs.clos xs _ r
  | .qtup xs, _, h => by cases h with | qtup s n r => exact RDs.clos xs _ r
  | .lst xs, _, h => by cases h with | lst s r => exact RDs.clos xs _ r
  | .exv a d ns ds, _, h => by
    cases h with
    | exv0 => trivial
    | exv1 _ _ _ r => exact RDs.clos ds _ r
  | .fnv f a q σ ρ, _, h => by cases h with | fnv _ _ r => exact RDo.cloo ρ _ r
  | .fno _, _, _ => trivial
theorem RDo.cloo {K : PySem.W.Frag} {m : Mp} {H : Hp} : ∀ (ρ : List (Option D)) (σ : List (Option V)), RDo K m H ρ σ → DM.cloo m.1.length ρ
  | [], _, _ => trivial
  | none :: ρ, _, h => by cases h with | none h => exact RDo.cloo ρ _ h
  | some d :: ρ, _, h => by cases h with | some h r => exact ⟨RD.clo d _ h, RDo.cloo ρ _ r⟩
theorem RDs.clos {K : PySem.W.Frag} {m : Mp} {H : Hp} : ∀ (ds : List D) (vs : List V), RDs K m H ds vs → DM.clos m.1.length ds
  | [], _, _ => trivial
  | d :: ds, _, h => by cases h with | cons h r => exact ⟨RD.clo d _ h, RDs.clos ds _ r⟩
end
/-- as above, all numbers -/
theorem RD.move {K : PySem.W.Frag} {m m' : Mp} {H H' : Hp} (hr : ∀ (i : Nat) (a : Addr), m.1[i]? = some a → m'.1[i]? = some a) (ho : ∀ a o, H a = some o → Out m a → H' a = some o ∧ Out m' a) (d : D) (v : V) (h : RD K m H d v) : RD K m' H' d v :=
  RD.moveN (n := m.1.length) (fun i a _ => hr i a) ho d v (RD.clo d v h) h
theorem RDs.move {K : PySem.W.Frag} {m m' : Mp} {H H' : Hp} (hr : ∀ (i : Nat) (a : Addr), m.1[i]? = some a → m'.1[i]? = some a) (ho : ∀ a o, H a = some o → Out m a → H' a = some o ∧ Out m' a) (d : List D) (v : List V) (h : RDs K m H d v) : RDs K m' H' d v :=
  RDs.moveN (n := m.1.length) (fun i a _ => hr i a) ho d v (RDs.clos d v h) h
structure Ext (m : Mp) (H : Hp) (m' : Mp) (H' : Hp) : Prop where
  pre : ∃ l, m'.1 = m.1 ++ l
  sub : ∀ p ∈ m.2, p ∈ m'.2
  pvs : ∀ p ∈ m'.2, p ∈ m.2 ∨ p ∈ m.1 ∨ H p = none
  new : ∀ p ∈ m'.1, p ∈ m.1 ∨ H p = none
  keep : ∀ p o, H p = some o → p ∉ m.1 → H' p = some o
theorem Ext.refl (m : Mp) (H : Hp) : Ext m H m H := ⟨⟨[], (List.append_nil m.1).symm⟩, fun _ h => h, fun _ h => .inl h, fun _ h => .inl h, fun _ _ h _ => h⟩
theorem Ext.none {m m1 : Mp} {H H1 : Hp} (a : Ext m H m1 H1) {p : Addr} (hm : p ∉ m.1) (z : H1 p = none) : H p = none := by
  cases q : H p with
  | none => rfl
  | some o =>
    have := a.keep p o q hm
    rw [z] at this; cases this
theorem Ext.trans {m m1 m2 : Mp} {H H1 H2 : Hp} (a : Ext m H m1 H1) (b : Ext m1 H1 m2 H2) : Ext m H m2 H2 := by
  have out : ∀ p o, H p = some o → p ∉ m.1 → p ∉ m1.1 := fun p o h hn hm => by
    rcases a.new p hm with z | z
    · exact hn z
    · rw [z] at h; cases h
  refine ⟨?_, fun p h => b.sub p (a.sub p h), fun p hp => ?_, fun p hp => ?_, fun p o h hn => b.keep p o (a.keep p o h hn) (out p o h hn)⟩
  · obtain ⟨l, h1⟩ := a.pre
    obtain ⟨l2, h2⟩ := b.pre
    exact ⟨l ++ l2, by rw [h2, h1, List.append_assoc]⟩
  · by_cases hm : p ∈ m.1
    · exact .inr (.inl hm)
    · rcases b.pvs p hp with z | z | z
      · exact a.pvs p z
      · rcases a.new p z with y | y
        · exact .inr (.inl y)
        · exact .inr (.inr y)
      · exact .inr (.inr (a.none hm z))
  · by_cases hm : p ∈ m.1
    · exact .inl hm
    · rcases b.new p hp with z | z
      · exact a.new p z
      · exact .inr (a.none hm z)
theorem Ext.get {m m' : Mp} {H H' : Hp} (e : Ext m H m' H') {n : Nat} {a : Addr} (h : m.1[n]? = some a) : m'.1[n]? = some a := by
  obtain ⟨l, h0⟩ := e.pre
  obtain ⟨h1, h2⟩ := List.getElem?_eq_some_iff.mp h
  rw [h0, List.getElem?_append_left h1]; exact h
theorem Ext.out {m m' : Mp} {H H' : Hp} (e : Ext m H m' H') {a : Addr} {o : HO} (q : H a = some o) (hn : Out m a) : H' a = some o ∧ Out m' a := by
  refine ⟨e.keep a o q hn.1, fun hm => ?_, fun hm => ?_⟩
  · rcases e.new a hm with z | z
    · exact hn.1 z
    · rw [z] at q; cases q
  · rcases e.pvs a hm with z | z | z
    · exact hn.2 z
    · exact hn.1 z
    · rw [z] at q; cases q
theorem RD.mono {K : PySem.W.Frag} {m m' : Mp} {H H' : Hp} (e : Ext m H m' H') (d : D) (v : V) (h : RD K m H d v) : RD K m' H' d v := RD.move (fun _ _ => e.get) (fun _ _ => e.out) d v h
theorem RDs.mono {K : PySem.W.Frag} {m m' : Mp} {H H' : Hp} (e : Ext m H m' H') (d : List D) (v : List V) (h : RDs K m H d v) : RDs K m' H' d v := RDs.move (fun _ _ => e.get) (fun _ _ => e.out) d v h
theorem RDs.length {K : PySem.W.Frag} {m : Mp} {H : Hp} : ∀ {ds : List D} {vs : List V}, RDs K m H ds vs → ds.length = vs.length
  | [], _, h => by cases h; rfl
  | d :: ds, _, h => by cases h with | cons h r => rw [List.length_cons, List.length_cons, RDs.length r]
theorem RDs.get {K : PySem.W.Frag} {m : Mp} {H : Hp} : ∀ {ds : List D} {vs : List V} {i : Nat} {d : D}, RDs K m H ds vs → ds[i]? = some d → ∃ v, vs[i]? = some v ∧ RD K m H d v
  | [], _, _, _, _, e => by simp at e
  | d :: ds, _, 0, x, h, e => by cases h with | cons h r => (simp at e; subst e; exact ⟨_, rfl, h⟩)
  | d :: ds, _, i + 1, x, h, e => by
    cases h with
    | cons h r =>
      obtain ⟨v, h1, h2⟩ := RDs.get (i := i) (d := x) r (by simpa using e)
      exact ⟨v, by simpa using h1, h2⟩
theorem RDs.append {K : PySem.W.Frag} {m : Mp} {H : Hp} : ∀ {ds es : List D} {vs ws : List V}, RDs K m H ds vs → RDs K m H es ws → RDs K m H (ds ++ es) (vs ++ ws)
  | [], _, _, _, h, q => by cases h; exact q
  | d :: ds, _, _, _, h, q => by cases h with | cons h r => exact .cons h (RDs.append r q)
theorem RDs.take {K : PySem.W.Frag} {m : Mp} {H : Hp} : ∀ {ds : List D} {vs : List V} (n : Nat), RDs K m H ds vs → RDs K m H (ds.take n) (vs.take n)
  | _, _, 0, _ => by simp; exact .nil
  | [], _, n + 1, h => by cases h; exact .nil
  | d :: ds, _, n + 1, h => by cases h with | cons h r => exact .cons h (RDs.take n r)
theorem RDs.drop {K : PySem.W.Frag} {m : Mp} {H : Hp} : ∀ {ds : List D} {vs : List V} (n : Nat), RDs K m H ds vs → RDs K m H (ds.drop n) (vs.drop n)
  | _, _, 0, h => h
  | [], _, n + 1, h => by cases h; exact .nil
  | d :: ds, _, n + 1, h => by cases h with | cons h r => exact RDs.drop n r
theorem RDs.set {K : PySem.W.Frag} {m : Mp} {H : Hp} {d : D} {v : V} (q : RD K m H d v) : ∀ {ds : List D} {vs : List V} (n : Nat), RDs K m H ds vs → RDs K m H (ds.set n d) (vs.set n v)
  | [], _, n, h => by cases h; exact .nil
  | _ :: ds, _, 0, h => by cases h with | cons h r => exact .cons q r
  | _ :: ds, _, n + 1, h => by cases h with | cons h r => exact .cons h (RDs.set q n r)


def RFs (K : PySem.W.Frag) (m : Mp) (H : Hp) (fs : List (Str × D)) (gs : List (Str × V)) : Prop := fs.map (·.1) = gs.map (·.1) ∧ RDs K m H (fs.map (·.2)) (gs.map (·.2))
/-- the values of a changing object -/
def AO.vals : AO → List D
  | .lst xs => xs
  | .dk kvs => kvs.map (·.2)
  | .dt kvs => kvs.map (·.2)
  | .ins _ fs => fs.map (·.2)
  | .tab _ _ => []
  | .fk _ _ kvs => kvs.map (·.2)
/-- the table at P: each code object that it tells bears the name q -/
def TabR (m : Mp) (H : Hp) (P : Addr) (q : Str) : Prop := ∃ ps : Array Value, H P = some (.tbl ps) ∧ TriplesOk ps.toList ∧ ∀ (pos : Pos) (cv : Value), codeAmong pos ps.toList = some cv → ∃ c, cv = .ref c ∧ H c = some (LamX.CodeO c q) ∧ Out m c
def ObjR (K : PySem.W.Frag) (m : Mp) (H : Hp) : AO → Addr → Prop
  | .lst xs, a => ∃ vs, H a = some (.lst vs) ∧ RDs K m H xs vs
  | .dk kvs, a => ∃ ws : List (Key × V), (H a = some (.dK ws) ∧ kvs.map (·.1) = ws.map (·.1)) ∧ RDs K m H (kvs.map (·.2)) (ws.map (·.2))
  | .dt kvs, a => ∃ ws : List (List Key × V), (H a = some (.dT ws) ∧ kvs.map (·.1) = ws.map (·.1)) ∧ RDs K m H (kvs.map (·.2)) (ws.map (·.2))
  | .ins C fs, a => ∃ gs : List (Str × V), (∃ c dx, clsV K C = some (.ref c) ∧ H a = some (.ins c dx gs) ∧ H dx = some (.own a) ∧ Out m dx ∧ fs.map (·.1) = gs.map (·.1)) ∧ RDs K m H (fs.map (·.2)) (gs.map (·.2))
  | .tab P q, a => a = P ∧ TabR m H P q
  | .fk od ws kvs, a => (H a = some (.frz od (.dK ws)) ∧ kvs.map (·.1) = ws.map (·.1)) ∧ RDs K m H (kvs.map (·.2)) (ws.map (·.2))
/-- its shape is carried over where its object is the same, its values where they are -/
theorem ObjR.moveN {K : PySem.W.Frag} {m m' : Mp} {H H' : Hp} {n : Nat} (hr : ∀ (i : Nat) (a : Addr), i < n → m.1[i]? = some a → m'.1[i]? = some a) (ho : ∀ a o, H a = some o → Out m a → H' a = some o ∧ Out m' a) {o : AO} {q : Addr} (hq : H' q = H q) (c : clos n o.vals) (h : ObjR K m H o q) : ObjR K m' H' o q := by
  cases o with
  | lst xs => obtain ⟨vs, e1, r⟩ := h; exact ⟨vs, hq.trans e1, RDs.moveN hr ho _ _ c r⟩
  | dk kvs => obtain ⟨vs, ⟨e1, e2⟩, r⟩ := h; exact ⟨vs, ⟨hq.trans e1, e2⟩, RDs.moveN hr ho _ _ c r⟩
  | dt kvs => obtain ⟨vs, ⟨e1, e2⟩, r⟩ := h; exact ⟨vs, ⟨hq.trans e1, e2⟩, RDs.moveN hr ho _ _ c r⟩
  | ins C fs =>
    obtain ⟨gs, ⟨cc, dx, e0, e1, e2, e3, e4⟩, r⟩ := h
    exact ⟨gs, ⟨cc, dx, e0, hq.trans e1, (ho _ _ e2 e3).1, (ho _ _ e2 e3).2, e4⟩, RDs.moveN hr ho _ _ c r⟩
  | fk od ws kvs => obtain ⟨⟨e1, e2⟩, r⟩ := h; exact ⟨⟨hq.trans e1, e2⟩, RDs.moveN hr ho _ _ c r⟩
  | tab P q =>
    obtain ⟨rfl, ps, e1, e2, e3⟩ := h
    refine ⟨rfl, ps, hq.trans e1, e2, fun pos cv hc => ?_⟩
    obtain ⟨c', f1, f2, f3⟩ := e3 pos cv hc
    exact ⟨c', f1, (ho _ _ f2 f3).1, (ho _ _ f2 f3).2⟩
theorem ObjR.clos {K : PySem.W.Frag} {m : Mp} {H : Hp} {o : AO} {q : Addr} (h : ObjR K m H o q) : DM.clos m.1.length o.vals := by
  cases o with
  | lst xs => obtain ⟨vs, e1, r⟩ := h; exact RDs.clos _ _ r
  | dk kvs => obtain ⟨vs, e1, r⟩ := h; exact RDs.clos _ _ r
  | dt kvs => obtain ⟨vs, e1, r⟩ := h; exact RDs.clos _ _ r
  | ins C fs => obtain ⟨vs, e1, r⟩ := h; exact RDs.clos _ _ r
  | tab P q => trivial
  | fk od ws kvs => exact RDs.clos _ _ h.2
theorem ObjR.move {K : PySem.W.Frag} {m m' : Mp} {H H' : Hp} (hr : ∀ (i : Nat) (a : Addr), m.1[i]? = some a → m'.1[i]? = some a) (ho : ∀ a o, H a = some o → Out m a → H' a = some o ∧ Out m' a) {o : AO} {q : Addr} (hq : H' q = H q) (h : ObjR K m H o q) : ObjR K m' H' o q :=
  ObjR.moveN (n := m.1.length) (fun i a _ => hr i a) ho hq h.clos h
theorem ObjR.held {K : PySem.W.Frag} {m : Mp} {H : Hp} {o : AO} {q : Addr} (h : ObjR K m H o q) : H q ≠ none := by
  cases o with
  | lst xs => obtain ⟨vs, e, _⟩ := h; rw [e]; exact fun z => nomatch z
  | dk xs => obtain ⟨vs, ⟨e, _⟩, _⟩ := h; rw [e]; exact fun z => nomatch z
  | dt xs => obtain ⟨vs, ⟨e, _⟩, _⟩ := h; rw [e]; exact fun z => nomatch z
  | ins C fs => obtain ⟨gs, ⟨c, dx, _, e, _⟩, _⟩ := h; rw [e]; exact fun z => nomatch z
  | tab P q => obtain ⟨rfl, ps, e, _⟩ := h; rw [e]; exact fun z => nomatch z
  | fk od ws kvs => obtain ⟨⟨e, _⟩, _⟩ := h; rw [e]; exact fun z => nomatch z
structure Rel (K : PySem.W.Frag) (m : Mp) (A : AH) (H : Hp) : Prop where
  len : m.1.length = A.length
  nd : m.1.Nodup
  pv : ∀ p ∈ m.2, H p ≠ none
  obj : ∀ (n : Nat) (o : AO), A[n]? = some o → ∃ a, m.1[n]? = some a ∧ ObjR K m H o a
/-- slots -/
def REnv (K : PySem.W.Frag) (m : Mp) (H : Hp) (ρ : Env) (σ : L2.St) : Prop := ρ.length = σ.length ∧ ∀ (i : Nat) (d : D), ρ[i]? = some (some d) → ∃ v, σ[i]? = some (some v) ∧ RD K m H d v
theorem REnv.mono {K : PySem.W.Frag} {m m' : Mp} {H H' : Hp} {ρ : Env} {σ : L2.St} (e : Ext m H m' H') (h : REnv K m H ρ σ) : REnv K m' H' ρ σ :=
  ⟨h.1, fun i d q => let ⟨v, h1, h2⟩ := h.2 i d q; ⟨v, h1, RD.mono e _ _ h2⟩⟩
theorem REnv.set {K : PySem.W.Frag} {m : Mp} {H : Hp} {ρ : Env} {σ : L2.St} {d : D} {v : V} (h : REnv K m H ρ σ) (r : RD K m H d v) (i : Nat) : REnv K m H (ρ.set i (some d)) (σ.set i (some v)) := by
  refine ⟨by rw [List.length_set, List.length_set]; exact h.1, fun j e q => ?_⟩
  by_cases hj : i = j
  · subst hj
    by_cases hl : i < ρ.length
    · rw [List.getElem?_set_self hl] at q
      cases q
      exact ⟨v, List.getElem?_set_self (by rw [← h.1]; exact hl), r⟩
    · rw [List.getElem?_eq_none (by simpa using hl)] at q; cases q
  · rw [List.getElem?_set_ne hj] at q ⊢
    exact h.2 j e q
theorem REnv.unset {K : PySem.W.Frag} {m : Mp} {H : Hp} {ρ : Env} {σ : L2.St} (h : REnv K m H ρ σ) (i : Nat) (x : Option V) : REnv K m H (ρ.set i none) (σ.set i x) := by
  refine ⟨by rw [List.length_set, List.length_set]; exact h.1, fun j e q => ?_⟩
  by_cases hj : i = j
  · subst hj
    by_cases hl : i < ρ.length
    · rw [List.getElem?_set_self hl] at q; cases q
    · rw [List.getElem?_eq_none (by simpa using hl)] at q; cases q
  · rw [List.getElem?_set_ne hj] at q ⊢
    exact h.2 j e q

theorem RDo.env {K : PySem.W.Frag} {m : Mp} {H : Hp} : ∀ {ρ : Env} {σ : L2.St}, RDo K m H ρ σ → REnv K m H ρ σ
  | [], _, h => by cases h; exact ⟨rfl, fun i d e => by simp at e⟩
  | Option.none :: ρ, _, h => by
    cases h with
    | none h =>
      have r := RDo.env h
      refine ⟨by simp [r.1], fun i d e => ?_⟩
      cases i with
      | zero => simp at e
      | succ i => simpa using r.2 i d (by simpa using e)
  | Option.some x :: ρ, _, h => by
    cases h with
    | some q h =>
      have r := RDo.env h
      refine ⟨by simp [r.1], fun i d e => ?_⟩
      cases i with
      | zero => simp at e; subst e; exact ⟨_, by simp, q⟩
      | succ i => simpa using r.2 i d (by simpa using e)

/-! ### what follows -/
/-- an exception's dict -/
def ExcAt (K : PySem.W.Frag) (m : Mp) (H : Hp) (fs : List (Str × D)) (d : Option Addr) : Prop := match d with
  | some dx => fs ≠ [] ∧ ∃ gs, H dx = some (.xd gs) ∧ Out m dx ∧ RFs K m H fs gs
  | none => fs = []
def Post {α β : Type} (K : PySem.W.Frag) (R : Mp → Hp → α → β → Prop) (W : WX) (σ : L2.St) (m : Mp) (H : Hp) (r : Res α) (Q : β → Hp → Prop) : Prop := match r with
  | .ok d A' => ∀ m' H' v, Ext m H m' H' → Rel K m' A' H' → R m' H' d v → Q v H'
  | .exc C fs A' => ∀ m' H' c dx, Ext m H m' H' → Rel K m' A' H' → clsV K C = some c → ExcAt K m' H' fs dx → W c dx σ H'
  | .no => False
def PostS (K : PySem.W.Frag) (W : WX) (m : Mp) (H : Hp) (r : SRes) (D : Ends) : Prop := match r with
  | .nx ρ A' => ∀ m' H' σ', Ext m H m' H' → Rel K m' A' H' → REnv K m' H' ρ σ' → D.nx σ' H'
  | .bk ρ A' => ∀ m' H' σ', Ext m H m' H' → Rel K m' A' H' → REnv K m' H' ρ σ' → D.bk σ' H'
  | .ct ρ A' => ∀ m' H' σ', Ext m H m' H' → Rel K m' A' H' → REnv K m' H' ρ σ' → D.ct σ' H'
  | .rt d A' => ∀ m' H' v, Ext m H m' H' → Rel K m' A' H' → RD K m' H' d v → D.rt v H'
  | .exc C fs ρ A' => ∀ m' H' c dx σ', Ext m H m' H' → Rel K m' A' H' → REnv K m' H' ρ σ' → clsV K C = some c → ExcAt K m' H' fs dx → W c dx σ' H'
  | .no => False
section
variable {K : PySem.W.Frag} {W : WX} {σ : L2.St} {m m' m1 : Mp} {H H' H1 : Hp} {α β γ δ : Type}
theorem Post.mono {R : Mp → Hp → α → β → Prop} {r : Res α} {Q : β → Hp → Prop} (e : Ext m H m1 H1) (h : Post K R W σ m H r Q) : Post K R W σ m1 H1 r Q := by
  cases r with
  | ok d A' => exact fun m' H' v e' => h m' H' v (e.trans e')
  | exc C fs A' => exact fun m' H' c dx e' => h m' H' c dx (e.trans e')
  | no => exact h
theorem PostS.mono {r : SRes} {D : Ends} (e : Ext m H m1 H1) (h : PostS K W m H r D) : PostS K W m1 H1 r D := by
  cases r with
  | nx ρ A' => exact fun m' H' v e' => h m' H' v (e.trans e')
  | bk ρ A' => exact fun m' H' v e' => h m' H' v (e.trans e')
  | ct ρ A' => exact fun m' H' v e' => h m' H' v (e.trans e')
  | rt d A' => exact fun m' H' v e' => h m' H' v (e.trans e')
  | exc C fs ρ A' => exact fun m' H' c dx σ' e' => h m' H' c dx σ' (e.trans e')
  | no => exact h
theorem Post.imp {R : Mp → Hp → α → β → Prop} {r : Res α} {Q Q' : β → Hp → Prop} (h : Post K R W σ m H r Q) (q : ∀ v H', Q v H' → Q' v H') : Post K R W σ m H r Q' := by
  cases r with
  | ok d A' => exact fun m' H' v e R' r' => q _ _ (h m' H' v e R' r')
  | exc C fs A' => exact h
  | no => exact h
theorem Post.bind {R : Mp → Hp → α → β → Prop} {R2 : Mp → Hp → γ → δ → Prop} {r : Res α} {k : α → AH → Res γ} {Q : δ → Hp → Prop} (h : Post K R2 W σ m H (r.bind k) Q) :
    Post K R W σ m H r fun v H1 => ∃ m1 A1 d, Ext m H m1 H1 ∧ Rel K m1 A1 H1 ∧ R m1 H1 d v ∧ Post K R2 W σ m1 H1 (k d A1) Q := by
  cases r with
  | ok d A' => exact fun m' H' v e R' r' => ⟨m', A', d, e, R', r', Post.mono e h⟩
  | exc C fs A' => exact h
  | no => exact h
end

/-! ### judgements -/
def tE (K : PySem.W.Frag) (W : WX) (me : ME) : TE := fun σ H Q => ∃ m A ρ, Rel K m A H ∧ REnv K m H ρ σ ∧ Post K (RD K) W σ m H (me ρ A) Q
def tT (K : PySem.W.Frag) (W : WX) (me : MT) : TT := fun σ H Q => ∃ m A ρ, Rel K m A H ∧ REnv K m H ρ σ ∧ Post K (fun _ _ a b => a = b) W σ m H (me ρ A) Q
def tA (K : PySem.W.Frag) (W : WX) (me : MA) : TA := fun σ H Q => ∃ m A ρ, Rel K m A H ∧ REnv K m H ρ σ ∧ Post K (RDs K) W σ m H (me ρ A) Q
def tS (K : PySem.W.Frag) (W : WX) (ms : MS) : TS := fun D σ H => ∃ m A ρ, Rel K m A H ∧ REnv K m H ρ σ ∧ PostS K W m H (ms ρ A) D
abbrev DE (X : Cx) (W : WX) (e : Expr) (me : ME) : Prop := PE X e (tE X.K W me)
abbrev DT (X : Cx) (W : WX) (e : Expr) (me : MT) : Prop := PT X e (tT X.K W me)
abbrev DW (X : Cx) (W : WX) (e : Expr) (me : MT) : Prop := PW X e (tT X.K W me)
abbrev DA (X : Cx) (W : WX) (es : List Expr) (me : MA) : Prop := PA X es (tA X.K W me)
abbrev DS (X : Cx) (W : WX) (st : Stmt) (ms : MS) : Prop := PS X st (tS X.K W ms)
abbrev DSs (X : Cx) (W : WX) (st : List Stmt) (ms : MS) : Prop := PSs X st (tS X.K W ms)
theorem PEi {X : Cx} {e : Expr} {t t' : TE} (h : PE X e t) (q : ∀ σ H Q, t' σ H Q → t σ H Q) : PE X e t' := ⟨fun pins s σ H Q I w => h.run pins s σ H Q I (q σ H Q w)⟩
theorem PTi {X : Cx} {e : Expr} {t t' : TT} (h : PT X e t) (q : ∀ σ H Q, t' σ H Q → t σ H Q) : PT X e t' := ⟨fun pins s σ H Q I w => h.run pins s σ H Q I (q σ H Q w)⟩
theorem PWi {X : Cx} {e : Expr} {t t' : TT} (h : PW X e t) (q : ∀ σ H Q, t' σ H Q → t σ H Q) : PW X e t' := ⟨fun wh pins s σ H Q I w => h.run wh pins s σ H Q I (q σ H Q w)⟩
theorem PAi {X : Cx} {e : List Expr} {t t' : TA} (h : PA X e t) (q : ∀ σ H Q, t' σ H Q → t σ H Q) : PA X e t' := ⟨fun pos pins s σ H Q I w => h.run pos pins s σ H Q I (q σ H Q w)⟩
theorem PSi {X : Cx} {e : Stmt} {t t' : TS} (h : PS X e t) (q : ∀ D σ H, t' D σ H → t D σ H) : PS X e t' := ⟨fun pins s σ H D I w => h.run pins s σ H D I (q D σ H w)⟩
theorem PSsi {X : Cx} {e : List Stmt} {t t' : TS} (h : PSs X e t) (q : ∀ D σ H, t' D σ H → t D σ H) : PSs X e t' := ⟨fun pins s σ H D I w => h.run pins s σ H D I (q D σ H w)⟩

section
variable {K : PySem.W.Frag} {W : WX} {σ : L2.St} {m : Mp} {A : AH} {ρ : Env} {H : Hp} {α β γ : Type}
/-- first an expression, then k -/
theorem tE.bind {R2 : Mp → Hp → γ → β → Prop} {me : ME} {k : D → AH → Res γ} {Q : β → Hp → Prop} {T : V → Hp → Prop} (R : Rel K m A H) (E : REnv K m H ρ σ) (h : Post K R2 W σ m H ((me ρ A).bind k) Q)
    (q : ∀ m1 A1 d v H1, Ext m H m1 H1 → Rel K m1 A1 H1 → REnv K m1 H1 ρ σ → RD K m1 H1 d v → Post K R2 W σ m1 H1 (k d A1) Q → T v H1) : tE K W me σ H T :=
  ⟨m, A, ρ, R, E, Post.imp (Post.bind h) fun v H1 ⟨m1, A1, d, e, R1, r, p⟩ => q m1 A1 d v H1 e R1 (E.mono e) r p⟩
theorem tT.bind {R2 : Mp → Hp → γ → β → Prop} {me : MT} {k : Bool → AH → Res γ} {Q : β → Hp → Prop} {T : Bool → Hp → Prop} (R : Rel K m A H) (E : REnv K m H ρ σ) (h : Post K R2 W σ m H ((me ρ A).bind k) Q)
    (q : ∀ m1 A1 b H1, Ext m H m1 H1 → Rel K m1 A1 H1 → REnv K m1 H1 ρ σ → Post K R2 W σ m1 H1 (k b A1) Q → T b H1) : tT K W me σ H T :=
  ⟨m, A, ρ, R, E, Post.imp (Post.bind (R := fun _ _ a b => a = b) h) fun v H1 ⟨m1, A1, d, e, R1, r, p⟩ => by subst r; exact q m1 A1 _ H1 e R1 (E.mono e) p⟩
theorem tA.bind {R2 : Mp → Hp → γ → β → Prop} {me : MA} {k : List D → AH → Res γ} {Q : β → Hp → Prop} {T : List V → Hp → Prop} (R : Rel K m A H) (E : REnv K m H ρ σ) (h : Post K R2 W σ m H ((me ρ A).bind k) Q)
    (q : ∀ m1 A1 ds vs H1, Ext m H m1 H1 → Rel K m1 A1 H1 → REnv K m1 H1 ρ σ → RDs K m1 H1 ds vs → Post K R2 W σ m1 H1 (k ds A1) Q → T vs H1) : tA K W me σ H T :=
  ⟨m, A, ρ, R, E, Post.imp (Post.bind h) fun v H1 ⟨m1, A1, d, e, R1, r, p⟩ => q m1 A1 d v H1 e R1 (E.mono e) r p⟩
/-- the end: a value, nothing changed -/
theorem Post.here {R : Mp → Hp → α → β → Prop} {d : α} {v : β} {Q : β → Hp → Prop} (R1 : Rel K m A H) (r : R m H d v) (h : Post K R W σ m H (.ok d A) Q) : Q v H := h m H v (Ext.refl m H) R1 r
end
end DM
end
section
set_option maxHeartbeats 2000000
namespace DM
open PySem PySem.Spec PyProof.Rows L2
section
variable {X : Cx} {W : WX} {a b c e : Expr} {es : List Expr} {ma mb mc me : ME} {pos p : Pos}
/-! ### names, constants -/
def mVar (i : Nat) : ME := fun ρ A => match ρ[i]? with | some (some d) => .ok d A | _ => .no
def mK (d : D) : ME := fun _ A => .ok d A
theorem d_var (i : Nat) {x : Str} (hN : X.N[i]? = some x := by rfl) (hv : Vis X.env.scope x := by first | exact Or.inl rfl | exact Or.inr (Or.inl rfl) | exact Or.inr (Or.inr rfl)) (hd : (x == ("__debug__" : Str)) = false := by decide)
    (hcd : (x == ("__classdict__" : Str)) = false := by decide) : DE X W (.Name x pos) (mVar i) := PEi (pe_var hN hv hd hcd) fun σ H Q ⟨m, A, ρ, R, E, h⟩ => by
  unfold mVar at h
  split at h
  · rename_i d hd
    obtain ⟨v, h1, h2⟩ := E.2 i d hd
    exact ⟨v, h1, Post.here R h2 h⟩
  · exact h.elim
theorem d_int {i : Int} {j : Nat} : DE X W (.Constant (.int i) j pos) (mK (.int i)) := PEi pe_int fun σ H Q ⟨m, A, ρ, R, E, h⟩ => Post.here R (.int i) h
theorem d_bl {i : Bool} {j : Nat} : DE X W (.Constant (.bool i) j pos) (mK (.bl i)) := PEi pe_bl fun σ H Q ⟨m, A, ρ, R, E, h⟩ => Post.here R (.bl i) h
theorem d_non {j : Nat} : DE X W (.Constant .none j pos) (mK .non) := PEi pe_non fun σ H Q ⟨m, A, ρ, R, E, h⟩ => Post.here R .non h
theorem d_str {i : Str} {j : Nat} : DE X W (.Constant (.str i) j pos) (mK (.str i)) := PEi pe_str fun σ H Q ⟨m, A, ρ, R, E, h⟩ => Post.here R (.str i) h
/-! ### two-place operations -/
def OpD (K : PySem.W.Frag) (f : D → D → AH → Res D) (r : R2) : Prop :=
  ∀ (W : WX) (σ : L2.St) (m : Mp) (A : AH) (H : Hp) (x y : V) (d e : D) (Q : VK), Rel K m A H → RD K m H d x → RD K m H e y → Post K (RD K) W σ m H (f d e A) Q → r x y H Q
def mOp (f : D → D → AH → Res D) (ma mb : ME) : ME := fun ρ A => (ma ρ A).bind fun x A1 => (mb ρ A1).bind fun y A2 => f x y A2
theorem tOpD {K : PySem.W.Frag} {f : D → D → AH → Res D} {r : R2} (hf : OpD K f r) {σ : L2.St} {H : Hp} {Q : VK} (h : tE K W (mOp f ma mb) σ H Q) : tOp r (tE K W ma) (tE K W mb) σ H Q := by
  obtain ⟨m, A, ρ, R, E, h⟩ := h
  exact tE.bind R E h fun m1 A1 d v H1 e1 R1 E1 r1 h1 => tE.bind R1 E1 h1 fun m2 A2 d2 v2 H2 e2 R2 E2 r2 h2 => hf W σ m2 A2 H2 v v2 d d2 Q R2 (RD.mono e2 _ _ r1) r2 h2
theorem d_op {op : Operator} {f : D → D → AH → Res D} {r : R2} (ho : OpR X (binaryOp op) r) (hf : OpD X.K f r) (ha : DE X W a ma) (hb : DE X W b mb) : DE X W (.BinOp a op b pos) (mOp f ma mb) :=
  PEi (pe_op ho ha hb) fun _ _ _ h => tOpD hf h
/-- ints in -/
def fI (C : Int → Int → Prop) [∀ i j, Decidable (C i j)] (g : Int → Int → D) : D → D → AH → Res D := fun d e A => match d, e with
  | .int i, .int j => if C i j then .ok (g i j) A else .no
  | _, _ => .no
theorem fI_ok {K : PySem.W.Frag} {C C' : Int → Int → Prop} [∀ i j, Decidable (C i j)] {g : Int → Int → D} {g' : Int → Int → V} (hC : ∀ i j, C i j → C' i j) (hg : ∀ m H i j, RD K m H (g i j) (g' i j)) : OpD K (fI C g) (rI C' g') := by
  intro W σ m A H x y d e Q R hx hy h
  unfold fI at h
  split at h
  · rename_i i j
    cases hx; cases hy
    split at h
    · rename_i hc
      exact ⟨i, j, rfl, rfl, hC i j hc, Post.here R (hg m H i j) h⟩
    · exact h.elim
  · exact h.elim
def fI0 (g : Int → Int → D) : D → D → AH → Res D := fun d e A => match d, e with
  | .int i, .int j => .ok (g i j) A
  | _, _ => .no
theorem fI0_ok {K : PySem.W.Frag} {g : Int → Int → D} {g' : Int → Int → V} (hg : ∀ m H i j, RD K m H (g i j) (g' i j)) : OpD K (fI0 g) (rI0 g') := by
  intro W σ m A H x y d e Q R hx hy h
  unfold fI0 at h
  split at h
  · rename_i i j
    cases hx; cases hy
    exact ⟨i, j, rfl, rfl, Post.here R (hg m H i j) h⟩
  · exact h.elim
instance (i j : Int) : Decidable (CMul i j) := by unfold CMul; infer_instance
instance (i j : Int) : Decidable (CPow i j) := by unfold CPow; infer_instance
instance (i j : Int) : Decidable (CDiv i j) := by unfold CDiv; infer_instance
instance (i j : Int) : Decidable (CDivW i j) := by unfold CDivW; infer_instance
theorem cdw_of {i j : Int} (h : CDiv i j) : CDivW i j := wide_div (b := 30) h.1 (by have := h.1; have := h.2; omega) (by decide) (by decide)
theorem cdw_big {i j : Int} (h0 : 0 < j) (h1 : j < 1180591620717411303424) : CDivW i j := wide_div (b := 70) h0 (by omega) (by decide) (by decide)
def fSub : D → D → AH → Res D := fI0 fun i j => .int (i - j)
def fDiv : D → D → AH → Res D := fI CDivW fun i j => .int (i / j)
def fMod : D → D → AH → Res D := fI (fun _ j => 0 < j) fun i j => .int (i % j)
def fPow : D → D → AH → Res D := fI CPow fun i j => .int (i ^ j.toNat)
def fShr : D → D → AH → Res D := fI (fun _ j => 0 ≤ j) fun i j => .int (i / 2 ^ j.toNat)
def fShl : D → D → AH → Res D := fI CPow fun i j => .int (i * 2 ^ j.toNat)
def fAnd : D → D → AH → Res D := fI0 fun i j => .int (Builtin.bitAnd i j)
theorem d_sub (ha : DE X W a ma) (hb : DE X W b mb) : DE X W (.BinOp a .Sub b pos) (mOp fSub ma mb) := d_op op_sub (fI0_ok fun _ _ _ _ => .int _) ha hb
theorem d_div (ha : DE X W a ma) (hb : DE X W b mb) : DE X W (.BinOp a .FloorDiv b pos) (mOp fDiv ma mb) := d_op op_fdivW (fI_ok (fun _ _ h => h) fun _ _ _ _ => .int _) ha hb
theorem d_mod (ha : DE X W a ma) (hb : DE X W b mb) : DE X W (.BinOp a .Mod b pos) (mOp fMod ma mb) := d_op op_mod (fI_ok (fun _ _ h => h) fun _ _ _ _ => .int _) ha hb
theorem d_pow (ha : DE X W a ma) (hb : DE X W b mb) : DE X W (.BinOp a .Pow b pos) (mOp fPow ma mb) := d_op op_pow (fI_ok (fun _ _ h => h) fun _ _ _ _ => .int _) ha hb
theorem d_shr (ha : DE X W a ma) (hb : DE X W b mb) : DE X W (.BinOp a .RShift b pos) (mOp fShr ma mb) := d_op op_shr (fI_ok (fun _ _ h => h) fun _ _ _ _ => .int _) ha hb
theorem d_shl (ha : DE X W a ma) (hb : DE X W b mb) : DE X W (.BinOp a .LShift b pos) (mOp fShl ma mb) := d_op op_shl (fI_ok (fun _ _ h => h) fun _ _ _ _ => .int _) ha hb
theorem d_and (ha : DE X W a ma) (hb : DE X W b mb) : DE X W (.BinOp a .BitAnd b pos) (mOp fAnd ma mb) := d_op op_and (fI0_ok fun _ _ _ _ => .int _) ha hb

/-! ### a new object that is a value -/
theorem Rel.there {K : PySem.W.Frag} {m : Mp} {A : AH} {H : Hp} (R : Rel K m A H) {q : Addr} (hq : q ∈ m.1) : ∃ (n : Nat) (o : AO), m.1[n]? = some q ∧ A[n]? = some o ∧ ObjR K m H o q := by
  obtain ⟨n, hn, e⟩ := List.mem_iff_getElem.mp hq
  have hA : A[n]? = some (A[n]'(by rw [← R.len]; exact hn)) := List.getElem?_eq_getElem _
  obtain ⟨a, h1, h2⟩ := R.obj n _ hA
  have h0 : m.1[n]? = some q := by rw [List.getElem?_eq_getElem hn, e]
  rw [h0] at h1; cases h1
  exact ⟨n, _, h0, hA, h2⟩
theorem ObjR.keep {K : PySem.W.Frag} {m m' : Mp} {H H' : Hp} (e : Ext m H m' H') {o : AO} {q : Addr} (hq : H' q = H q) (h : ObjR K m H o q) : ObjR K m' H' o q := ObjR.move (fun _ _ => e.get) (fun _ _ => e.out) hq h
theorem Rel.out {K : PySem.W.Frag} {m : Mp} {A : AH} {H : Hp} (R : Rel K m A H) {q : Addr} (h : H q = none) : Out m q := ⟨fun hq => by
  obtain ⟨n, o, _, _, r⟩ := R.there hq
  exact r.held h, fun hq => R.pv q hq h⟩
theorem held_keep {H H' : Hp} (k : ∀ p o, H p = some o → H' p = some o) {q : Addr} (h : H q ≠ none) : H' q ≠ none := by
  cases z : H q with
  | none => exact absurd z h
  | some u => rw [k q u z]; exact fun y => nomatch y
/-- the numbered objects as they were, something else new -/
theorem Rel.beside {K : PySem.W.Frag} {m : Mp} {A : AH} {H H' : Hp} (R : Rel K m A H) (k : ∀ p o, H p = some o → H' p = some o) : Rel K m A H' ∧ Ext m H m H' := by
  have e : Ext m H m H' := ⟨⟨[], (List.append_nil m.1).symm⟩, fun _ h => h, fun _ h => .inl h, fun _ h => .inl h, fun p o h _ => k p o h⟩
  refine ⟨⟨R.len, R.nd, fun p hp => held_keep k (R.pv p hp), fun n o hn => ?_⟩, e⟩
  obtain ⟨q, h1, h2⟩ := R.obj n o hn
  refine ⟨q, h1, h2.keep e ?_⟩
  cases z : H q with
  | none => exact absurd z h2.held
  | some u => exact k q u z
theorem Rel.new {K : PySem.W.Frag} {m : Mp} {A : AH} {H : Hp} (R : Rel K m A H) {q : Addr} (h : H q = none) (o : HO) : Rel K m A (upd H q o) ∧ Ext m H m (upd H q o) :=
  R.beside fun p u z => by rw [upd_ne (ne_of_none z h)]; exact z
/-- one of them changed -/
theorem Rel.write {K : PySem.W.Frag} {m : Mp} {A : AH} {H H' : Hp} (R : Rel K m A H) {n : Nat} {q : Addr} {o : AO} (hn : m.1[n]? = some q) (k : ∀ p u, p ≠ q → H p = some u → H' p = some u) (ho : Ext m H m H' → ObjR K m H' o q) : Rel K m (A.set n o) H' ∧ Ext m H m H' := by
  have hm : q ∈ m.1 := List.mem_of_getElem? hn
  have e : Ext m H m H' := ⟨⟨[], (List.append_nil m.1).symm⟩, fun _ h => h, fun _ h => .inl h, fun _ h => .inl h, fun p u h hp => k p u (fun z => hp (by rw [z]; exact hm)) h⟩
  refine ⟨⟨by rw [List.length_set]; exact R.len, R.nd, fun p hp z => ?_, fun j u hj => ?_⟩, e⟩
  · by_cases hpq : p = q
    · subst hpq
      exact (ho e).held z
    · cases y : H p with
      | none => exact R.pv p hp y
      | some u => rw [k p u hpq y] at z; cases z
  · by_cases hjn : n = j
    · subst hjn
      have hl : n < A.length := by rw [← R.len]; exact (List.getElem?_eq_some_iff.mp hn).1
      rw [List.getElem?_set_self hl] at hj; cases hj
      exact ⟨q, hn, ho e⟩
    · rw [List.getElem?_set_ne hjn] at hj
      obtain ⟨p, h1, h2⟩ := R.obj j u hj
      refine ⟨p, h1, h2.keep e ?_⟩
      have hpq : p ≠ q := fun z => by
        subst z
        obtain ⟨l1, e1⟩ := List.getElem?_eq_some_iff.mp h1
        obtain ⟨l2, e2⟩ := List.getElem?_eq_some_iff.mp hn
        exact hjn ((List.getElem_inj R.nd).mp (e2.trans e1.symm))
      cases z : H p with
      | none => exact absurd z h2.held
      | some w => exact k p w hpq z
/-- a new one -/
theorem Rel.push {K : PySem.W.Frag} {m : Mp} {A : AH} {H H' : Hp} (R : Rel K m A H) {q : Addr} {o : AO} (h : H q = none) (k : ∀ p u, H p = some u → H' p = some u) (ho : Ext m H (m.1 ++ [q], m.2) H' → ObjR K (m.1 ++ [q], m.2) H' o q) : Rel K (m.1 ++ [q], m.2) (A ++ [o]) H' ∧ Ext m H (m.1 ++ [q], m.2) H' := by
  have e : Ext m H (m.1 ++ [q], m.2) H' := ⟨⟨[q], rfl⟩, fun _ h => h, fun _ h => .inl h, fun p hp => (List.mem_append.mp hp).elim .inl fun z => .inr (by rw [List.mem_singleton.mp z]; exact h), fun p u z _ => k p u z⟩
  refine ⟨⟨by rw [List.length_append, List.length_append, R.len]; rfl, List.nodup_append.mpr ⟨R.nd, by simp, fun x hx y hy z => (R.out h).1 (by rw [← List.mem_singleton.mp hy, ← z]; exact hx)⟩, fun p hp => held_keep k (R.pv p hp), fun n u hn => ?_⟩, e⟩
  by_cases hl : n < A.length
  · rw [List.getElem?_append_left hl] at hn
    obtain ⟨p, h1, h2⟩ := R.obj n u hn
    refine ⟨p, e.get h1, h2.keep e ?_⟩
    cases z : H p with
    | none => exact absurd z h2.held
    | some w => exact k p w z
  · rw [List.getElem?_append_right (by omega)] at hn
    have h0 : n - A.length = 0 := by
      have := (List.getElem?_eq_some_iff.mp hn).1
      simp at this; omega
    rw [h0] at hn
    cases hn
    refine ⟨q, ?_, ho e⟩
    show (m.1 ++ [q])[n]? = some q
    rw [List.getElem?_append_right (by rw [R.len]; omega), R.len, h0]; rfl
theorem tup_new {K : PySem.W.Frag} {m : Mp} {A : AH} {H : Hp} {σ : L2.St} {ds : List D} {vs : List V} {Q : VK} (R : Rel K m A H) (r : RDs K m H ds vs) (h : Post K (RD K) W σ m H (.ok (.tup ds) A) Q) : ∀ p us, H p = none → Q (.ref p) (upd H p (plH us vs)) := fun p us hp =>
  let ⟨R1, e1⟩ := R.new hp (plH us vs)
  h m _ _ e1 R1 (.tup (.inl ⟨us, upd_same, R.out hp⟩) (RDs.mono e1 _ _ r))
theorem lst_new {K : PySem.W.Frag} {m : Mp} {A : AH} {H : Hp} {σ : L2.St} {ds : List D} {vs : List V} {Q : VK} (R : Rel K m A H) (r : RDs K m H ds vs) (h : Post K (RD K) W σ m H (.ok (.lst ds) A) Q) : ∀ p, H p = none → Q (.ref p) (upd H p (.lst vs)) := fun p hp =>
  let ⟨R1, e1⟩ := R.new hp (.lst vs)
  h m _ _ e1 R1 (.lst (.inl ⟨.inl upd_same, R.out hp⟩) (RDs.mono e1 _ _ r))
theorem ref_new {K : PySem.W.Frag} {m : Mp} {A : AH} {H : Hp} {σ : L2.St} {ds : List D} {vs : List V} {Q : VK} (R : Rel K m A H) (r : RDs K m H ds vs) (h : Post K (RD K) W σ m H (.ok (.ref A.length) (A ++ [.lst ds])) Q) : ∀ p, H p = none → Q (.ref p) (upd H p (.lst vs)) := fun p hp =>
  let ⟨R1, e1⟩ := R.push (H' := upd H p (.lst vs)) (o := .lst ds) hp (fun q u z => by rw [upd_ne (ne_of_none z hp)]; exact z) fun e => ⟨vs, upd_same, RDs.mono e _ _ r⟩
  h _ _ _ e1 R1 (.ref (by rw [← R.len]; simp))
/-! ### a + b -/
def fAdd : D → D → AH → Res D := fun d e A => match d, e with
  | .int i, .int j => .ok (.int (i + j)) A
  | .str x, .str y => if x.length + y.length ≤ 16777216 then .ok (.str (x ++ y)) A else .no
  | .tup xs, .tup ys => if xs.length + ys.length ≤ 16777216 then .ok (.tup (xs ++ ys)) A else .no
  | .lst xs, .lst ys => if xs.length + ys.length ≤ 16777216 then .ok (.lst (xs ++ ys)) A else .no
  | _, _ => .no
def rCatL (K : PySem.W.Frag) : R2 := fun x y H Q => ∃ l b xs zs, x = .ref l ∧ y = .ref b ∧ SqL K H l xs ∧ SqL K H b zs ∧ xs.length + zs.length ≤ sizeLine ∧ ∀ p, H p = none → Q (.ref p) (upd H p (.lst (xs ++ zs)))
theorem fAdd_ok {K : PySem.W.Frag} : OpD K fAdd (fun x y H Q => rI0 (fun i j => .int (i + j)) x y H Q ∨ (∃ i j, x = .str i ∧ y = .str j ∧ i.length + j.length ≤ sizeLine ∧ Q (.str (i ++ j)) H) ∨ rCatP K x y H Q ∨ rCatL K x y H Q) := by
  intro W σ m A H x y d e Q R hx hy h
  have sz : (sizeLine : Nat) = 16777216 := sizeLine_eq
  unfold fAdd at h
  split at h
  · rename_i i j
    cases hx; cases hy
    exact .inl ⟨i, j, rfl, rfl, Post.here R (.int _) h⟩
  · rename_i i j
    cases hx; cases hy
    split at h
    · rename_i hz
      exact .inr (.inl ⟨i, j, rfl, rfl, by rw [sz]; exact hz, Post.here R (.str _) h⟩)
    · exact h.elim
  · rename_i xs ys
    cases hx with
    | tup sx rx =>
      cases hy with
      | tup sy ry =>
        rename_i a vs b ws
        split at h
        · rename_i hz
          refine .inr (.inr (.inl ⟨a, b, vs, ws, rfl, rfl, sx.sq, sy.sq, by rw [sz, ← rx.length, ← ry.length]; exact hz, fun e0 => ?_, fun _ e0 => ?_, fun _ _ => tup_new R (rx.append ry) h⟩))
          · subst e0
            cases rx
            exact Post.here R (.tup sy ry) h
          · subst e0
            cases ry
            rw [List.append_nil] at h
            exact Post.here R (.tup sx rx) h
        · exact h.elim
  · rename_i xs ys
    cases hx with
    | lst sx rx =>
      cases hy with
      | lst sy ry =>
        rename_i a vs b ws
        split at h
        · rename_i hz
          exact .inr (.inr (.inr ⟨a, b, vs, ws, rfl, rfl, sx.sq, sy.sq, by rw [sz, ← rx.length, ← ry.length]; exact hz, lst_new R (rx.append ry) h⟩))
        · exact h.elim
  · exact h.elim
/-- two lists that are read, joined -/
theorem op_catL : OpR X (binaryOp .Add) (rCatL X.K) := by
  intro pins s σ H x y v u Q I rx ry h
  obtain ⟨l, b, xs, zs, rfl, rfl, hx, hz, hl, q⟩ := h
  cases rx; cases ry
  obtain ⟨i1, r1, ⟨o1, n1, g1, c1, d1, t1⟩, l1⟩ := I.list hx
  obtain ⟨i2, r2, ⟨o2, n2, g2, c2, d2, t2⟩, l2⟩ := I.list hz
  obtain ⟨oc1, od1, ot1, os1⟩ := o1
  obtain ⟨oc2, od2, ot2, os2⟩ := o2
  simp only at c1 d1 t1 c2 d2 t2
  subst c1 d1 t1 c2 d2 t2
  have e1 := r1.length
  have e2 := r2.length
  refine concat_meets ⟨_, g1, rfl⟩ ⟨_, g2, rfl⟩ noFill_list_add seq_list_add PySem.F.slot_list_add PySem.F.entry_list_add (PySem.F.args_list_add_2 _ _)
    (list_addW l b i1.toArray i2.toArray n1 n2 none none os1 os2 (by rw [List.size_toArray, List.size_toArray]; omega)) ⟨g1, g2, ?_⟩
  rw [show i1.toArray ++ i2.toArray = (i1 ++ i2).toArray by simp]
  exact ⟨.ref _, _, I.lnew (t' := s.toks) (r1.append r2) (by rw [List.length_append]; omega), rfl, q _ I.fresh⟩
end
end DM
end
section
set_option maxHeartbeats 2000000
namespace DM
open PySem PySem.Spec PyProof.Rows L2
/-! ### plain data -/
mutual
def toPy : D → Option PyData
  | .non => some .none
  | .bl b => some (.bool b)
  | .int i => some (.int i)
  | .str x => some (.str x)
  | .tup xs => (toPys xs).map .tuple
  | .qtup xs => (toPys xs).map .tuple
  | .lst xs => (toPys xs).map .list
  | .ty _ => none
  | .abs _ => none
  | .cl _ => none
  | .ref _ => none
  | .exv _ _ _ _ => none
  | .fnv _ _ _ _ _ => none
  | .fno _ => none
def toPys : List D → Option (List PyData)
  | [] => some []
  | x :: xs => match toPy x, toPys xs with
    | some d, some ds => some (d :: ds)
    | _, _ => none
end
mutual
def toPyG (g : Nat → Option PyData) : D → Option PyData
  | .non => some .none
  | .bl b => some (.bool b)
  | .int i => some (.int i)
  | .str x => some (.str x)
  | .tup xs => (toPysG g xs).map .tuple
  | .qtup xs => (toPysG g xs).map .tuple
  | .lst xs => (toPysG g xs).map .list
  | .ty _ => none
  | .abs _ => none
  | .cl _ => none
  | .ref n => g n
  | .exv _ _ _ _ => none
  | .fnv _ _ _ _ _ => none
  | .fno _ => none
def toPysG (g : Nat → Option PyData) : List D → Option (List PyData)
  | [] => some []
  | x :: xs => match toPyG g x, toPysG g xs with
    | some d, some ds => some (d :: ds)
    | _, _ => none
end
/-- changing lists, within one another k deep -/
def refPy (A : AH) : Nat → Nat → Option PyData
  | 0, _ => none
  | k + 1, n => match A[n]? with
    | some (.lst xs) => (toPysG (refPy A k) xs).map .list
    | _ => none
def toPyA (A : AH) (d : D) : Option PyData := match toPy d with
  | some p => some p
  | none => toPyG (refPy A 3) d
mutual
theorem RD.dp {K : PySem.W.Frag} {m : Mp} {H : Hp} : ∀ (d : D) (v : V) (p : PyData), RD K m H d v → toPy d = some p → Dp K H v p
  | .non, _, _, h, e => by cases h; cases e; exact .non
  | .bl b, _, _, h, e => by cases h; cases e; exact .bl b
  | .int b, _, _, h, e => by cases h; cases e; exact .int b
  | .str b, _, _, h, e => by cases h; cases e; exact .str b
  | .tup xs, _, _, h, e => by
    cases h with
    | tup s r =>
      simp only [toPy, Option.map_eq_some_iff] at e
      obtain ⟨ds, e1, rfl⟩ := e
      exact .tup s.sq (RDs.dp xs _ ds r e1)
  | .qtup xs, _, _, h, e => by
    cases h with
    | qtup s n r =>
      simp only [toPy, Option.map_eq_some_iff] at e
      obtain ⟨ds, e1, rfl⟩ := e
      exact .tup (.inl s) (RDs.dp xs _ ds r e1)
  | .lst xs, _, _, h, e => by
    cases h with
    | lst s r =>
      simp only [toPy, Option.map_eq_some_iff] at e
      obtain ⟨ds, e1, rfl⟩ := e
      exact .lst s.sq (RDs.dp xs _ ds r e1)
  | .ty _, _, _, _, e => by cases e
  | .abs _, _, _, _, e => by cases e
  | .cl _, _, _, _, e => by cases e
  | .ref _, _, _, _, e => by cases e
  | .exv _ _ _ _, _, _, _, e => by cases e
  | .fnv _ _ _ _ _, _, _, _, e => by cases e
  | .fno _, _, _, _, e => by cases e
theorem RDs.dp {K : PySem.W.Frag} {m : Mp} {H : Hp} : ∀ (ds : List D) (vs : List V) (ps : List PyData), RDs K m H ds vs → toPys ds = some ps → DpAll K H vs ps
  | [], _, _, h, e => by cases h; cases e; exact .nil
  | d :: ds, _, _, h, e => by
    cases h with
    | cons h r =>
      unfold toPys at e
      split at e
      · rename_i p ps e1 e2
        cases e
        exact .cons (RD.dp d _ p h e1) (RDs.dp ds _ ps r e2)
      · cases e
end
mutual
theorem RD.dpG {K : PySem.W.Frag} {m : Mp} {H : Hp} {g : Nat → Option PyData} (hg : ∀ n a p, m.1[n]? = some a → g n = some p → Dp K H (.ref a) p) : ∀ (d : D) (v : V) (p : PyData), RD K m H d v → toPyG g d = some p → Dp K H v p
  | .non, _, _, h, e => by cases h; cases e; exact .non
  | .bl b, _, _, h, e => by cases h; cases e; exact .bl b
  | .int b, _, _, h, e => by cases h; cases e; exact .int b
  | .str b, _, _, h, e => by cases h; cases e; exact .str b
  | .tup xs, _, _, h, e => by
    cases h with
    | tup s r =>
      simp only [toPyG, Option.map_eq_some_iff] at e
      obtain ⟨ds, e1, rfl⟩ := e
      exact .tup s.sq (RDs.dpG hg xs _ ds r e1)
  | .qtup xs, _, _, h, e => by
    cases h with
    | qtup s n r =>
      simp only [toPyG, Option.map_eq_some_iff] at e
      obtain ⟨ds, e1, rfl⟩ := e
      exact .tup (.inl s) (RDs.dpG hg xs _ ds r e1)
  | .lst xs, _, _, h, e => by
    cases h with
    | lst s r =>
      simp only [toPyG, Option.map_eq_some_iff] at e
      obtain ⟨ds, e1, rfl⟩ := e
      exact .lst s.sq (RDs.dpG hg xs _ ds r e1)
  | .ty _, _, _, _, e => by cases e
  | .abs _, _, _, _, e => by cases e
  | .cl _, _, _, _, e => by cases e
  | .ref n, _, _, h, e => by cases h with | ref hm => exact hg n _ _ hm e
  | .exv _ _ _ _, _, _, _, e => by cases e
  | .fnv _ _ _ _ _, _, _, _, e => by cases e
  | .fno _, _, _, _, e => by cases e
theorem RDs.dpG {K : PySem.W.Frag} {m : Mp} {H : Hp} {g : Nat → Option PyData} (hg : ∀ n a p, m.1[n]? = some a → g n = some p → Dp K H (.ref a) p) : ∀ (ds : List D) (vs : List V) (ps : List PyData), RDs K m H ds vs → toPysG g ds = some ps → DpAll K H vs ps
  | [], _, _, h, e => by cases h; cases e; exact .nil
  | d :: ds, _, _, h, e => by
    cases h with
    | cons h r =>
      unfold toPysG at e
      split at e
      · rename_i p ps e1 e2
        cases e
        exact .cons (RD.dpG hg d _ p h e1) (RDs.dpG hg ds _ ps r e2)
      · cases e
end
theorem refPy_ok {K : PySem.W.Frag} {m : Mp} {A : AH} {H : Hp} (R : Rel K m A H) : ∀ (k n : Nat) (a : Addr) (p : PyData), m.1[n]? = some a → refPy A k n = some p → Dp K H (.ref a) p
  | 0, _, _, _, _, e => by cases e
  | k + 1, n, a, p, hm, e => by
    unfold refPy at e
    split at e
    · rename_i xs hA
      obtain ⟨q, h1, vs, h2, r⟩ := R.obj n _ hA
      rw [hm] at h1; cases h1
      simp only [Option.map_eq_some_iff] at e
      obtain ⟨ds, e1, rfl⟩ := e
      exact .lst (.inl (.inl h2)) (RDs.dpG (refPy_ok R k) xs _ ds r e1)
    · cases e
theorem RD.dpA {K : PySem.W.Frag} {m : Mp} {A : AH} {H : Hp} {d : D} {v : V} {p : PyData} (R : Rel K m A H) (h : RD K m H d v) (e : toPyA A d = some p) : Dp K H v p := by
  unfold toPyA at e
  split at e
  · rename_i q hq
    cases e
    exact RD.dp _ _ _ h hq
  · exact RD.dpG (refPy_ok R 3) _ _ _ h e

section
variable {X : Cx} {W : WX} {a b c e : Expr} {es : List Expr} {ma mb mc me : ME} {mt mu : MT} {ms : MA} {pos p : Pos}
/-! ### comparisons -/
/-- == -/
def cEq (A : AH) (d e : D) : Option Bool := match d, e with
  | .int i, .int j => some (decide (i = j))
  | .str x, .str y => some (decide (x = y))
  | .bl x, .bl y => some (decide (x = y))
  | d, e => match toPyA A d, toPyA A e with
    | some p, some q => if SeqAt.shaped p = true ∧ SeqAt.shaped q = true then some (PyData.eqv p q) else none
    | _, _ => none
def fEq (neg : Bool) : D → D → AH → Res D := fun d e A => match cEq A d e with
  | some k => .ok (.bl (if neg then !k else k)) A
  | none => .no
theorem cEq_ok {K : PySem.W.Frag} {m : Mp} {A : AH} {H : Hp} {x y : V} {d e : D} {k : Bool} (R : Rel K m A H) (hx : RD K m H d x) (hy : RD K m H e y) (h : cEq A d e = some k) :
    (scal x y = true ∧ k = decide (x = y)) ∨ ∃ p q, Dp K H x p ∧ Dp K H y q ∧ SeqAt.shaped p = true ∧ SeqAt.shaped q = true ∧ k = PyData.eqv p q := by
  unfold cEq at h
  split at h
  · cases hx; cases hy
    cases h
    refine .inl ⟨rfl, ?_⟩
    simp
  · cases hx; cases hy
    cases h
    refine .inl ⟨rfl, ?_⟩
    simp
  · cases hx; cases hy
    cases h
    refine .inl ⟨rfl, ?_⟩
    simp
  · split at h
    · rename_i p q h1 h2
      split at h
      · rename_i hs
        cases h
        exact .inr ⟨p, q, RD.dpA R hx h1, RD.dpA R hy h2, hs.1, hs.2, rfl⟩
      · cases h
    · cases h
theorem fEq_ok {K : PySem.W.Frag} : OpD K (fEq false) (fun x y H Q => rEq x y H Q ∨ rEqD K x y H Q) := by
  intro W σ m A H x y d e Q R hx hy h
  unfold fEq at h
  split at h
  · rename_i k hk
    have q := Post.here R (.bl _) h
    rcases cEq_ok R hx hy hk with ⟨h1, rfl⟩ | ⟨p, q', h1, h2, h3, h4, rfl⟩
    · exact .inl ⟨h1, q⟩
    · exact .inr ⟨p, q', h1, h2, h3, h4, q⟩
  · exact h.elim
theorem fNe_ok {K : PySem.W.Frag} : OpD K (fEq true) (fun x y H Q => rNe x y H Q ∨ rNeD K x y H Q) := by
  intro W σ m A H x y d e Q R hx hy h
  unfold fEq at h
  split at h
  · rename_i k hk
    have q := Post.here R (.bl _) h
    rcases cEq_ok R hx hy hk with ⟨h1, rfl⟩ | ⟨p, q', h1, h2, h3, h4, rfl⟩
    · exact .inl ⟨h1, q⟩
    · exact .inr ⟨p, q', h1, h2, h3, h4, q⟩
  · exact h.elim
/-- is None -/
def isNon : D → Bool
  | .non => true
  | _ => false
def fIsN (neg : Bool) : D → D → AH → Res D := fun d e A => match e with
  | .non => .ok (.bl (if neg then !isNon d else isNon d)) A
  | _ => .no
theorem isNon_ok {K : PySem.W.Frag} {m : Mp} {H : Hp} {d : D} {x : V} (h : RD K m H d x) : isNon d = decide (x = .non) := by
  cases h <;> simp [isNon]
theorem fIsN_ok {K : PySem.W.Frag} : OpD K (fIsN false) (fun x y H Q => y = .non ∧ Q (.bl (decide (x = .non))) H) := by
  intro W σ m A H x y d e Q R hx hy h
  unfold fIsN at h
  split at h
  · cases hy
    rw [← isNon_ok hx]
    exact ⟨rfl, Post.here R (.bl _) h⟩
  · exact h.elim
theorem fNotN_ok {K : PySem.W.Frag} : OpD K (fIsN true) (fun x y H Q => y = .non ∧ Q (.bl (!decide (x = .non))) H) := by
  intro W σ m A H x y d e Q R hx hy h
  unfold fIsN at h
  split at h
  · cases hy
    rw [← isNon_ok hx]
    exact ⟨rfl, Post.here R (.bl _) h⟩
  · exact h.elim
/-- in, flat things -/
def flatD : D → Bool
  | .non => true
  | .bl _ => true
  | .int _ => true
  | .str _ => true
  | _ => false
def eqD : D → D → Bool
  | .non, .non => true
  | .bl a, .bl b => a == b
  | .bl a, .int b => (if a then 1 else 0) == b
  | .int a, .bl b => a == (if b then 1 else 0)
  | .int a, .int b => a == b
  | .str a, .str b => a == b
  | _, _ => false
theorem flat_ok {K : PySem.W.Frag} {m : Mp} {H : Hp} {d : D} {x : V} (h : RD K m H d x) : flatV x = flatD d := by cases h <;> rfl
theorem eq_ok {K : PySem.W.Frag} {m : Mp} {H : Hp} {d e : D} {x y : V} (h : RD K m H d x) (h' : RD K m H e y) : eqV x y = eqD d e := by cases h <;> cases h' <;> rfl
theorem flats_ok {K : PySem.W.Frag} {m : Mp} {H : Hp} : ∀ {ds : List D} {xs : List V}, RDs K m H ds xs → xs.all flatV = ds.all flatD
  | [], _, h => by cases h; rfl
  | d :: ds, _, h => by cases h with | cons h r => rw [List.all_cons, List.all_cons, flat_ok h, flats_ok r]
theorem ins_ok {K : PySem.W.Frag} {m : Mp} {H : Hp} {e : D} {y : V} (h' : RD K m H e y) : ∀ {ds : List D} {xs : List V}, RDs K m H ds xs → inV y xs = ds.any fun d => eqD d e
  | [], _, h => by cases h; rfl
  | d :: ds, _, h => by
    cases h with
    | cons h r =>
      have ih := ins_ok h' r
      unfold inV at ih ⊢
      rw [List.any_cons, List.any_cons, eq_ok h h', ih]
/-- the items of a list, a tuple -/
def seqOf (A : AH) (d : D) : Option (List D) := match d with
  | .tup xs => some xs
  | .lst xs => some xs
  | .ref n => match A[n]? with
    | some (.lst xs) => some xs
    | _ => none
  | _ => none
theorem seqOf_ok {K : PySem.W.Frag} {m : Mp} {A : AH} {H : Hp} {d : D} {v : V} {xs : List D} (R : Rel K m A H) (h : RD K m H d v) (e : seqOf A d = some xs) :
    ∃ a vs, v = .ref a ∧ (SqL K H a vs ∨ SqT K H a vs) ∧ RDs K m H xs vs := by
  unfold seqOf at e
  split at e
  · cases e
    cases h with
    | tup s r => exact ⟨_, _, rfl, .inr s.sq, r⟩
  · cases e
    cases h with
    | lst s r => exact ⟨_, _, rfl, .inl s.sq, r⟩
  · split at e
    · rename_i hA
      cases e
      cases h with
      | ref hm =>
        obtain ⟨q, h1, vs, h2, r⟩ := R.obj _ _ hA
        rw [hm] at h1; cases h1
        exact ⟨_, vs, rfl, .inl (.inl (.inl h2)), r⟩
    · cases e
  · cases e
def fIn (neg : Bool) : D → D → AH → Res D := fun d e A => match seqOf A e with
  | some xs => if flatD d = true ∧ xs.all flatD = true then .ok (.bl (if neg then !(xs.any fun z => eqD z d) else xs.any fun z => eqD z d)) A else .no
  | none => .no
theorem fIn_ok {K : PySem.W.Frag} (neg : Bool) : OpD K (fIn neg) (rIn K neg) := by
  intro W σ m A H x y d e Q R hx hy h
  unfold fIn at h
  split at h
  · rename_i xs hs
    split at h
    · rename_i hf
      obtain ⟨q, vs, rfl, sq, r⟩ := seqOf_ok R hy hs
      refine ⟨q, vs, rfl, sq, (flat_ok hx).trans hf.1, (flats_ok r).trans hf.2, ?_⟩
      rw [ins_ok hx r]
      exact Post.here R (.bl _) h
    · exact h.elim
  · exact h.elim
def fLt : D → D → AH → Res D := fI0 fun i j => .bl (decide (i < j))
def fLe : D → D → AH → Res D := fI0 fun i j => .bl (decide (i ≤ j))
def fGt : D → D → AH → Res D := fI0 fun i j => .bl (decide (j < i))
def fGe : D → D → AH → Res D := fI0 fun i j => .bl (decide (j ≤ i))
theorem fCmp_ok {K : PySem.W.Frag} {g : Int → Int → Bool} : OpD K (fI0 fun i j => .bl (g i j)) (rI0 fun i j => .bl (g i j)) := fI0_ok fun _ _ _ _ => .bl _
/-- a value as a test: a bool -/
def mTst (me : ME) : MT := fun ρ A => (me ρ A).bind fun d A1 => match d with
  | .bl k => .ok k A1
  | _ => .no
theorem d_cmp {op : CmpOp} {f : D → D → AH → Res D} {r : R2} (ho : OpR X (compareOp op) r) (hf : OpD X.K f r) (ha : DE X W a ma) (hb : DE X W b mb) (hm : behindInMarks op b = false := by first | exact nomark _ | rfl) : DE X W (.Compare a [op] [b] pos) (mOp f ma mb) :=
  PEi (pe_cmpR ho ha hb hm) fun _ _ _ h => tOpD hf h
theorem tTstD {K : PySem.W.Frag} {t : TE} {σ : L2.St} {H : Hp} {Q : Bool → Hp → Prop} (ht : ∀ Q' : VK, tE K W me σ H Q' → t σ H Q') (h : tT K W (mTst me) σ H Q) : t σ H fun x H' => ∃ k, x = .bl k ∧ Q k H' := by
  obtain ⟨m, A, ρ, R, E, h⟩ := h
  refine ht _ (tE.bind R E h fun m1 A1 d v H1 e1 R1 E1 r1 h1 => ?_)
  split at h1
  · cases r1
    exact ⟨_, rfl, Post.here R1 rfl h1⟩
  · exact h1.elim
theorem t_cmp {op : CmpOp} {f : D → D → AH → Res D} {r : R2} (ho : OpR X (compareOp op) r) (hf : OpD X.K f r) (ha : DE X W a ma) (hb : DE X W b mb) (hm : behindInMarks op b = false := by first | exact nomark _ | rfl) : DT X W (.Compare a [op] [b] pos) (mTst (mOp f ma mb)) :=
  PTi (pt_cmpR ho ha hb hm) fun _ _ _ h => tTstD (fun _ q => tOpD hf q) h
/-- a < b < c -/
def mChn (f g : D → D → AH → Res D) (ma mb mc : ME) : ME := fun ρ A => (ma ρ A).bind fun x A1 => (mb ρ A1).bind fun y A2 => (f x y A2).bind fun z A3 => match z with
  | .bl true => (mc ρ A3).bind fun w A4 => g y w A4
  | .bl false => .ok (.bl false) A3
  | _ => .no
/-- tests -/
theorem t_val (ha : DE X W a ma) (he : ∀ whole, isTrue a X.env whole = (do let v ← whole; standAt a.pos; holding [v] (truthy v)) := by intro _; rfl) : DT X W a (mTst ma) :=
  PTi (pt_val ha he) fun _ _ _ h => tTstD (fun _ q => q) h
def mAnd (mt mu : MT) : MT := fun ρ A => (mt ρ A).bind fun k A1 => if k = true then mu ρ A1 else .ok false A1
def mOr (mt mu : MT) : MT := fun ρ A => (mt ρ A).bind fun k A1 => if k = true then .ok true A1 else mu ρ A1
def mNot (mt : MT) : MT := fun ρ A => (mt ρ A).bind fun k A1 => .ok (!k) A1
theorem w_and1 (ha : DT X W a mt) : DW X W (.BoolOp .And [a] pos) mt := pw_and1 ha
theorem w_or1 (ha : DT X W a mt) : DW X W (.BoolOp .Or [a] pos) mt := pw_or1 ha
theorem w_and (ha : DT X W a mt) (hb : DW X W (.BoolOp .And (b :: es) pos) mu) : DW X W (.BoolOp .And (a :: b :: es) pos) (mAnd mt mu) :=
  PWi (pw_and ha hb) fun σ H Q ⟨m, A, ρ, R, E, h⟩ => tT.bind R E h fun m1 A1 k H1 e1 R1 E1 h1 => by
    cases k with
    | true => exact ⟨m1, A1, ρ, R1, E1, h1⟩
    | false => exact Post.here R1 rfl h1
theorem w_or (ha : DT X W a mt) (hb : DW X W (.BoolOp .Or (b :: es) pos) mu) : DW X W (.BoolOp .Or (a :: b :: es) pos) (mOr mt mu) :=
  PWi (pw_or ha hb) fun σ H Q ⟨m, A, ρ, R, E, h⟩ => tT.bind R E h fun m1 A1 k H1 e1 R1 E1 h1 => by
    cases k with
    | false => exact ⟨m1, A1, ρ, R1, E1, h1⟩
    | true => exact Post.here R1 rfl h1
theorem t_not (ha : DT X W a mt) : DT X W (.UnaryOp .Not a pos) (mNot mt) :=
  PTi (pt_not ha) fun σ H Q ⟨m, A, ρ, R, E, h⟩ => tT.bind R E h fun m1 A1 k H1 e1 R1 E1 h1 => Post.here R1 rfl h1
/-- as values -/
def mAndV (ma mb : ME) : ME := fun ρ A => (ma ρ A).bind fun d A1 => match d with
  | .bl true => mb ρ A1
  | .bl false => .ok (.bl false) A1
  | _ => .no
def mOrV (ma mb : ME) : ME := fun ρ A => (ma ρ A).bind fun d A1 => match d with
  | .bl true => .ok (.bl true) A1
  | .bl false => mb ρ A1
  | _ => .no
def mNotV (ma : ME) : ME := fun ρ A => (ma ρ A).bind fun d A1 => match d with
  | .bl k => .ok (.bl (!k)) A1
  | _ => .no
theorem d_one {op : BoolOp} (h : DE X W a ma) : DE X W (.BoolOp op [a] pos) ma := pe_one h
theorem d_andV (ha : DE X W a ma) (hb : DE X W (.BoolOp .And (b :: es) pos) mb) : DE X W (.BoolOp .And (a :: b :: es) pos) (mAndV ma mb) :=
  PEi (pe_and ha hb) fun σ H Q ⟨m, A, ρ, R, E, h⟩ => tE.bind R E h fun m1 A1 d v H1 e1 R1 E1 r1 h1 => by
    split at h1
    · cases r1; exact ⟨true, rfl, m1, A1, ρ, R1, E1, h1⟩
    · cases r1; exact ⟨false, rfl, Post.here R1 (.bl _) h1⟩
    · exact h1.elim
theorem d_orV (ha : DE X W a ma) (hb : DE X W (.BoolOp .Or (b :: es) pos) mb) : DE X W (.BoolOp .Or (a :: b :: es) pos) (mOrV ma mb) :=
  PEi (pe_or ha hb) fun σ H Q ⟨m, A, ρ, R, E, h⟩ => tE.bind R E h fun m1 A1 d v H1 e1 R1 E1 r1 h1 => by
    split at h1
    · cases r1; exact ⟨true, rfl, Post.here R1 (.bl _) h1⟩
    · cases r1; exact ⟨false, rfl, m1, A1, ρ, R1, E1, h1⟩
    · exact h1.elim
theorem d_notV (ha : DE X W a ma) : DE X W (.UnaryOp .Not a pos) (mNotV ma) :=
  PEi (pe_not ha) fun σ H Q ⟨m, A, ρ, R, E, h⟩ => tE.bind R E h fun m1 A1 d v H1 e1 R1 E1 r1 h1 => by
    split at h1
    · cases r1; exact ⟨_, rfl, Post.here R1 (.bl _) h1⟩
    · exact h1.elim
def mIf (mt : MT) (ma mb : ME) : ME := fun ρ A => (mt ρ A).bind fun k A1 => if k = true then ma ρ A1 else mb ρ A1
theorem d_if (hc : DT X W c mt) (ha : DE X W a ma) (hb : DE X W b mb) : DE X W (.IfExp c a b pos) (mIf mt ma mb) :=
  PEi (pe_ifExp hc ha hb) fun σ H Q ⟨m, A, ρ, R, E, h⟩ => tT.bind R E h fun m1 A1 k H1 e1 R1 E1 h1 => by
    cases k with
    | true => exact ⟨m1, A1, ρ, R1, E1, h1⟩
    | false => exact ⟨m1, A1, ρ, R1, E1, h1⟩
/-- - a -/
def mNeg (ma : ME) : ME := fun ρ A => (ma ρ A).bind fun d A1 => match d with
  | .int i => .ok (.int (-i)) A1
  | _ => .no
theorem d_neg (ha : DE X W a ma) : DE X W (.UnaryOp .USub a pos) (mNeg ma) :=
  PEi (pe_un un_neg ha) fun σ H Q ⟨m, A, ρ, R, E, h⟩ => tE.bind R E h fun m1 A1 d v H1 e1 R1 E1 r1 h1 => by
    split at h1
    · cases r1; exact ⟨_, rfl, Post.here R1 (.int _) h1⟩
    · exact h1.elim
/-- the comparisons one writes -/
theorem d_add (ha : DE X W a ma) (hb : DE X W b mb) : DE X W (.BinOp a .Add b pos) (mOp fAdd ma mb) := d_op (op_add.or (op_add_str.or (op_catP.or op_catL))) fAdd_ok ha hb
theorem d_eq (hu : X.A.units + 64 < cLine) (ha : DE X W a ma) (hb : DE X W b mb) : DE X W (.Compare a [.Eq] [b] pos) (mOp (fEq false) ma mb) := d_cmp (op_eq.or (op_eqD hu)) fEq_ok ha hb
theorem t_eq (hu : X.A.units + 64 < cLine) (ha : DE X W a ma) (hb : DE X W b mb) : DT X W (.Compare a [.Eq] [b] pos) (mTst (mOp (fEq false) ma mb)) := t_cmp (op_eq.or (op_eqD hu)) fEq_ok ha hb
theorem t_ne (hu : X.A.units + 64 < cLine) (ha : DE X W a ma) (hb : DE X W b mb) : DT X W (.Compare a [.NotEq] [b] pos) (mTst (mOp (fEq true) ma mb)) := t_cmp (op_ne.or (op_neD hu)) fNe_ok ha hb
theorem d_is (ha : DE X W a ma) (hb : DE X W b mb) : DE X W (.Compare a [.Is] [b] pos) (mOp (fIsN false) ma mb) := d_cmp op_isN fIsN_ok ha hb
theorem t_is (ha : DE X W a ma) (hb : DE X W b mb) : DT X W (.Compare a [.Is] [b] pos) (mTst (mOp (fIsN false) ma mb)) := t_cmp op_isN fIsN_ok ha hb
theorem t_isnt (ha : DE X W a ma) (hb : DE X W b mb) : DT X W (.Compare a [.IsNot] [b] pos) (mTst (mOp (fIsN true) ma mb)) := t_cmp op_notN fNotN_ok ha hb
theorem t_in (ha : DE X W a ma) (hb : DE X W b mb) (hm : behindInMarks .In b = false := by rfl) : DT X W (.Compare a [.In] [b] pos) (mTst (mOp (fIn false) ma mb)) := t_cmp op_in_seq (fIn_ok false) ha hb hm
theorem t_nin (ha : DE X W a ma) (hb : DE X W b mb) (hm : behindInMarks .NotIn b = false := by rfl) : DT X W (.Compare a [.NotIn] [b] pos) (mTst (mOp (fIn true) ma mb)) := t_cmp op_notIn_seq (fIn_ok true) ha hb hm
theorem d_le (ha : DE X W a ma) (hb : DE X W b mb) : DE X W (.Compare a [.LtE] [b] pos) (mOp fLe ma mb) := d_cmp op_le fCmp_ok ha hb
theorem t_lt (ha : DE X W a ma) (hb : DE X W b mb) : DT X W (.Compare a [.Lt] [b] pos) (mTst (mOp fLt ma mb)) := t_cmp op_lt fCmp_ok ha hb
theorem t_ge (ha : DE X W a ma) (hb : DE X W b mb) : DT X W (.Compare a [.GtE] [b] pos) (mTst (mOp fGe ma mb)) := t_cmp op_ge fCmp_ok ha hb
/-- a chain of two orders of ints -/
theorem chnD {K : PySem.W.Frag} {f g : D → D → AH → Res D} {r r' : R2} (hf : OpD K f r) (hg : OpD K g r') {σ : L2.St} {H : Hp} {Q : VK} (h : tE K W (mChn f g ma mb mc) σ H Q) : tChain r r' (tE K W ma) (tE K W mb) (tE K W mc) σ H Q := by
  obtain ⟨m, A, ρ, R, E, h⟩ := h
  refine tE.bind R E h fun m1 A1 d v H1 e1 R1 E1 r1 h1 => tE.bind R1 E1 h1 fun m2 A2 d2 v2 H2 e2 R2 E2 r2 h2 => ?_
  refine hf W σ m2 A2 H2 v v2 d d2 _ R2 (RD.mono e2 _ _ r1) r2 (Post.imp (Post.bind (R := RD K) h2) fun z H3 ⟨m3, A3, dz, e3, R3, rz, h3⟩ => ?_)
  split at h3
  · cases rz
    refine ⟨true, rfl, ?_⟩
    rw [if_pos rfl]
    exact tE.bind R3 (E2.mono e3) h3 fun m4 A4 d4 v4 H4 e4 R4 E4 r4 h4 => hg W σ m4 A4 H4 v2 v4 d2 d4 Q R4 (RD.mono (e3.trans e4) _ _ r2) r4 h4
  · cases rz
    refine ⟨false, rfl, ?_⟩
    rw [if_neg (by decide)]
    exact Post.here R3 (.bl _) h3
  · exact h3.elim
theorem t_chn {op op' : CmpOp} {f g : D → D → AH → Res D} {r r' : R2} (ho : OpR X (compareOp op) r) (ho' : OpR X (compareOp op') r') (hf : OpD X.K f r) (hg : OpD X.K g r') (ha : DE X W a ma) (hb : DE X W b mb) (hc : DE X W c mc) (hm : lastMarks [op, op'] [b, c] = false := by with_unfolding_all rfl) :
    DT X W (.Compare a [op, op'] [b, c] pos) (mTst (mChn f g ma mb mc)) := PTi (pt_chain ho ho' ha hb hc hm) fun _ _ _ h => tTstD (fun _ q => chnD hf hg q) h
end
end DM
end
section
set_option maxHeartbeats 2000000
namespace DM
open PySem PySem.Spec PyProof.Rows L2
section
variable {X : Cx} {W : WX} {a b c e tg : Expr} {es : List Expr} {ma mb mc me : ME} {mt mu : MT} {ms : MA} {pos p p2 : Pos}
/-! ### argument lists, displays -/
def mNil : MA := fun _ A => .ok [] A
def mCons (me : ME) (ms : MA) : MA := fun ρ A => (me ρ A).bind fun d A1 => (ms ρ A1).bind fun ds A2 => .ok (d :: ds) A2
theorem a_nil : DA X W [] mNil := PAi pa_nil fun σ H Q ⟨m, A, ρ, R, E, h⟩ => Post.here R .nil h
theorem a_cons (ha : DE X W e me) (hr : DA X W es ms) (hs : starEach (e :: es) X.env = (false, eval e X.env) :: starEach es X.env := by rfl) : DA X W (e :: es) (mCons me ms) :=
  PAi (pa_cons ha hr hs) fun σ H Q ⟨m, A, ρ, R, E, h⟩ => tE.bind R E h fun m1 A1 d v H1 e1 R1 E1 r1 h1 => tA.bind R1 E1 h1 fun m2 A2 ds vs H2 e2 R2 E2 r2 h2 => Post.here R2 (.cons (RD.mono e2 _ _ r1) r2) h2
def mTup (ms : MA) : ME := fun ρ A => (ms ρ A).bind fun ds A1 => if ds.length ≤ 1000 then .ok (.tup ds) A1 else .no
def mLst (ms : MA) : ME := fun ρ A => (ms ρ A).bind fun ds A1 => if ds.length ≤ 1000 then .ok (.lst ds) A1 else .no
/-- a list that will change -/
def mNew (ms : MA) : ME := fun ρ A => (ms ρ A).bind fun ds A1 => if ds.length ≤ 1000 then .ok (.ref A1.length) (A1 ++ [.lst ds]) else .no
theorem k1000 {ds : List D} {vs : List V} {K : PySem.W.Frag} {m : Mp} {H : Hp} (r : RDs K m H ds vs) (h : ds.length ≤ 1000) : vs.length ≤ sizeLine := by
  rw [← r.length, sizeLine_eq]; omega
theorem d_tup {x1 : Nat} (h : DA X W es ms) : DE X W (.Tuple es x1 pos) (mTup ms) :=
  PEi (pe_tupP h) fun σ H Q ⟨m, A, ρ, R, E, h⟩ => tA.bind R E h fun m1 A1 ds vs H1 e1 R1 E1 r1 h1 => by
    split at h1
    · rename_i hz
      exact ⟨k1000 r1 hz, tup_new R1 r1 h1⟩
    · exact h1.elim
theorem d_lst (h : DA X W es ms) : DE X W (.List es pos) (mLst ms) :=
  PEi (pe_lst h) fun σ H Q ⟨m, A, ρ, R, E, h⟩ => tA.bind R E h fun m1 A1 ds vs H1 e1 R1 E1 r1 h1 => by
    split at h1
    · rename_i hz
      exact ⟨k1000 r1 hz, lst_new R1 r1 h1⟩
    · exact h1.elim
theorem d_new (h : DA X W es ms) : DE X W (.List es pos) (mNew ms) :=
  PEi (pe_lst h) fun σ H Q ⟨m, A, ρ, R, E, h⟩ => tA.bind R E h fun m1 A1 ds vs H1 e1 R1 E1 r1 h1 => by
    split at h1
    · rename_i hz
      exact ⟨k1000 r1 hz, ref_new R1 r1 h1⟩
    · exact h1.elim
theorem RDs.rep {K : PySem.W.Frag} {m : Mp} {H : Hp} {ds : List D} {vs : List V} (r : RDs K m H ds vs) : ∀ n : Nat, RDs K m H (List.replicate n ds).flatten (List.replicate n vs).flatten
  | 0 => .nil
  | n + 1 => by
    rw [List.replicate_succ, List.replicate_succ, List.flatten_cons, List.flatten_cons]
    exact r.append (RDs.rep r n)
/-! ### built-ins -/
def CallD (K : PySem.W.Frag) (f : List D → AH → Res D) (r : List V → Hp → VK → Prop) : Prop :=
  ∀ (W : WX) (σ : L2.St) (m : Mp) (A : AH) (H : Hp) (xs : List V) (ds : List D) (Q : VK), Rel K m A H → RDs K m H ds xs → Post K (RD K) W σ m H (f ds A) Q → r xs H Q
def mCall (f : List D → AH → Res D) (ms : MA) : ME := fun ρ A => (ms ρ A).bind fun ds A1 => f ds A1
theorem tCB_D {K : PySem.W.Frag} {f : List D → AH → Res D} {r : List V → Hp → VK → Prop} (hf : CallD K f r) {σ : L2.St} {H : Hp} {Q : VK} (h : tE K W (mCall f ms) σ H Q) : tCB r (tA K W ms) σ H Q := by
  obtain ⟨m, A, ρ, R, E, h⟩ := h
  exact tA.bind R E h fun m1 A1 ds vs H1 e1 R1 E1 r1 h1 => hf W σ m1 A1 H1 vs ds Q R1 r1 h1
theorem d_callB {id : String} {x : Str} {f : List D → AH → Res D} {r : List V → Hp → VK → Prop} (hc : CallR X (.builtin id) r) (hf : CallD X.K f r) (hg : Gl X x) (hm : X.mg x = none) (hv : bootBuiltins x = some (.builtin id)) (ha : DA X W (e :: es) ms) (hn : x ≠ "__name__" := by decide)
    (hdb : (x == ("__debug__" : Str)) = false := by decide) (he : starEach (e :: es) X.env = (false, eval e X.env) :: starEach es X.env := by rfl) (hpl : (backTo pos (starEach es X.env)).any (·.1) = false := by rfl) :
    DE X W (.Call (.Name x p) (e :: es) [] pos) (mCall f ms) := PEi (pe_callB hc hg hm hv ha hn hdb he hpl) fun _ _ _ h => tCB_D hf h
theorem d_callTy {T : String} {x : Str} {f : List D → AH → Res D} {r : List V → Hp → VK → Prop} (hc : CallR X (.type T) r) (hf : CallD X.K f r) (hg : Gl X x) (hm : X.mg x = none) (hv : bootBuiltins x = some (.type T)) (ha : DA X W (e :: es) ms) (hn : x ≠ "__name__" := by decide)
    (hdb : (x == ("__debug__" : Str)) = false := by decide) (he : starEach (e :: es) X.env = (false, eval e X.env) :: starEach es X.env := by rfl) (hpl : (backTo pos (starEach es X.env)).any (·.1) = false := by rfl) :
    DE X W (.Call (.Name x p) (e :: es) [] pos) (mCall f ms) := PEi (pe_callTy hc hg hm hv ha hn hdb he hpl) fun _ _ _ h => tCB_D hf h
theorem RDs.one {K : PySem.W.Frag} {m : Mp} {H : Hp} {d : D} {xs : List V} (h : RDs K m H [d] xs) : ∃ v, xs = [v] ∧ RD K m H d v := by
  cases h with
  | cons h r => cases r; exact ⟨_, rfl, h⟩
/-- len -/
def fLen : List D → AH → Res D := fun ds A => match ds with
  | [.str x] => if x.length ≤ 16777216 then .ok (.int x.length) A else .no
  | [d] => match seqOf A d with
    | some xs => .ok (.int xs.length) A
    | none => .no
  | _ => .no
theorem fLen_ok {K : PySem.W.Frag} : CallD K fLen (fun xs H Q => ∃ x n, xs = [x] ∧ LenV K x H n ∧ Q (.int n) H) := by
  intro W σ m A H xs ds Q R hx h
  unfold fLen at h
  split at h
  · rename_i x
    obtain ⟨v, rfl, r⟩ := hx.one
    cases r
    split at h
    · rename_i hz
      exact ⟨.str x, x.length, rfl, ⟨by rw [sizeLine_eq]; exact hz, rfl⟩, Post.here R (.int _) h⟩
    · exact h.elim
  · rename_i d _
    obtain ⟨v, rfl, r⟩ := hx.one
    split at h
    · rename_i ys hs
      obtain ⟨q, vs, rfl, sq, rs⟩ := seqOf_ok R r hs
      refine ⟨.ref q, vs.length, rfl, ?_, ?_⟩
      · rcases sq with sq | sq
        · exact .inl ⟨vs, sq, rfl⟩
        · exact .inr ⟨vs, sq, rfl⟩
      · rw [← rs.length]
        exact Post.here R (.int _) h
    · exact h.elim
  · exact h.elim
theorem d_len (hm : X.mg "len" = none) (ha : DA X W [e] ms) (hg : Gl X "len" := by rfl) (he : starEach [e] X.env = (false, eval e X.env) :: starEach [] X.env := by rfl) (hpl : (backTo pos (starEach [] X.env)).any (·.1) = false := by rfl) :
    DE X W (.Call (.Name "len" p) [e] [] pos) (mCall fLen ms) := d_callB call_len fLen_ok hg hm PySem.boot_len ha (by decide) (by decide) he hpl
/-- int of an int, of a bool -/
def fInt : List D → AH → Res D := fun ds A => match ds with
  | [.int i] => .ok (.int i) A
  | [.bl k] => .ok (.int (if k then 1 else 0)) A
  | _ => .no
theorem fInt_ok {K : PySem.W.Frag} : CallD K fInt (fun xs H Q => (∃ i, xs = [.int i] ∧ Q (.int i) H) ∨ ∃ k, xs = [.bl k] ∧ Q (.int (if k then 1 else 0)) H) := by
  intro W σ m A H xs ds Q R hx h
  unfold fInt at h
  split at h
  · obtain ⟨v, rfl, r⟩ := hx.one
    cases r
    exact .inl ⟨_, rfl, Post.here R (.int _) h⟩
  · obtain ⟨v, rfl, r⟩ := hx.one
    cases r
    exact .inr ⟨_, rfl, Post.here R (.int _) h⟩
  · exact h.elim
theorem d_intf (hm : X.mg "int" = none) (ha : DA X W [e] ms) (hg : Gl X "int" := by rfl) (he : starEach [e] X.env = (false, eval e X.env) :: starEach [] X.env := by rfl) (hpl : (backTo pos (starEach [] X.env)).any (·.1) = false := by rfl) :
    DE X W (.Call (.Name "int" p) [e] [] pos) (mCall fInt ms) := d_callTy call_int1 fInt_ok hg hm (by decide +kernel) ha (by decide) (by decide) he hpl
def fAbs : List D → AH → Res D := fun ds A => match ds with
  | [.int i] => .ok (.int (if i < 0 then -i else i)) A
  | _ => .no
theorem fAbs_ok {K : PySem.W.Frag} : CallD K fAbs (fun xs H Q => ∃ i, xs = [.int i] ∧ Q (.int (if i < 0 then -i else i)) H) := by
  intro W σ m A H xs ds Q R hx h
  unfold fAbs at h
  split at h
  · obtain ⟨v, rfl, r⟩ := hx.one
    cases r
    exact ⟨_, rfl, Post.here R (.int _) h⟩
  · exact h.elim
theorem d_abs (hm : X.mg "abs" = none) (ha : DA X W [e] ms) (hg : Gl X "abs" := by rfl) (he : starEach [e] X.env = (false, eval e X.env) :: starEach [] X.env := by rfl) (hpl : (backTo pos (starEach [] X.env)).any (·.1) = false := by rfl) :
    DE X W (.Call (.Name "abs" p) [e] [] pos) (mCall fAbs ms) := d_callB call_abs fAbs_ok hg hm (by decide +kernel) ha (by decide) (by decide) he hpl
/-- tuple of a list, a tuple -/
def fTup : List D → AH → Res D := fun ds A => match ds with
  | [d] => match seqOf A d with
    | some xs => .ok (.tup xs) A
    | none => .no
  | _ => .no
def isTup : D → Bool
  | .tup _ => true
  | _ => false
theorem seqOf_is {K : PySem.W.Frag} {m : Mp} {A : AH} {H : Hp} {d : D} {v : V} {xs : List D} (R : Rel K m A H) (h : RD K m H d v) (e : seqOf A d = some xs) :
    ∃ a vs, v = .ref a ∧ RDs K m H xs vs ∧ ((d = .tup xs ∧ SqT K H a vs) ∨ (isTup d = false ∧ SqL K H a vs)) := by
  unfold seqOf at e
  split at e
  · cases e
    cases h with
    | tup s r => exact ⟨_, _, rfl, r, .inl ⟨rfl, s.sq⟩⟩
  · cases e
    cases h with
    | lst s r => exact ⟨_, _, rfl, r, .inr ⟨rfl, s.sq⟩⟩
  · split at e
    · rename_i hA
      cases e
      cases h with
      | ref hm =>
        obtain ⟨q, h1, vs, h2, r⟩ := R.obj _ _ hA
        rw [hm] at h1; cases h1
        exact ⟨_, vs, rfl, r, .inr ⟨rfl, .inl (.inl h2)⟩⟩
    · cases e
  · cases e
theorem fTup_ok {K : PySem.W.Frag} : CallD K fTup (fun xs H Q => ∃ p ys, xs = [.ref p] ∧ ((SqL K H p ys ∧ ∀ l us, H l = none → Q (.ref l) (upd H l (plH us ys))) ∨ (SqT K H p ys ∧ Q (.ref p) H))) := by
  intro W σ m A H xs ds Q R hx h
  unfold fTup at h
  split at h
  · rename_i d
    obtain ⟨v, rfl, r⟩ := hx.one
    split at h
    · rename_i ys hs
      obtain ⟨q, vs, rfl, rs, sq⟩ := seqOf_is R r hs
      refine ⟨q, vs, rfl, ?_⟩
      rcases sq with ⟨rfl, sq⟩ | ⟨_, sq⟩
      · exact .inr ⟨sq, Post.here R r h⟩
      · exact .inl ⟨sq, tup_new R rs h⟩
    · exact h.elim
  · exact h.elim
theorem d_tuple (hm : X.mg "tuple" = none) (ha : DA X W [e] ms) (hg : Gl X "tuple" := by rfl) (he : starEach [e] X.env = (false, eval e X.env) :: starEach [] X.env := by rfl) (hpl : (backTo pos (starEach [] X.env)).any (·.1) = false := by rfl) :
    DE X W (.Call (.Name "tuple" p) [e] [] pos) (mCall fTup ms) := d_callTy tuple_ofP fTup_ok hg hm (by decide +kernel) ha (by decide) (by decide) he hpl
/-- repr -/
def fRepr : List D → AH → Res D := fun ds A => match ds with
  | [d] => match toPyA A d with
    | some q => if q.showable = true ∧ q.shown.length ≤ 16777216 ∧ q.depth ≤ 32 then .ok (.str q.shown) A else .no
    | none => .no
  | _ => .no
def rRepr (K : PySem.W.Frag) : List V → Hp → VK → Prop := fun xs H Q => ∃ x q, xs = [x] ∧ Dp K H x q ∧ q.showable = true ∧ q.shown.length ≤ sizeLine ∧ q.depth ≤ 32 ∧ Q (.str q.shown) H
mutual
theorem Dp.noDict {K : PySem.W.Frag} {H : Hp} : ∀ (q : PyData) (x : V), Dp K H x q → q.hasDict = false
  | .none, _, _ => by simp [PyData.hasDict]
  | .bool _, _, _ => by simp [PyData.hasDict]
  | .int _, _, _ => by simp [PyData.hasDict]
  | .str _, _, _ => by simp [PyData.hasDict]
  | .list ds, _, h => by cases h with | lst s r => (simp only [PyData.hasDict]; exact DpAll.noDict ds _ r)
  | .tuple ds, _, h => by cases h with | tup s r => (simp only [PyData.hasDict]; exact DpAll.noDict ds _ r)
  | .dict _, _, h => by cases h
theorem DpAll.noDict {K : PySem.W.Frag} {H : Hp} : ∀ (qs : List PyData) (xs : List V), DpAll K H xs qs → PyData.hasDictAll qs = false
  | [], _, _ => by simp [PyData.hasDictAll]
  | q :: qs, _, h => by
    cases h with
    | cons h r => simp only [PyData.hasDictAll, Dp.noDict q _ h, DpAll.noDict qs _ r, Bool.or_self]
end
theorem call_reprD (hg : X.A.guards = some []) (hu : X.A.units + 64 < cLine) : CallR X (.builtin "repr") (rRepr X.K) := by
  intro pins s σ H xs us Q I r h
  obtain ⟨x, q, rfl, hd, hs, hz, hdep, k⟩ := h
  obtain ⟨u, rfl, ru⟩ := vals1 r
  obtain ⟨as, rd⟩ := Dp.reads I q x u hd ru
  have hn := Dp.noDict q x hd
  have fin : ∀ h' t tk, (∀ b o, s.heap.get? b = some o → h'.get? b = some o) → EP X pins σ Q (.str q.shown t) { s with heap := h', toks := tk } := fun h' t tk kp => ⟨.str q.shown, H, I.kept (t' := tk) kp, ⟨t, rfl⟩, k⟩
  cases rd with
  | none =>
    simp only [PyData.shown] at fin
    exact PySem.P.repr_of_none (fin s.heap _ _ fun _ _ z => z)
  | bool b => 
    simp only [PyData.shown] at fin
    exact PySem.P.repr_of_bool (fin s.heap _ _ fun _ _ z => z)
  | int i t =>
    simp only [PyData.shown] at fin
    exact PySem.P.repr_of_int (by simpa [PyData.showable] using hs) (fin s.heap _ _ fun _ _ z => z)
  | str y t => 
    simp only [PyData.shown] at fin
    exact PySem.P.repr_of_str (fin s.heap _ _ fun _ _ z => z) (by simpa only [PyData.shown] using hz)
  | list h1 h2 h3 h4 =>
    exact repr_of_reads' (Reads.list h1 h2 h3 h4) hs (fun z => by rw [hn] at z; cases z) hg (by omega) (fun _ _ z => z) fin hz
  | tuple h1 h2 h3 h4 =>
    exact repr_of_reads' (Reads.tuple h1 h2 h3 h4) hs (fun z => by rw [hn] at z; cases z) hg (by omega) (fun _ _ z => z) fin hz
  | dict h1 h2 h3 h4 h5 => exact repr_of_reads' (Reads.dict h1 h2 h3 h4 h5) hs (fun z => by rw [hn] at z; cases z) hg (by omega) (fun _ _ z => z) fin hz
theorem fRepr_ok {K : PySem.W.Frag} : CallD K fRepr (rRepr K) := by
  intro W σ m A H xs ds Q R hx h
  unfold fRepr at h
  split at h
  · obtain ⟨v, rfl, r⟩ := hx.one
    split at h
    · rename_i q hq
      split at h
      · rename_i hc
        exact ⟨v, q, rfl, RD.dpA R r hq, hc.1, by rw [sizeLine_eq]; exact hc.2.1, hc.2.2, Post.here R (.str _) h⟩
      · exact h.elim
    · exact h.elim
  · exact h.elim
theorem d_repr (gd : X.A.guards = some []) (hu : X.A.units + 64 < cLine) (hm : X.mg "repr" = none) (ha : DA X W [e] ms) (hg : Gl X "repr" := by rfl) (he : starEach [e] X.env = (false, eval e X.env) :: starEach [] X.env := by rfl) (hpl : (backTo pos (starEach [] X.env)).any (·.1) = false := by rfl) :
    DE X W (.Call (.Name "repr" p) [e] [] pos) (mCall fRepr ms) := d_callB (call_reprD gd hu) fRepr_ok hg hm (by decide +kernel) ha (by decide) (by decide) he hpl
end
end DM
end
section
set_option maxHeartbeats 2000000
namespace DM
open PySem PySem.Spec PyProof.Rows L2
section
variable {X : Cx} {W : WX} {a b c e tg : Expr} {es : List Expr} {ma mb mc me : ME} {mt mu : MT} {ms : MA} {pos p p2 : Pos}
/-! ### a[b] -/
def fIx : D → D → AH → Res D := fun d e A => match d, e with
  | .str z, .int i => if z.length ≤ 16777216 then (match atI z.cps.toList i with | some c => .ok (.str ⟨#[c]⟩) A | none => .no) else .no
  | d, .int i => match seqOf A d with
    | some xs => match atI xs i with
      | some v => .ok v A
      | none => .no
    | none => .no
  | _, _ => .no
theorem atI_rel {K : PySem.W.Frag} {m : Mp} {H : Hp} {xs : List D} {vs : List V} {i : Int} {d : D} (r : RDs K m H xs vs) (h : atI xs i = some d) : ∃ v, atI vs i = some v ∧ RD K m H d v := by
  unfold atI at h ⊢
  rw [← r.length]
  cases hn : ixN xs.length i with
  | none => rw [hn] at h; cases h
  | some j =>
    rw [hn] at h
    obtain ⟨v, h1, h2⟩ := r.get h
    exact ⟨v, h1, h2⟩
theorem fIx_ok {K : PySem.W.Frag} : OpD K fIx (rIx K) := by
  intro W σ m A H x y d e Q R hx hy h
  unfold fIx at h
  split at h
  · rename_i z i
    cases hx; cases hy
    split at h
    · rename_i hz
      split at h
      · rename_i c hc
        exact .inr (.inr ⟨z, i, c, rfl, rfl, by rw [sizeLine_eq]; exact hz, hc, Post.here R (.str _) h⟩)
      · exact h.elim
    · exact h.elim
  · rename_i i _
    cases hy
    split at h
    · rename_i xs hs
      obtain ⟨q, vs, rfl, rs, sq⟩ := seqOf_is R hx hs
      split at h
      · rename_i v hv
        obtain ⟨w, h1, h2⟩ := atI_rel rs hv
        have k := Post.here R h2 h
        rcases sq with ⟨_, sq⟩ | ⟨_, sq⟩
        · exact .inr (.inl ⟨q, vs, i, w, rfl, rfl, sq, h1, k⟩)
        · exact .inl ⟨q, vs, i, w, rfl, rfl, sq, h1, k⟩
      · exact h.elim
    · exact h.elim
  · exact h.elim
theorem d_ix (ha : DE X W a ma) (hb : DE X W b mb) (hs : PlainIx b := by exact fun _ _ => rfl) : DE X W (.Subscript a b pos) (mOp fIx ma mb) := PEi (pe_ix ix_seq ha hb hs) fun _ _ _ h => tOpD fIx_ok h
/-! ### slices -/
abbrev MO := Env → AH → Res (Option Int)
def tO (K : PySem.W.Frag) (W : WX) (mo : MO) : TO := fun σ H Q => ∃ m A ρ, Rel K m A H ∧ REnv K m H ρ σ ∧ Post K (fun _ _ a b => a = b) W σ m H (mo ρ A) Q
def mNone : MO := fun _ A => .ok none A
def mSome (me : ME) : MO := fun ρ A => (me ρ A).bind fun d A1 => match d with
  | .int i => .ok (some i) A1
  | _ => .no
structure DO (X : Cx) (W : WX) (e : Option Expr) (mo : MO) : Prop where
  go : PO X e (tO X.K W mo)
theorem POi {X : Cx} {e : Option Expr} {t t' : TO} (h : PO X e t) (q : ∀ σ H Q, t' σ H Q → t σ H Q) : PO X e t' := ⟨fun pins s σ H Q I w => h.run pins s σ H Q I (q σ H Q w)⟩
theorem o_none : DO X W none mNone := ⟨POi po_none fun σ H Q ⟨m, A, ρ, R, E, h⟩ => Post.here R rfl h⟩
theorem o_some (ha : DE X W e me) : DO X W (some e) (mSome me) := ⟨POi (po_some ha) fun σ H Q ⟨m, A, ρ, R, E, h⟩ => tE.bind R E h fun m1 A1 d v H1 e1 R1 E1 r1 h1 => by
  split at h1
  · cases r1; exact ⟨_, rfl, Post.here R1 rfl h1⟩
  · exact h1.elim⟩
theorem tO.bind {K : PySem.W.Frag} {σ : L2.St} {m : Mp} {A : AH} {ρ : Env} {H : Hp} {β γ : Type} {R2 : Mp → Hp → γ → β → Prop} {me : MO} {k : Option Int → AH → Res γ} {Q : β → Hp → Prop} {T : Option Int → Hp → Prop} (R : Rel K m A H) (E : REnv K m H ρ σ)
    (h : Post K R2 W σ m H ((me ρ A).bind k) Q) (q : ∀ m1 A1 b H1, Ext m H m1 H1 → Rel K m1 A1 H1 → REnv K m1 H1 ρ σ → Post K R2 W σ m1 H1 (k b A1) Q → T b H1) : tO K W me σ H T :=
  ⟨m, A, ρ, R, E, Post.imp (Post.bind (R := fun _ _ a b => a = b) h) fun v H1 ⟨m1, A1, d, e, R1, r, p⟩ => by subst r; exact q m1 A1 _ H1 e R1 (E.mono e) p⟩
def cutD (xs : List D) (lo hi : Option Int) : List D := (xs.drop (HT.sIx xs.length 0 lo)).take (HT.sIx xs.length xs.length hi - HT.sIx xs.length 0 lo)
theorem cut_rel {K : PySem.W.Frag} {m : Mp} {H : Hp} {xs : List D} {vs : List V} {lo hi : Option Int} (r : RDs K m H xs vs) : RDs K m H (cutD xs lo hi) (cutV vs lo hi) := by
  unfold cutD cutV
  rw [← r.length]
  exact (r.drop _).take _
theorem cut_whole {xs : List D} {lo hi : Option Int} (h : HT.sIx xs.length 0 lo = 0 ∧ HT.sIx xs.length xs.length hi = xs.length) : cutD xs lo hi = xs := by
  unfold cutD
  rw [h.1, h.2]
  simp
def fSl : D → Option Int → Option Int → AH → Res D := fun d lo hi A => match d with
  | .tup xs => .ok (.tup (cutD xs lo hi)) A
  | d => match seqOf A d with
    | some xs => .ok (.lst (cutD xs lo hi)) A
    | none => .no
def mSl (me : ME) (ml mh : MO) : ME := fun ρ A => (me ρ A).bind fun d A1 => (ml ρ A1).bind fun lo A2 => (mh ρ A2).bind fun hi A3 => fSl d lo hi A3
theorem d_sl {lo hi : Option Expr} {ml mh : MO} (he : DE X W e me) (hl : DO X W lo ml) (hh : DO X W hi mh) : DE X W (.Subscript e (.Slice lo hi none p2) pos) (mSl me ml mh) :=
  PEi (pe_slice (sl_tupP.or sl_list) he hl.go hh.go) fun σ H Q ⟨m, A, ρ, R, E, h⟩ => tE.bind R E h fun m1 A1 d v H1 e1 R1 E1 r1 h1 => tO.bind R1 E1 h1 fun m2 A2 l H2 e2 R2 E2 h2 => tO.bind R2 E2 h2 fun m3 A3 u H3 e3 R3 E3 h3 => by
    have r3 := RD.mono (e2.trans e3) _ _ r1
    unfold fSl at h3
    split at h3
    · rename_i xs
      have r3' := r3
      cases r3 with
      | tup s r =>
        rename_i q vs
        refine .inl ⟨q, vs, rfl, s.sq, fun hw => ?_, fun _ => tup_new R3 (cut_rel r) h3⟩
        rw [← r.length] at hw
        rw [cut_whole hw] at h3
        exact Post.here R3 r3' h3
    · rename_i d hd
      split at h3
      · rename_i xs hs
        obtain ⟨q, vs, rfl, rs, sq⟩ := seqOf_is R3 r3 hs
        rcases sq with ⟨rfl, _⟩ | ⟨_, sq⟩
        · exact (hd xs rfl).elim
        · exact .inr ⟨q, vs, rfl, sq, lst_new R3 (cut_rel rs) h3⟩
      · exact h3.elim
theorem RDs.rev {K : PySem.W.Frag} {m : Mp} {H : Hp} : ∀ {xs : List D} {vs : List V}, RDs K m H xs vs → RDs K m H xs.reverse vs.reverse
  | [], _, h => by cases h; exact .nil
  | x :: xs, _, h => by
    cases h with
    | cons h r =>
      rw [List.reverse_cons, List.reverse_cons]
      exact (RDs.rev r).append (.cons h .nil)
/-- xs[::-1] of a list, to stay or to change -/
def mRev (chg : Bool) (me : ME) : ME := fun ρ A => (me ρ A).bind fun d A1 => if isTup d = true then .no else match seqOf A1 d with
  | some xs => if chg then .ok (.ref A1.length) (A1 ++ [.lst xs.reverse]) else .ok (.lst xs.reverse) A1
  | none => .no
theorem d_rev {k : Nat} {q1 q2 q3 : Pos} (chg : Bool) (he : DE X W e me) : DE X W (.Subscript e (.Slice none none (some (.UnaryOp .USub (.Constant (.int 1) k q1) q2)) q3) pos) (mRev chg me) :=
  PEi (pe_revL he) fun σ H Q ⟨m, A, ρ, R, E, h⟩ => tE.bind R E h fun m1 A1 d v H1 e1 R1 E1 r1 h1 => by
    split at h1
    · exact h1.elim
    · rename_i hn
      split at h1
      · rename_i xs hs
        obtain ⟨q, vs, rfl, rs, sq⟩ := seqOf_is R1 r1 hs
        rcases sq with ⟨rfl, _⟩ | ⟨_, sq⟩
        · exact (hn rfl).elim
        · cases chg with
          | true => exact ⟨q, vs, rfl, sq, ref_new R1 rs.rev h1⟩
          | false => exact ⟨q, vs, rfl, sq, lst_new R1 rs.rev h1⟩
      · exact h1.elim
/-! ### methods of lists -/
def fApp : Nat → List D → AH → Res D := fun n ds A => match ds with
  | [x] => match A[n]? with
    | some (.lst xs) => if xs.length < 16777216 then .ok .non (A.set n (.lst (xs ++ [x]))) else .no
    | _ => .no
  | _ => .no
/-- a method of a changing list -/
def mMet (f : Nat → List D → AH → Res D) (mo : ME) (ms : MA) : ME := fun ρ A => (mo ρ A).bind fun d A1 => match d with
  | .ref n => (match A1[n]? with
    | some (.lst _) => (ms ρ A1).bind fun ds A2 => f n ds A2
    | _ => .no)
  | _ => .no
theorem Rel.lst {K : PySem.W.Frag} {m : Mp} {A : AH} {H : Hp} (R : Rel K m A H) {n : Nat} {q : Addr} {xs : List D} (hm : m.1[n]? = some q) (hA : A[n]? = some (.lst xs)) : ∃ vs, H q = some (.lst vs) ∧ RDs K m H xs vs := by
  obtain ⟨q2, h3, ws, h4, rw4⟩ := R.obj _ _ hA
  rw [hm] at h3; cases h3
  exact ⟨ws, h4, rw4⟩
theorem wr_lst {K : PySem.W.Frag} {m : Mp} {A : AH} {H : Hp} {σ : L2.St} {n : Nat} {q : Addr} {ds : List D} {vs : List V} {d : D} {v : V} {Q : VK} (R : Rel K m A H) (hn : m.1[n]? = some q) (r : RDs K m H ds vs) (rv : RD K m H d v)
    (h : Post K (RD K) W σ m H (.ok d (A.set n (.lst ds))) Q) : Q v (upd H q (.lst vs)) :=
  let ⟨R1, e1⟩ := R.write (H' := upd H q (.lst vs)) (o := .lst ds) hn (fun p u hp z => by rw [upd_ne hp]; exact z) fun e => ⟨vs, upd_same, RDs.mono e _ _ r⟩
  h m _ _ e1 R1 (RD.mono e1 _ _ rv)
theorem d_app {o : Expr} {mo : ME} {apos : Pos} (ho : DE X W o mo) (ha : DA X W [e] ms) (hb1 : attributeBase o "append" X.env (eval o X.env) = eval o X.env := by rfl)
    (hfew : ((backTo pos (starEach [e] X.env)).all (fun x => !x.1) && (backToKw pos (keywordEach [] X.env)).all (fun x => x.1.isSome)
      && decide ([e].length + ([] : List Keyword).length + (if ([] : List Keyword).isEmpty then 0 else 1) < 30)) = true := by rfl)
    (hline : (apos.endLine == pos.line) = true := by rfl) (hs : starEach [e] X.env = (false, eval e X.env) :: starEach [] X.env := by rfl) (hpl : (backTo pos (starEach [] X.env)).any (·.1) = false := by rfl) :
    DE X W (.Call (.Attribute o "append" apos) [e] [] pos) (mMet fApp mo ms) :=
  PEi (pe_bm PySem.F.plainAttrs_list PySem.F.slot_list_append PySem.F.type_list_append mt_append ho ha hb1 hfew hline hs hpl) fun σ H Q ⟨m, A, ρ, R, E, h⟩ => tE.bind R E h fun m1 A1 d v H1 e1 R1 E1 r1 h1 => by
    split at h1
    · rename_i n
      split at h1
      rotate_left
      · exact h1.elim
      rename_i xs0 hA0
      cases r1 with
      | ref hm =>
        rename_i q
        obtain ⟨ws, hw, _⟩ := R1.lst hm hA0
        refine ⟨.inl ⟨rfl, ws, .inl (.inl hw)⟩, tA.bind R1 E1 h1 fun m2 A2 ds vs H2 e2 R2 E2 r2 h2 => ?_⟩
        unfold fApp at h2
        split at h2
        · obtain ⟨y, rfl, ry⟩ := r2.one
          split at h2
          · rename_i xs hA
            split at h2
            · rename_i hz
              have hm2 := e2.get hm
              obtain ⟨us, h4, rw4⟩ := R2.lst hm2 hA
              exact ⟨q, us, y, rfl, rfl, h4, by rw [← rw4.length, sizeLine_eq]; exact hz, wr_lst R2 hm2 (rw4.append (.cons ry .nil)) .non h2⟩
            · exact h2.elim
          · exact h2.elim
        · exact h2.elim
    · exact h1.elim
/-- xs.pop() -/
def mPop (mo : ME) : ME := fun ρ A => (mo ρ A).bind fun d A1 => match d with
  | .ref n => match A1[n]? with
    | some (.lst xs) => match xs[xs.length - 1]? with
      | some x => .ok x (A1.set n (.lst xs.dropLast))
      | none => .no
    | _ => .no
  | _ => .no
theorem RDs.dropLast {K : PySem.W.Frag} {m : Mp} {H : Hp} {xs : List D} {vs : List V} (h : RDs K m H xs vs) : RDs K m H xs.dropLast vs.dropLast := by
  rw [List.dropLast_eq_take, List.dropLast_eq_take, ← h.length]
  exact h.take _
theorem d_pop {o : Expr} {mo : ME} {apos : Pos} (ho : DE X W o mo) (hb1 : attributeBase o "pop" X.env (eval o X.env) = eval o X.env := by rfl) (hline : (apos.endLine == pos.line) = true := by rfl) :
    DE X W (.Call (.Attribute o "pop" apos) [] [] pos) (mPop mo) :=
  PEi (pe_bm0 PySem.F.plainAttrs_list PySem.F.slot_list_pop PySem.F.type_list_pop mt_pop ho hb1 hline) fun σ H Q ⟨m, A, ρ, R, E, h⟩ => tE.bind R E h fun m1 A1 d v H1 e1 R1 E1 r1 h1 => by
    split at h1
    · rename_i n
      cases r1 with
      | ref hm =>
        rename_i q
        split at h1
        · rename_i xs hA
          split at h1
          · rename_i x hx
            obtain ⟨us, h4, rw4⟩ := R1.lst hm hA
            obtain ⟨y, h5, r5⟩ := rw4.get hx
            exact ⟨.inl ⟨rfl, us, .inl (.inl h4)⟩, q, us, y, rfl, rfl, h4, by rw [← rw4.length]; exact h5, wr_lst R1 hm rw4.dropLast r5 h1⟩
          · exact h1.elim
        · exact h1.elim
    · exact h1.elim
end
end DM
end
section
set_option maxHeartbeats 2000000
namespace DM
open PySem PySem.Spec PyProof.Rows L2
/-! ### statements -/
def lift {α : Type} (r : Res α) (ρ : Env) (k : α → AH → SRes) : SRes := match r with
  | .ok d A => k d A
  | .exc C fs A => .exc C fs ρ A
  | .no => .no
@[simp] theorem lift_ok {α : Type} (d : α) (A : AH) (ρ : Env) (k : α → AH → SRes) : lift (.ok d A) ρ k = k d A := rfl
@[simp] theorem lift_exc {α : Type} (C : Str) (fs : List (Str × D)) (A : AH) (ρ : Env) (k : α → AH → SRes) : lift (.exc C fs A) ρ k = .exc C fs ρ A := rfl
@[simp] theorem lift_no {α : Type} (ρ : Env) (k : α → AH → SRes) : lift .no ρ k = .no := rfl
section
variable {K : PySem.W.Frag} {W : WX} {σ : L2.St} {m : Mp} {A : AH} {ρ : Env} {H : Hp} {D0 : Ends}
theorem post_lift {α β : Type} {R0 : Mp → Hp → α → β → Prop} {r : Res α} {k : α → AH → SRes} {T : β → Hp → Prop} (E : REnv K m H ρ σ) (h : PostS K W m H (lift r ρ k) D0)
    (q : ∀ m1 A1 d v H1, Ext m H m1 H1 → Rel K m1 A1 H1 → R0 m1 H1 d v → PostS K W m1 H1 (k d A1) D0 → T v H1) : Post K R0 W σ m H r T := by
  cases r with
  | ok d A' => exact fun m' H' v e R' r' => q m' A' d v H' e R' r' (PostS.mono e h)
  | exc C fs A' => exact fun m' H' c dx e R' hc hx => h m' H' c dx σ e R' (E.mono e) hc hx
  | no => exact h
theorem tE.lift {me : ME} {k : D → AH → SRes} {T : V → Hp → Prop} (R : Rel K m A H) (E : REnv K m H ρ σ) (h : PostS K W m H (lift (me ρ A) ρ k) D0)
    (q : ∀ m1 A1 d v H1, Ext m H m1 H1 → Rel K m1 A1 H1 → REnv K m1 H1 ρ σ → RD K m1 H1 d v → PostS K W m1 H1 (k d A1) D0 → T v H1) : tE K W me σ H T :=
  ⟨m, A, ρ, R, E, post_lift E h fun m1 A1 d v H1 e R1 r p => q m1 A1 d v H1 e R1 (E.mono e) r p⟩
theorem tT.lift {me : MT} {k : Bool → AH → SRes} {T : Bool → Hp → Prop} (R : Rel K m A H) (E : REnv K m H ρ σ) (h : PostS K W m H (lift (me ρ A) ρ k) D0)
    (q : ∀ m1 A1 b H1, Ext m H m1 H1 → Rel K m1 A1 H1 → REnv K m1 H1 ρ σ → PostS K W m1 H1 (k b A1) D0 → T b H1) : tT K W me σ H T :=
  ⟨m, A, ρ, R, E, post_lift E h fun m1 A1 d v H1 e R1 r p => by subst r; exact q m1 A1 _ H1 e R1 (E.mono e) p⟩
theorem tA.lift {me : MA} {k : List D → AH → SRes} {T : List V → Hp → Prop} (R : Rel K m A H) (E : REnv K m H ρ σ) (h : PostS K W m H (lift (me ρ A) ρ k) D0)
    (q : ∀ m1 A1 ds vs H1, Ext m H m1 H1 → Rel K m1 A1 H1 → REnv K m1 H1 ρ σ → RDs K m1 H1 ds vs → PostS K W m1 H1 (k ds A1) D0 → T vs H1) : tA K W me σ H T :=
  ⟨m, A, ρ, R, E, post_lift E h fun m1 A1 d v H1 e R1 r p => q m1 A1 d v H1 e R1 (E.mono e) r p⟩
theorem PostS.nx (R : Rel K m A H) (E : REnv K m H ρ σ) (h : PostS K W m H (.nx ρ A) D0) : D0.nx σ H := h m H σ (Ext.refl m H) R E
theorem PostS.bk (R : Rel K m A H) (E : REnv K m H ρ σ) (h : PostS K W m H (.bk ρ A) D0) : D0.bk σ H := h m H σ (Ext.refl m H) R E
theorem PostS.ct (R : Rel K m A H) (E : REnv K m H ρ σ) (h : PostS K W m H (.ct ρ A) D0) : D0.ct σ H := h m H σ (Ext.refl m H) R E
theorem PostS.rt {d : D} {v : V} (R : Rel K m A H) (r : RD K m H d v) (h : PostS K W m H (.rt d A) D0) : D0.rt v H := h m H v (Ext.refl m H) R r
end
def mNext : MS := fun ρ A => .nx ρ A
def mSeq (a b : MS) : MS := fun ρ A => match a ρ A with
  | .nx ρ1 A1 => b ρ1 A1
  | r => r
def mDrop (me : ME) : MS := fun ρ A => lift (me ρ A) ρ fun _ A1 => .nx ρ A1
def mRet (me : ME) : MS := fun ρ A => lift (me ρ A) ρ fun d A1 => .rt d A1
def mIfS (mt : MT) (a b : MS) : MS := fun ρ A => lift (mt ρ A) ρ fun k A1 => if k = true then a ρ A1 else b ρ A1
def mSet (i : Nat) (me : ME) : MS := fun ρ A => lift (me ρ A) ρ fun d A1 => .nx (ρ.set i (some d)) A1
section
variable {X : Cx} {W : WX} {a b c e tg : Expr} {es : List Expr} {st : Stmt} {sts sts' : List Stmt} {ma mb mc me : ME} {mt mu : MT} {ms : MA} {sa sb : MS} {pos p p2 : Pos}
theorem s_nil : DSs X W [] mNext := PSsi pss_nil fun D σ H ⟨m, A, ρ, R, E, h⟩ => PostS.nx R E h
/-- behind a statement, the rest -/
theorem seqD {K : PySem.W.Frag} {t : TS} {D : Ends} {σ : L2.St} {H : Hp} (hs : ∀ D' : Ends, tS K W sa D' σ H → t D' σ H) (h : tS K W (mSeq sa sb) D σ H) : tSeq t (tS K W sb) D σ H := by
  obtain ⟨m, A, ρ, R, E, h⟩ := h
  refine hs _ ⟨m, A, ρ, R, E, ?_⟩
  unfold mSeq at h
  cases hr : sa ρ A with
  | nx ρ1 A1 => rw [hr] at h; exact fun m' H' σ' e R' E' => ⟨m', A1, ρ1, R', E', PostS.mono e h⟩
  | rt d A1 => rw [hr] at h; exact h
  | bk ρ1 A1 => rw [hr] at h; exact h
  | ct ρ1 A1 => rw [hr] at h; exact h
  | exc C fs ρ1 A1 => rw [hr] at h; exact h
  | no => rw [hr] at h; exact h
theorem s_cons (h1 : DS X W st sa) (h2 : DSs X W sts sb) : DSs X W (st :: sts) (mSeq sa sb) := PSsi (pss_cons h1 h2) fun _ _ _ h => seqD (fun _ q => q) h
theorem s_one (h1 : DS X W st sa) : DSs X W [st] sa := pss_one h1
theorem s_expr (he : DE X W e me) (hs : swapsWith e none pos.line X.env = pure false := by rfl) : DS X W (.Expr e pos) (mDrop me) :=
  PSi (ps_expr he hs) fun D σ H ⟨m, A, ρ, R, E, h⟩ => tE.lift R E h fun m1 A1 d v H1 e1 R1 E1 r1 h1 => PostS.nx R1 E1 h1
theorem s_ret (he : DE X W e me) : DS X W (.Return (some e) pos) (mRet me) :=
  PSi (ps_ret he) fun D σ H ⟨m, A, ρ, R, E, h⟩ => tE.lift R E h fun m1 A1 d v H1 e1 R1 E1 r1 h1 => PostS.rt R1 r1 h1
theorem s_if (hc : DT X W c mt) (ha : DSs X W sts sa) (hb : DSs X W sts' sb) : DS X W (.If c sts sts' pos) (mIfS mt sa sb) :=
  PSi (ps_if hc ha hb) fun D σ H ⟨m, A, ρ, R, E, h⟩ => tT.lift R E h fun m1 A1 k H1 e1 R1 E1 h1 => by
    cases k with
    | true => exact ⟨m1, A1, ρ, R1, E1, h1⟩
    | false => exact ⟨m1, A1, ρ, R1, E1, h1⟩
theorem setD {K : PySem.W.Frag} {t : TE} {D : Ends} {σ : L2.St} {H : Hp} {i : Nat} (ht : ∀ Q : VK, tE K W me σ H Q → t σ H Q) (h : tS K W (mSet i me) D σ H) : tAsg t (gName i) D σ H := by
  obtain ⟨m, A, ρ, R, E, h⟩ := h
  exact ht _ (tE.lift R E h fun m1 A1 d v H1 e1 R1 E1 r1 h1 => PostS.nx R1 (E1.set r1 i) h1)
theorem s_set {i : Nat} {x : Str} {pos' : Pos} (hN : X.N.Nodup) (he : DE X W e me) (hi : X.N[i]? = some x := by rfl) (hx : Loc X.env.scope x := by first | exact Or.inl rfl | exact Or.inr rfl) (hs : swapsWith e (some (.Name x pos')) pos.line X.env = pure false := by rfl)
    (hf : X.fn x = true ∨ X.env.scope.names.lookup x = some .local := by first | exact .inl rfl | exact .inr rfl | assumption) : DS X W (.Assign [.Name x pos'] e pos) (mSet i me) := PSi (ps_set hN hi hx he hs hf) fun _ _ _ h => setD (fun _ q => q) h
/-- x, y = a, b -/
def mPar2 (i j : Nat) (ms : MA) : MS := fun ρ A => lift (ms ρ A) ρ fun ds A1 => match ds with
  | [x, y] => .nx ((ρ.set i (some x)).set j (some y)) A1
  | _ => .no
def mPar3 (i j l : Nat) (ms : MA) : MS := fun ρ A => lift (ms ρ A) ρ fun ds A1 => match ds with
  | [x, y, z] => .nx (((ρ.set i (some x)).set j (some y)).set l (some z)) A1
  | _ => .no
theorem par2D {K : PySem.W.Frag} {i j : Nat} {D : Ends} {σ : L2.St} {H : Hp} (h : tS K W (mPar2 i j ms) D σ H) : tPar i j (tA K W ms) D σ H := by
  obtain ⟨m, A, ρ, R, E, h⟩ := h
  refine tA.lift R E h fun m1 A1 ds vs H1 e1 R1 E1 r1 h1 => ?_
  split at h1
  · cases r1 with
    | cons r1 q => cases q with
      | cons r2 q => cases q; exact ⟨_, _, rfl, PostS.nx R1 ((E1.set r1 i).set r2 j) h1⟩
  · exact h1.elim
/-- x += e -/
def mAug (i : Nat) (f : D → D → AH → Res D) (me : ME) : MS := fun ρ A => match ρ[i]? with
  | some (some x) => lift ((me ρ A).bind fun y A1 => f x y A1) ρ fun z A2 => .nx (ρ.set i (some z)) A2
  | _ => .no
/-! ### targets -/
inductive Tg where
  | nm (i : Nat) | tp (ts : List Tg)
mutual
def bindT : Tg → D → Env → Option Env
  | .nm i, d, ρ => some (ρ.set i (some d))
  | .tp ts, .tup ds, ρ => bindTs ts ds ρ
  | .tp ts, .qtup ds, ρ => bindTs ts ds ρ
  | .tp _, _, _ => none
def bindTs : List Tg → List D → Env → Option Env
  | [], [], ρ => some ρ
  | t :: ts, d :: ds, ρ => (bindT t d ρ).bind fun ρ1 => bindTs ts ds ρ1
  | _, _, _ => none
end
def outside (sl : List Nat) (σ σ' : L2.St) : Prop := σ'.length = σ.length ∧ ∀ i, i ∉ sl → σ'[i]? = σ[i]?
def GD (K : PySem.W.Frag) (sl : List Nat) (g : TG) (bt : D → Env → Option Env) : Prop :=
  ∀ (m : Mp) (H : Hp) (ρ : Env) (σ : L2.St) (d : D) (v : V) (Q : L2.St → Hp → Prop) (ρ' : Env), REnv K m H ρ σ → RD K m H d v → bt d ρ = some ρ' → (∀ σ', REnv K m H ρ' σ' → outside sl σ σ' → Q σ' H) → g v σ H Q
def GDs (K : PySem.W.Frag) (sl : List Nat) (g : TGs) (bt : List D → Env → Option Env) : Prop :=
  ∀ (m : Mp) (H : Hp) (ρ : Env) (σ : L2.St) (ds : List D) (vs : List V) (Q : L2.St → Hp → Prop) (ρ' : Env), REnv K m H ρ σ → RDs K m H ds vs → bt ds ρ = some ρ' → (∀ σ', REnv K m H ρ' σ' → outside sl σ σ' → Q σ' H) → g vs σ H Q
theorem outside.refl (sl : List Nat) (σ : L2.St) : outside sl σ σ := ⟨rfl, fun _ _ => rfl⟩
theorem outside.trans {sl : List Nat} {σ σ1 σ2 : L2.St} (a : outside sl σ σ1) (b : outside sl σ1 σ2) : outside sl σ σ2 := ⟨b.1.trans a.1, fun i hi => (b.2 i hi).trans (a.2 i hi)⟩
theorem g_nm {K : PySem.W.Frag} {sl : List Nat} {i : Nat} (hi : i ∈ sl) : GD K sl (gName i) (bindT (.nm i)) := by
  intro m H ρ σ d v Q ρ' E r hb h
  cases hb
  exact h _ (E.set r i) ⟨List.length_set .., fun j hj => List.getElem?_set_ne fun z => hj (by rw [← z]; exact hi)⟩
theorem gs_nil {K : PySem.W.Frag} {sl : List Nat} : GDs K sl gNil (bindTs []) := by
  intro m H ρ σ ds vs Q ρ' E r hb h
  cases ds with
  | nil => cases r; cases hb; exact ⟨rfl, h σ E (outside.refl sl σ)⟩
  | cons d ds => cases hb
theorem gs_cons {K : PySem.W.Frag} {sl : List Nat} {g : TG} {gs : TGs} {t : Tg} {ts : List Tg} (h1 : GD K sl g (bindT t)) (h2 : GDs K sl gs (bindTs ts)) : GDs K sl (gCons g gs) (bindTs (t :: ts)) := by
  intro m H ρ σ ds vs Q ρ' E r hb h
  cases ds with
  | nil => cases hb
  | cons d ds =>
    cases r with
    | cons r rs =>
      unfold bindTs at hb
      cases hb1 : bindT t d ρ with
      | none => rw [hb1] at hb; cases hb
      | some ρ1 =>
        rw [hb1] at hb
        exact ⟨_, _, rfl, h1 m H ρ σ d _ _ ρ1 E r hb1 fun σ1 E1 o1 => h2 m H ρ1 σ1 ds _ _ ρ' E1 rs hb fun σ2 E2 o2 => h σ2 E2 (o1.trans o2)⟩
theorem bindTs_len : ∀ (ts : List Tg) (ds : List D) (ρ ρ' : Env), bindTs ts ds ρ = some ρ' → ds.length = ts.length
  | [], [], _, _, _ => rfl
  | [], _ :: _, _, _, h => by cases h
  | t :: ts, [], _, _, h => by cases h
  | t :: ts, d :: ds, ρ, ρ', h => by
    unfold bindTs at h
    cases hb1 : bindT t d ρ with
    | none => rw [hb1] at h; cases h
    | some ρ1 =>
      rw [hb1] at h
      rw [List.length_cons, List.length_cons, bindTs_len ts ds ρ1 ρ' h]
theorem g_tp {K : PySem.W.Frag} {sl : List Nat} {gs : TGs} {ts : List Tg} {n : Nat} (hn : n = ts.length) (h1 : GDs K sl gs (bindTs ts)) : GD K sl (gTup K n gs) (bindT (.tp ts)) := by
  intro m H ρ σ d v Q ρ' E r hb h
  cases d with
  | tup ds =>
    cases r with
    | tup s r => exact ⟨_, _, rfl, s.sq, by rw [hn, ← r.length]; exact bindTs_len ts ds ρ ρ' hb, h1 m H ρ σ ds _ Q ρ' E r hb h⟩
  | qtup ds =>
    cases r with
    | qtup s n r => exact ⟨_, _, rfl, .inl s, by rw [hn, ← r.length]; exact bindTs_len ts ds ρ ρ' hb, h1 m H ρ σ ds _ Q ρ' E r hb h⟩
  | _ => cases hb
mutual
def gOf (K : PySem.W.Frag) : Tg → TG
  | .nm i => gName i
  | .tp ts => gTup K ts.length (gOfs K ts)
def gOfs (K : PySem.W.Frag) : List Tg → TGs
  | [] => gNil
  | t :: ts => gCons (gOf K t) (gOfs K ts)
end
mutual
def slots : Tg → List Nat
  | .nm i => [i]
  | .tp ts => slotss ts
def slotss : List Tg → List Nat
  | [] => []
  | t :: ts => slots t ++ slotss ts
end
mutual
theorem gOf_ok {K : PySem.W.Frag} {sl : List Nat} : ∀ t : Tg, (∀ i ∈ slots t, i ∈ sl) → GD K sl (gOf K t) (bindT t)
  | .nm i, h => by
    unfold gOf
    exact g_nm (h i (by simp [slots]))
  | .tp ts, h => by
    unfold gOf
    exact g_tp rfl (gOfs_ok ts fun i hi => h i (by simpa [slots] using hi))
theorem gOfs_ok {K : PySem.W.Frag} {sl : List Nat} : ∀ ts : List Tg, (∀ i ∈ slotss ts, i ∈ sl) → GDs K sl (gOfs K ts) (bindTs ts)
  | [], _ => by unfold gOfs; exact gs_nil
  | t :: ts, h => by
    unfold gOfs
    exact gs_cons (gOf_ok t fun i hi => h i (by simp [slotss, hi])) (gOfs_ok ts fun i hi => h i (by simp [slotss, hi]))
end
abbrev DG (X : Cx) (e : Expr) (t : Tg) : Prop := PG X e (gOf X.K t)
abbrev DGs (X : Cx) (es : List Expr) (ts : List Tg) : Prop := PGs X es (gOfs X.K ts)
theorem tg_nm {i : Nat} {x : Str} (hN : X.N.Nodup) (hi : X.N[i]? = some x := by rfl) (hx : Loc X.env.scope x := by first | exact Or.inl rfl | exact Or.inr rfl) (hf : X.fn x = true ∨ X.env.scope.names.lookup x = some .local := by first | exact .inl rfl | exact .inr rfl | assumption) :
    DG X (.Name x pos) (.nm i) := pg_name hN hi hx hf
theorem tgs_nil : DGs X [] [] := pgs_nil
theorem tgs_cons {t : Tg} {ts : List Tg} (h1 : DG X e t) (h2 : DGs X es ts) (hs : (assignEach (e :: es) X.env).map (·.2) = assign e X.env :: (assignEach es X.env).map (·.2) := by rfl) : DGs X (e :: es) (t :: ts) := pgs_cons h1 h2 hs
theorem tg_tp {ts : List Tg} {k : Nat} (hc : X.calm = true) (h : DGs X es ts) (hn : (assignEach es X.env).length = ts.length := by rfl) (hst : (assignEach es X.env).findIdx? (·.1) = none := by rfl) : DG X (.Tuple es k pos) (.tp ts) := pg_tup hc h hn hst
/-- target = e -/
def mAsg (t : Tg) (me : ME) : MS := fun ρ A => lift (me ρ A) ρ fun d A1 => match bindT t d ρ with
  | some ρ1 => .nx ρ1 A1
  | none => .no
theorem s_asg {t : Tg} (he : DE X W e me) (hg : DG X tg t) (hs : swapsWithSole [tg] e pos.line X.env = pure false := by rfl) (hw : swappedStores [tg] e X.env = pure none := by rfl) (h1 : (assignEach [tg] X.env).map (·.2) = [assign tg X.env] := by rfl) :
    DS X W (.Assign [tg] e pos) (mAsg t me) := PSi (ps_asg he hg hs hw h1) fun D σ H ⟨m, A, ρ, R, E, h⟩ => tE.lift R E h fun m1 A1 d v H1 e1 R1 E1 r1 h1 => by
  split at h1
  · rename_i ρ1 hb
    exact gOf_ok (sl := slots t) t (fun _ h => h) m1 H1 ρ σ d v _ ρ1 E1 r1 hb fun σ' E' _ => PostS.nx R1 E' h1
  · exact h1.elim
end
end DM
end
section
set_option maxHeartbeats 2000000
namespace DM
open PySem PySem.Spec PyProof.Rows L2
/-! ### what is walked -/
inductive ItV where
  | sq (d : D) | rng (lo hi : Int) | en (d : D) | zp (d e : D) | fd (n : Nat) (od : Obj) (ws : List (Key × V)) (kvs : List (Key × D))
/-- a key as data -/
def keyD : Key → D
  | .inl i => .int i
  | .inr x => .str x
/-- numbered -/
def enumD : Nat → List D → List D
  | _, [] => []
  | i, x :: xs => .qtup [.int (i : Nat), x] :: enumD (i + 1) xs
theorem enum_length : ∀ (xs : List D) (i : Nat), (enumD i xs).length = xs.length
  | [], _ => rfl
  | x :: xs, i => by rw [enumD, List.length_cons, enum_length xs, List.length_cons]
theorem enum_at : ∀ (xs : List D) (i j : Nat), (enumD i xs)[j]? = xs[j]?.map fun x => .qtup [.int ((i + j : Nat) : Int), x]
  | [], _, _ => rfl
  | x :: xs, i, 0 => rfl
  | x :: xs, i, j + 1 => by
    rw [enumD, List.getElem?_cons_succ, List.getElem?_cons_succ, enum_at xs, show i + 1 + j = i + (j + 1) by omega]
def zipD : List D → List D → List D
  | x :: xs, y :: ys => .qtup [x, y] :: zipD xs ys
  | _, _ => []
theorem zip_length : ∀ (xs ys : List D), (zipD xs ys).length = min xs.length ys.length
  | [], ys => by cases ys <;> simp [zipD]
  | x :: xs, [] => by simp [zipD]
  | x :: xs, y :: ys => by rw [zipD, List.length_cons, zip_length xs ys, List.length_cons, List.length_cons]; omega
theorem zip_at : ∀ (xs ys : List D) (i : Nat) (d : D), (zipD xs ys)[i]? = some d → ∃ x y, d = .qtup [x, y] ∧ xs[i]? = some x ∧ ys[i]? = some y
  | [], ys, i, d, h => by cases ys <;> simp [zipD] at h
  | x :: xs, [], i, d, h => by simp [zipD] at h
  | x :: xs, y :: ys, 0, d, h => by
    simp [zipD] at h
    exact ⟨x, y, h.symm, rfl, rfl⟩
  | x :: xs, y :: ys, i + 1, d, h => by
    simp only [zipD, List.getElem?_cons_succ] at h ⊢
    exact zip_at xs ys i d h
open Classical in
noncomputable def itemsOf (A : AH) : ItV → Option (List D)
  | .sq d => seqOf A d
  | .en d => (seqOf A d).map (enumD 0)
  | .zp d e => match seqOf A d, seqOf A e with
    | some xs, some ys => some (zipD xs ys)
    | _, _ => none
  | .rng lo hi => some ((List.range (hi - lo).toNat).map fun i => .int (lo + (i : Nat)))
  | .fd n od ws kvs => if A[n]? = some (.fk od ws kvs) then some (kvs.map fun kv => keyD kv.1) else none
structure Iter (K : PySem.W.Frag) (J : It) (m : Mp) (H : Hp) (iv : ItV) : Prop where
  go : ∀ (m' : Mp) (A' : AH) (H' : Hp) (all : List D) (i : Nat) (d : D), Ext m H m' H' → Rel K m' A' H' → itemsOf A' iv = some all → all[i]? = some d → J.go i H' ∧ ∀ x H'', J.yld i H' x H'' → Rel K m' A' H'' ∧ Ext m' H' m' H'' ∧ RD K m' H'' d x
  stop : ∀ (m' : Mp) (A' : AH) (H' : Hp) (all : List D) (i : Nat), Ext m H m' H' → Rel K m' A' H' → itemsOf A' iv = some all → all.length ≤ i → J.stop i H'
abbrev MI := Env → AH → Res ItV
def tI (K : PySem.W.Frag) (W : WX) (mi : MI) : TI := fun σ H Q => ∃ m A ρ, Rel K m A H ∧ REnv K m H ρ σ ∧ Post K (fun m' H' iv J => Iter K J m' H' iv) W σ m H (mi ρ A) Q
abbrev DI (X : Cx) (W : WX) (tg e : Expr) (mi : MI) : Prop := PI X tg e (tI X.K W mi)
theorem PIor {X : Cx} {tg e : Expr} {t t' u : TI} (h : PI X tg e t) (h' : PI X tg e t') (q : ∀ σ H R, u σ H R → t σ H R ∨ t' σ H R) : PI X tg e u := ⟨fun pins s σ H Q I w => (q σ H Q w).elim (h.run pins s σ H Q I) (h'.run pins s σ H Q I)⟩
theorem PIi {X : Cx} {tg e : Expr} {t u : TI} (h : PI X tg e t) (q : ∀ σ H R, u σ H R → t σ H R) : PI X tg e u := ⟨fun pins s σ H Q I w => h.run pins s σ H Q I (q σ H Q w)⟩
section
variable {X : Cx} {W : WX} {a b c e tg : Expr} {es : List Expr} {ma mb mc me : ME} {mt mu : MT} {ms : MA} {mi : MI} {sa sb : MS} {pos p p2 : Pos} {sts : List Stmt} {t : Tg}
theorem iter_list {K : PySem.W.Frag} {m : Mp} {A : AH} {H : Hp} {d : D} {q : Addr} (hd : isTup d = false) (r : RD K m H d (.ref q)) : Iter K (Itl K q) m H (.sq d) := by
  refine ⟨fun m' A' H' all i x e R hs hi => ?_, fun m' A' H' all i e R hs hl => ?_⟩
  · obtain ⟨q', vs, hq, rs, sq⟩ := seqOf_is R (RD.mono e _ _ r) hs
    cases hq
    rcases sq with ⟨rfl, _⟩ | ⟨_, sq⟩
    · cases hd
    · obtain ⟨v, h1, h2⟩ := rs.get hi
      refine ⟨⟨vs, v, sq, h1⟩, fun y H'' hy => ?_⟩
      obtain ⟨rfl, hy⟩ := hy
      have := hy vs sq
      rw [h1] at this; cases this
      exact ⟨R, Ext.refl _ _, h2⟩
  · obtain ⟨q', vs, hq, rs, sq⟩ := seqOf_is R (RD.mono e _ _ r) hs
    cases hq
    rcases sq with ⟨rfl, _⟩ | ⟨_, sq⟩
    · cases hd
    · exact ⟨vs, sq, by rw [← rs.length]; exact hl⟩
theorem iter_tup {K : PySem.W.Frag} {m : Mp} {A : AH} {H : Hp} {xs : List D} {q : Addr} (r : RD K m H (.tup xs) (.ref q)) : Iter K (Itt K q) m H (.sq (.tup xs)) := by
  refine ⟨fun m' A' H' all i x e R hs hi => ?_, fun m' A' H' all i e R hs hl => ?_⟩
  · cases hs
    cases RD.mono e _ _ r with
    | tup s rs =>
      obtain ⟨v, h1, h2⟩ := rs.get hi
      refine ⟨⟨_, v, s.sq, h1⟩, fun y H'' hy => ?_⟩
      obtain ⟨rfl, hy⟩ := hy
      have := hy _ s.sq
      rw [h1] at this; cases this
      exact ⟨R, Ext.refl _ _, h2⟩
  · cases hs
    cases RD.mono e _ _ r with
    | tup s rs => exact ⟨_, s.sq, by rw [← rs.length]; exact hl⟩
theorem iter_rng {K : PySem.W.Frag} {m : Mp} {H : Hp} {lo hi : Int} : Iter K (Itr lo (hi - lo).toNat) m H (.rng lo hi) := by
  refine ⟨fun m' A' H' all i x e R hs hx => ?_, fun m' A' H' all i e R hs hl => ?_⟩
  · cases hs
    have hlt : i < (hi - lo).toNat := by
      have := (List.getElem?_eq_some_iff.mp hx).1
      rw [List.length_map, List.length_range] at this
      exact this
    rw [List.getElem?_map, List.getElem?_range hlt] at hx
    cases hx
    refine ⟨hlt, fun y H'' hy => ?_⟩
    obtain ⟨rfl, rfl⟩ := hy
    exact ⟨R, Ext.refl _ _, .int _⟩
  · cases hs
    rw [List.length_map, List.length_range] at hl
    exact hl
def mSq (me : ME) : MI := fun ρ A => (me ρ A).bind fun d A1 => match seqOf A1 d with
  | some _ => .ok (.sq d) A1
  | none => .no
theorem i_sq (he : DE X W e me) : DI X W tg e (mSq me) := by
  refine PIor (pi_list he) (pi_tup he) fun σ H Q ⟨m, A, ρ, R, E, h⟩ => ?_
  by_cases ht : ∃ xs A1, me ρ A = .ok (.tup xs) A1
  · obtain ⟨xs, A1, ht⟩ := ht
    refine .inr ⟨m, A, ρ, R, E, ?_⟩
    have h' : Post X.K (fun m' H' iv J => Iter X.K J m' H' iv) W σ m H ((me ρ A).bind fun d A1 => match seqOf A1 d with | some _ => .ok (.sq d) A1 | none => .no) Q := h
    rw [ht] at h' ⊢
    intro m1 H1 v e1 R1 r1
    cases r1 with
    | tup s rs => exact ⟨_, rfl, ⟨_, s.sq⟩, h' m1 H1 _ e1 R1 (iter_tup (A := A1) (.tup s rs))⟩
  · refine .inl ⟨m, A, ρ, R, E, ?_⟩
    have h' : Post X.K (fun m' H' iv J => Iter X.K J m' H' iv) W σ m H ((me ρ A).bind fun d A1 => match seqOf A1 d with | some _ => .ok (.sq d) A1 | none => .no) Q := h
    cases hr : me ρ A with
    | ok d A1 =>
      rw [hr] at h'
      intro m1 H1 v e1 R1 r1
      rw [bind_ok] at h'
      split at h'
      · rename_i xs hs
        obtain ⟨q, vs, rfl, rs, sq⟩ := seqOf_is R1 r1 hs
        rcases sq with ⟨rfl, _⟩ | ⟨hd, sq⟩
        · exact (ht ⟨_, _, hr⟩).elim
        · exact ⟨q, rfl, ⟨vs, sq⟩, h' m1 H1 _ e1 R1 (iter_list (A := A1) hd r1)⟩
      · exact h'.elim
    | exc C fs A1 => rw [hr] at h'; exact h'
    | no => rw [hr] at h'; exact h'
/-- range(n), range(a, b) -/
def mR1 (ms : MA) : MI := fun ρ A => (ms ρ A).bind fun ds A1 => match ds with
  | [.int j] => if -(2 ^ 62) ≤ j ∧ j < 2 ^ 62 then .ok (.rng 0 j) A1 else .no
  | _ => .no
def mR2 (ms : MA) : MI := fun ρ A => (ms ρ A).bind fun ds A1 => match ds with
  | [.int i, .int j] => if -(2 ^ 62) ≤ i ∧ i < 2 ^ 62 ∧ -(2 ^ 62) ≤ j ∧ j < 2 ^ 62 then .ok (.rng i j) A1 else .no
  | _ => .no
theorem i_r1 (hm : X.mg "range" = none) (ha : DA X W [a] ms) (hg : Gl X "range" := by rfl) (hs : starEach [a] X.env = [(false, eval a X.env)] := by rfl) : DI X W tg (.Call (.Name "range" p) [a] [] pos) (mR1 ms) :=
  PIi (pi_range1 hg hm ha hs) fun σ H Q ⟨m, A, ρ, R, E, h⟩ => tA.bind R E h fun m1 A1 ds vs H1 e1 R1 E1 r1 h1 => by
    split at h1
    · obtain ⟨v, rfl, r⟩ := r1.one
      cases r
      split at h1
      · rename_i j hj
        have z := iter_rng (K := X.K) (m := m1) (H := H1) (lo := 0) (hi := j)
        rw [Int.sub_zero] at z
        exact ⟨j, rfl, hj.1, hj.2, Post.here R1 z h1⟩
      · exact h1.elim
    · exact h1.elim
theorem i_r2 (hm : X.mg "range" = none) (ha : DA X W [a, b] ms) (hg : Gl X "range" := by rfl) (hs : starEach [a, b] X.env = [(false, eval a X.env), (false, eval b X.env)] := by rfl) (hs2 : starEach [b] X.env = [(false, eval b X.env)] := by rfl) :
    DI X W tg (.Call (.Name "range" p) [a, b] [] pos) (mR2 ms) :=
  PIi (pi_range2 hg hm ha hs hs2) fun σ H Q ⟨m, A, ρ, R, E, h⟩ => tA.bind R E h fun m1 A1 ds vs H1 e1 R1 E1 r1 h1 => by
    split at h1
    · cases r1 with
      | cons r r1 =>
        obtain ⟨v, rfl, r'⟩ := r1.one
        cases r
        cases r'
        split at h1
        · rename_i i j hj
          exact ⟨i, j, rfl, hj, Post.here R1 iter_rng h1⟩
        · exact h1.elim
    · exact h1.elim
/-! ### for -/
open Classical in
noncomputable def forGo (iv : ItV) (all : List D) (t : Tg) (sb : MS) : List D → Env → AH → SRes
  | [], ρ, A => if itemsOf A iv = some all then .nx ρ A else .no
  | x :: xs, ρ, A => if itemsOf A iv = some all then (match bindT t x ρ with
    | some ρ1 => (match sb ρ1 A with
      | .nx ρ2 A2 => forGo iv all t sb xs ρ2 A2
      | .ct ρ2 A2 => forGo iv all t sb xs ρ2 A2
      | .bk ρ2 A2 => .nx ρ2 A2
      | .rt d A2 => .rt d A2
      | .exc C fs ρ2 A2 => .exc C fs ρ2 A2
      | .no => .no)
    | none => .no) else .no
noncomputable def mFor (mi : MI) (t : Tg) (sb : MS) : MS := fun ρ A => lift (mi ρ A) ρ fun iv A1 => match itemsOf A1 iv with
  | some all => forGo iv all t sb all ρ A1
  | none => .no
theorem s_for (hp : PassesOwn (model X.prog X.w) X.A X.env X.xe) (hc : X.calm = true) (hi : DI X W tg e mi) (hg : DG X tg t) (hb : DSs X W sts sb) (hs : ∀ x, foldedSetIterable e X.env x = pure x := by intro _; rfl) : DS X W (.For tg e sts [] pos) (mFor mi t sb) :=
  PSi (ps_for hp hc hi hg hb hs) fun D0 σ H ⟨m, A, ρ, R, E, h⟩ => by
    refine ⟨m, A, ρ, R, E, post_lift E h fun m1 A1 iv J H1 e1 R1 itr h1 => ?_⟩
    have E1 := E.mono e1
    split at h1
    · rename_i all hall
      refine ⟨fun i n σ' H' => n = all.length - i ∧ i ≤ all.length ∧ ∃ m' A' ρ', Ext m1 H1 m' H' ∧ Rel X.K m' A' H' ∧ REnv X.K m' H' ρ' σ' ∧ PostS X.K W m' H' (forGo iv all t sb (all.drop i) ρ' A') D0,
        ⟨all.length, by simp, Nat.zero_le _, m1, A1, ρ, Ext.refl _ _, R1, E1, by simpa using h1⟩, ?_⟩
      rintro i n σ' H' ⟨rfl, hi, m', A', ρ', e', R', E', h'⟩
      by_cases hlt : i < all.length
      · rw [List.drop_eq_getElem_cons hlt] at h'
        unfold forGo at h'
        split at h'
        · rename_i hit
          have go := itr.go m' A' H' all i _ e' R' hit (List.getElem?_eq_getElem hlt)
          refine .inr ⟨go.1, fun σ2 H2 => ∃ m2 A2 ρ2, Ext m1 H1 m2 H2 ∧ Rel X.K m2 A2 H2 ∧ REnv X.K m2 H2 ρ2 σ2 ∧ PostS X.K W m2 H2 (forGo iv all t sb (all.drop (i + 1)) ρ2 A2) D0,
            fun σ2 H2 h2 => ⟨all.length - (i + 1), by omega, rfl, hlt, h2⟩, fun x H2 hy => ?_⟩
          obtain ⟨R2, e2, rx⟩ := go.2 x H2 hy
          split at h'
          · rename_i ρ1 hb1
            refine gOf_ok (sl := slots t) t (fun _ h => h) m' H2 ρ' σ' _ x _ ρ1 (E'.mono e2) rx hb1 fun σ3 E3 _ => ⟨m', A', ρ1, R2, E3, ?_⟩
            cases hr : sb ρ1 A' with
            | nx ρ2 A2 => rw [hr] at h'; exact fun m3 H3 σ4 e3 R3 E4 => ⟨m3, A2, ρ2, (e'.trans e2).trans e3, R3, E4, PostS.mono (e2.trans e3) h'⟩
            | ct ρ2 A2 => rw [hr] at h'; exact fun m3 H3 σ4 e3 R3 E4 => ⟨m3, A2, ρ2, (e'.trans e2).trans e3, R3, E4, PostS.mono (e2.trans e3) h'⟩
            | bk ρ2 A2 => rw [hr] at h'; exact fun m3 H3 σ4 e3 R3 E4 => h' m3 H3 σ4 (e2.trans e3) R3 E4
            | rt d A2 => rw [hr] at h'; exact fun m3 H3 v e3 R3 r3 => h' m3 H3 v (e2.trans e3) R3 r3
            | exc C fs ρ2 A2 => rw [hr] at h'; exact fun m3 H3 dx gs σ4 e3 => h' m3 H3 dx gs σ4 (e2.trans e3)
            | no => rw [hr] at h'; exact h'
          · exact h'.elim
        · exact h'.elim
      · have hz : all.drop i = [] := List.drop_eq_nil_of_le (by omega)
        rw [hz] at h'
        unfold forGo at h'
        split at h'
        · rename_i hit
          exact .inl ⟨itr.stop m' A' H' all i e' R' hit (by omega), PostS.nx R' E' h'⟩
        · exact h'.elim
    · exact h1.elim
/-! ### while -/
def iterW (mt : MT) (sb : MS) : Nat → Env → AH → SRes
  | 0, _, _ => .no
  | n + 1, ρ, A => match mt ρ A with
    | .ok true A1 => (match sb ρ A1 with
      | .nx ρ2 A2 => iterW mt sb n ρ2 A2
      | .ct ρ2 A2 => iterW mt sb n ρ2 A2
      | .bk ρ2 A2 => .nx ρ2 A2
      | .rt d A2 => .rt d A2
      | .exc C fs ρ2 A2 => .exc C fs ρ2 A2
      | .no => .no)
    | .ok false A1 => .nx ρ A1
    | .exc C fs A1 => .exc C fs ρ A1
    | .no => .no
theorem iterW_more (mt : MT) (sb : MS) : ∀ (n : Nat) (ρ : Env) (A : AH), iterW mt sb n ρ A ≠ .no → iterW mt sb (n + 1) ρ A = iterW mt sb n ρ A
  | 0, _, _, h => (h rfl).elim
  | n + 1, ρ, A, h => by
    unfold iterW at h ⊢
    split
    · rename_i A1 ht
      rw [ht] at h
      simp only at h
      split
      · rename_i ρ2 A2 hb
        rw [hb] at h
        exact iterW_more mt sb n ρ2 A2 h
      · rename_i ρ2 A2 hb
        rw [hb] at h
        exact iterW_more mt sb n ρ2 A2 h
      · rfl
      · rfl
      · rfl
      · rfl
    · rfl
    · rfl
    · rfl
theorem iterW_le (mt : MT) (sb : MS) {n k : Nat} {ρ : Env} {A : AH} (h : iterW mt sb n ρ A ≠ .no) (hk : n ≤ k) : iterW mt sb k ρ A = iterW mt sb n ρ A := by
  induction k with
  | zero => cases Nat.le_zero.mp hk; rfl
  | succ k ih =>
    by_cases hz : n ≤ k
    · have q := ih hz
      rw [iterW_more mt sb k ρ A (by rw [q]; exact h), q]
    · have : n = k + 1 := by omega
      rw [this]
open Classical in
noncomputable def mWhile (mt : MT) (sb : MS) : MS := fun ρ A => if h : ∃ n, iterW mt sb n ρ A ≠ .no then iterW mt sb (Classical.choose h) ρ A else .no
theorem mWhile_eq {mt : MT} {sb : MS} {n : Nat} {ρ : Env} {A : AH} {r : SRes} (h : iterW mt sb n ρ A = r) (hr : r ≠ .no) : mWhile mt sb ρ A = r := by
  have hx : ∃ n, iterW mt sb n ρ A ≠ .no := ⟨n, by rw [h]; exact hr⟩
  unfold mWhile
  rw [dif_pos hx]
  have hs := Classical.choose_spec hx
  rcases Nat.le_total n (Classical.choose hx) with hle | hle
  · rw [iterW_le mt sb (by rw [h]; exact hr) hle, h]
  · rw [← iterW_le mt sb hs hle, h]
theorem s_while (hp : PassesOwn (model X.prog X.w) X.A X.env X.xe) (hc : DT X W c mt) (hb : DSs X W sts sb) : DS X W (.While c sts [] pos) (mWhile mt sb) :=
  PSi (ps_while hp hc hb) fun D0 σ H ⟨m, A, ρ, R, E, h⟩ => by
    unfold mWhile at h
    split at h
    · rename_i hx
      refine ⟨fun n σ' H' => ∃ m' A' ρ', Rel X.K m' A' H' ∧ REnv X.K m' H' ρ' σ' ∧ PostS X.K W m' H' (iterW mt sb n ρ' A') D0, ⟨_, m, A, ρ, R, E, h⟩, ?_⟩
      rintro n σ' H' ⟨m', A', ρ', R', E', h'⟩
      cases n with
      | zero => exact h'.elim
      | succ n =>
        unfold iterW at h'
        refine ⟨m', A', ρ', R', E', ?_⟩
        cases ht : mt ρ' A' with
        | ok k A1 =>
          rw [ht] at h'
          intro m1 H1 b e1 R1 hb
          subst hb
          have E1 := E'.mono e1
          cases k with
          | true =>
            rw [if_pos rfl]
            refine ⟨fun σ2 H2 => ∃ m2 A2 ρ2, Rel X.K m2 A2 H2 ∧ REnv X.K m2 H2 ρ2 σ2 ∧ PostS X.K W m2 H2 (iterW mt sb n ρ2 A2) D0, fun σ2 H2 h2 => ⟨n, Nat.lt_succ_self n, h2⟩, m1, A1, ρ', R1, E1, ?_⟩
            simp only at h'
            cases hr : sb ρ' A1 with
            | nx ρ2 A2 => rw [hr] at h'; exact fun m3 H3 σ4 e3 R3 E4 => ⟨m3, A2, ρ2, R3, E4, PostS.mono (e1.trans e3) h'⟩
            | ct ρ2 A2 => rw [hr] at h'; exact fun m3 H3 σ4 e3 R3 E4 => ⟨m3, A2, ρ2, R3, E4, PostS.mono (e1.trans e3) h'⟩
            | bk ρ2 A2 => rw [hr] at h'; exact fun m3 H3 σ4 e3 R3 E4 => h' m3 H3 σ4 (e1.trans e3) R3 E4
            | rt d A2 => rw [hr] at h'; exact fun m3 H3 v e3 R3 r3 => h' m3 H3 v (e1.trans e3) R3 r3
            | exc C fs ρ2 A2 => rw [hr] at h'; exact fun m3 H3 dx gs σ4 e3 => h' m3 H3 dx gs σ4 (e1.trans e3)
            | no => rw [hr] at h'; exact h'
          | false =>
            rw [if_neg (by decide)]
            exact PostS.nx R1 E1 (PostS.mono e1 h')
        | exc C fs A1 =>
          rw [ht] at h'
          exact fun m1 H1 dx gs e1 R1 hd hf => h' m1 H1 dx gs σ' e1 R1 (E'.mono e1) hd hf
        | no => rw [ht] at h'; exact h'
    · exact h.elim
end
end DM
end
section
set_option maxHeartbeats 2000000
namespace DM
open PySem PySem.Spec PyProof.Rows L2
/-! ### comprehensions -/
def wipeD (ρ : Env) : List Nat → Env
  | [] => ρ
  | v :: vs => (wipeD ρ vs).set v none
theorem REnv.wipe {K : PySem.W.Frag} {m : Mp} {H : Hp} {ρ : Env} {σ : L2.St} (h : REnv K m H ρ σ) : ∀ vs : List Nat, REnv K m H (wipeD ρ vs) (L2.wipe σ vs)
  | [] => h
  | v :: vs => (REnv.wipe h vs).unset v none
theorem wipe_at {σ : L2.St} {i : Nat} : ∀ {vs : List Nat}, (L2.wipe σ vs)[i]? = if i ∈ vs then (if i < σ.length then some none else none) else σ[i]?
  | [] => by simp [L2.wipe]
  | v :: vs => by
    unfold L2.wipe
    have ih := wipe_at (σ := σ) (i := i) (vs := vs)
    have hl := L2.wipe_length σ vs
    by_cases hv : v = i
    · subst hv
      by_cases hl2 : v < σ.length
      · rw [List.getElem?_set_self (by rw [hl]; exact hl2)]
        simp [hl2]
      · rw [List.getElem?_eq_none (by rw [List.length_set, hl]; omega)]
        simp [hl2]
    · rw [List.getElem?_set_ne hv, ih]
      have : (i ∈ v :: vs) ↔ i ∈ vs := by simp [Ne.symm hv]
      simp only [this]
theorem wipe_same {σ σ2 : L2.St} {vs sl : List Nat} (h : outside sl (L2.wipe σ vs) σ2) (hs : ∀ i ∈ sl, i ∈ vs) : L2.wipe σ2 vs = L2.wipe σ vs := by
  have hl : σ2.length = σ.length := h.1.trans (L2.wipe_length σ vs)
  refine List.ext_getElem? fun i => ?_
  rw [wipe_at, wipe_at]
  by_cases hi : i ∈ vs
  · rw [if_pos hi, if_pos hi, hl]
  · rw [if_neg hi, if_neg hi, h.2 i fun z => hi (hs i z), wipe_at, if_neg hi]
theorem RD.less {K : PySem.W.Frag} {m m' : Mp} {H : Hp} (h1 : m'.1 = m.1) (h2 : ∀ p ∈ m'.2, p ∈ m.2) (d : D) (v : V) (h : RD K m H d v) : RD K m' H d v :=
  RD.move (fun i a e => by rw [h1]; exact e) (fun a o e n => ⟨e, fun y => n.1 (by rw [← h1]; exact y), fun y => n.2 (h2 _ y)⟩) d v h
theorem RDs.less {K : PySem.W.Frag} {m m' : Mp} {H : Hp} (h1 : m'.1 = m.1) (h2 : ∀ p ∈ m'.2, p ∈ m.2) (d : List D) (v : List V) (h : RDs K m H d v) : RDs K m' H d v :=
  RDs.move (fun i a e => by rw [h1]; exact e) (fun a o e n => ⟨e, fun y => n.1 (by rw [← h1]; exact y), fun y => n.2 (h2 _ y)⟩) d v h
theorem grow_r {m : Mp} {pv : List Addr} {q : Addr} (i : Nat) (a : Addr) (h : m.1[i]? = some a) : (m.1 ++ [q], pv).1[i]? = some a := by
  show (m.1 ++ [q])[i]? = _
  rw [List.getElem?_append_left (List.getElem?_eq_some_iff.mp h).1]; exact h
theorem grow_o {m : Mp} {pv : List Addr} {q : Addr} {H : Hp} (hq : q ∈ m.2) (h2 : ∀ p ∈ pv, p ∈ m.2) (a : Addr) (o : HO) (e : H a = some o) (n : Out m a) : H a = some o ∧ Out (m.1 ++ [q], pv) a := by
  refine ⟨e, fun y => ?_, fun y => n.2 (h2 _ y)⟩
  rcases List.mem_append.mp y with y | y
  · exact n.1 y
  · exact n.2 (by rw [List.mem_singleton.mp y]; exact hq)
theorem RD.grow {K : PySem.W.Frag} {m : Mp} {pv : List Addr} {q : Addr} {H : Hp} (hq : q ∈ m.2) (h2 : ∀ p ∈ pv, p ∈ m.2) (d : D) (v : V) (h : RD K m H d v) : RD K (m.1 ++ [q], pv) H d v := RD.move grow_r (grow_o hq h2) d v h
theorem RDs.grow {K : PySem.W.Frag} {m : Mp} {pv : List Addr} {q : Addr} {H : Hp} (hq : q ∈ m.2) (h2 : ∀ p ∈ pv, p ∈ m.2) (d : List D) (v : List V) (h : RDs K m H d v) : RDs K (m.1 ++ [q], pv) H d v := RDs.move grow_r (grow_o hq h2) d v h
theorem Rel.less {K : PySem.W.Frag} {m m' : Mp} {A : AH} {H : Hp} (h1 : m'.1 = m.1) (h2 : ∀ p ∈ m'.2, p ∈ m.2) (R : Rel K m A H) : Rel K m' A H := by
  refine ⟨by rw [h1]; exact R.len, by rw [h1]; exact R.nd, fun p hp => R.pv p (h2 p hp), fun n o hn => ?_⟩
  obtain ⟨q, h3, h4⟩ := R.obj n o hn
  exact ⟨q, by rw [h1]; exact h3, h4.move (fun i a e => by rw [h1]; exact e) (fun a o e n => ⟨e, fun y => n.1 (by rw [← h1]; exact y), fun y => n.2 (h2 _ y)⟩) rfl⟩
theorem past_o {m : Mp} {H : Hp} {q : Addr} {o : HO} (hq : q ∈ m.2) (a : Addr) (u : HO) (e : H a = some u) (n : Out m a) : upd H q o a = some u ∧ Out m a :=
  ⟨by rw [upd_ne fun z => n.2 (by rw [z]; exact hq)]; exact e, n⟩
theorem RD.past {K : PySem.W.Frag} {m : Mp} {H : Hp} {q : Addr} {o : HO} (hq : q ∈ m.2) (d : D) (v : V) (h : RD K m H d v) : RD K m (upd H q o) d v := RD.move (fun _ _ e => e) (past_o hq) d v h
theorem RDs.past {K : PySem.W.Frag} {m : Mp} {H : Hp} {q : Addr} {o : HO} (hq : q ∈ m.2) (d : List D) (v : List V) (h : RDs K m H d v) : RDs K m (upd H q o) d v := RDs.move (fun _ _ e => e) (past_o hq) d v h
theorem Rel.past {K : PySem.W.Frag} {m : Mp} {A : AH} {H : Hp} {q : Addr} {o : HO} (hq : q ∈ m.2) (hn : q ∉ m.1) (R : Rel K m A H) : Rel K m A (upd H q o) := by
  refine ⟨R.len, R.nd, fun p hp z => ?_, fun n u hu => ?_⟩
  · by_cases hpq : p = q
    · rw [hpq, upd_same] at z; cases z
    · rw [upd_ne hpq] at z; exact R.pv p hp z
  · obtain ⟨p, h3, h4⟩ := R.obj n u hu
    have hpq : p ≠ q := fun y => hn (by rw [← y]; exact List.mem_of_getElem? h3)
    exact ⟨p, h3, h4.move (fun _ _ e => e) (past_o hq) (upd_ne hpq)⟩
open Classical in
noncomputable def compGo (iv : ItV) (all : List D) (t : Tg) (tt : MT) (me : ME) (ρ : Env) : List D → List D → AH → Res (List D)
  | [], acc, A => if itemsOf A iv = some all then .ok acc A else .no
  | x :: xs, acc, A => if itemsOf A iv = some all then (match bindT t x ρ with
    | some ρ1 => (match tt ρ1 A with
      | .ok true A1 => (match me ρ1 A1 with
        | .ok y A2 => compGo iv all t tt me ρ xs (acc ++ [y]) A2
        | _ => .no)
      | .ok false A1 => compGo iv all t tt me ρ xs acc A1
      | _ => .no)
    | none => .no) else .no
/-- chg: the new list will change -/
noncomputable def mLc (chg : Bool) (mi : MI) (t : Tg) (tt : MT) (me : ME) (vs : List Nat) : ME := fun ρ A => (mi ρ A).bind fun iv A1 => match itemsOf A1 iv with
  | some all => if all.length ≤ 16777216 then (compGo iv all t tt me (wipeD ρ vs) all [] A1).bind fun acc A2 => if chg = true then .ok (.ref A2.length) (A2 ++ [.lst acc]) else .ok (.lst acc) A2 else .no
  | none => .no
def mYes : MT := fun _ A => .ok true A
abbrev WNo : WX := fun _ _ _ _ => False
section
variable {X : Cx} {W : WX} {a b c e tg iter elt : Expr} {es : List Expr} {ma mb mc me : ME} {mt mu tt : MT} {ms mk : MA} {mi : MI} {sa sb : MS} {pos p p2 : Pos} {sts ifs : List Expr} {t : Tg}
def tTs (K : PySem.W.Frag) (mt : MT) : TT := tT K WNo mt
theorem l_nil : PTs X [] (tTs X.K mYes) := ⟨fun pins s σ H Q I ⟨m, A, ρ, R, E, h⟩ => pts_nil.run pins s σ H Q I (Post.here R rfl h)⟩
theorem l_one (h : DT X WNo c mt) : PTs X [c] (tTs X.K mt) := pts_one h
theorem lcD {K : PySem.W.Frag} {vs : List Nat} {chg : Bool} (hsl : ∀ i ∈ slots t, i ∈ vs) {σ : L2.St} {H : Hp} {Q : VK} (h : tE K W (mLc chg mi t tt me vs) σ H Q) : tLc (tI K W mi) (gOf K t) (tTs K tt) (tE K WNo me) vs σ H Q := by
  obtain ⟨m, A, ρ, R, E, h⟩ := h
  refine ⟨m, A, ρ, R, E, Post.imp (Post.bind (R := fun m' H' iv J => Iter K J m' H' iv) h) fun J H1 ⟨m1, A1, iv, e1, R1, itr, h1⟩ Dl hD => ?_⟩
  have E1 := E.mono e1
  split at h1
  rotate_left
  · exact h1.elim
  rename_i all hall
  split at h1
  rotate_left
  · exact h1.elim
  rename_i hz
  have hout := R1.out hD
  -- the state between two turns
  refine ⟨fun i n H' => n = all.length - i ∧ i ≤ all.length ∧ ∃ (m' : Mp) (A' : AH) (acc : List D) (us : List V), Dl ∈ m'.2 ∧ Dl ∉ m'.1 ∧ Ext m1 H1 m' H' ∧ Rel K m' A' H' ∧ H' Dl = some (.lst us) ∧ RDs K m' H' acc us ∧ acc.length ≤ i ∧
      Post K (RD K) W σ m1 H1 ((compGo iv all t tt me (wipeD ρ vs) (all.drop i) acc A').bind fun acc A2 => if chg = true then .ok (.ref A2.length) (A2 ++ [.lst acc]) else .ok (.lst acc) A2) Q, ?_, ?_⟩
  · refine ⟨all.length, by simp, Nat.zero_le _, (m1.1, Dl :: m1.2), A1, [], [], List.mem_cons_self, hout.1, ?_, ?_, upd_same, .nil, Nat.le_refl _, by simpa using h1⟩
    · refine ⟨⟨[], (List.append_nil _).symm⟩, fun p hp => List.mem_cons_of_mem _ hp, fun p hp => ?_, fun p hp => .inl hp, fun p o ho hn => by rw [upd_ne (ne_of_none ho hD)]; exact ho⟩
      rcases List.mem_cons.mp hp with z | z
      · exact .inr (.inr (by rw [z]; exact hD))
      · exact .inl z
    · have e2 : Ext m1 H1 (m1.1, Dl :: m1.2) (upd H1 Dl (.lst [])) := by
        refine ⟨⟨[], (List.append_nil _).symm⟩, fun p hp => List.mem_cons_of_mem _ hp, fun p hp => ?_, fun p hp => .inl hp, fun p o ho hn => by rw [upd_ne (ne_of_none ho hD)]; exact ho⟩
        rcases List.mem_cons.mp hp with z | z
        · exact .inr (.inr (by rw [z]; exact hD))
        · exact .inl z
      refine ⟨R1.len, R1.nd, fun p hp z => ?_, fun n o hn => ?_⟩
      · rcases List.mem_cons.mp hp with y | y
        · rw [y, upd_same] at z; cases z
        · by_cases hpq : p = Dl
          · rw [hpq, upd_same] at z; cases z
          · rw [upd_ne hpq] at z; exact R1.pv p y z
      · obtain ⟨q, h3, h4⟩ := R1.obj n o hn
        refine ⟨q, h3, h4.keep e2 ?_⟩
        rw [upd_ne fun y => hout.1 (by rw [← y]; exact List.mem_of_getElem? h3)]
  · rintro i n H' ⟨rfl, hi, m', A', acc, us, hp2, hp1, e', R', hDl, ra, hal, h'⟩
    by_cases hlt : i < all.length
    · rw [List.drop_eq_getElem_cons hlt] at h'
      unfold compGo at h'
      split at h'
      rotate_left
      · exact h'.elim
      rename_i hit
      have go := itr.go m' A' H' all i _ e' R' hit (List.getElem?_eq_getElem hlt)
      refine .inr ⟨go.1, fun H2 => ∃ (m' : Mp) (A' : AH) (acc : List D) (us : List V), Dl ∈ m'.2 ∧ Dl ∉ m'.1 ∧ Ext m1 H1 m' H2 ∧ Rel K m' A' H2 ∧ H2 Dl = some (.lst us) ∧ RDs K m' H2 acc us ∧ acc.length ≤ i + 1 ∧
        Post K (RD K) W σ m1 H1 ((compGo iv all t tt me (wipeD ρ vs) (all.drop (i + 1)) acc A').bind fun acc A2 => if chg = true then .ok (.ref A2.length) (A2 ++ [.lst acc]) else .ok (.lst acc) A2) Q,
        fun H2 h2 => ⟨all.length - (i + 1), by omega, rfl, hlt, h2⟩, fun x H2 hy => ?_⟩
      obtain ⟨R2, e2, rx⟩ := go.2 x H2 hy
      have hD2 : H2 Dl = some (.lst us) := e2.keep Dl _ hDl hp1
      split at h'
      rotate_left
      · exact h'.elim
      rename_i ρ1 hb1
      refine gOf_ok (sl := slots t) t (fun _ h => h) m' H2 _ _ _ x _ ρ1 ((E1.wipe vs).mono (e'.trans e2)) rx hb1 fun σ3 E3 o3 => ⟨wipe_same o3 hsl, m', A', ρ1, R2, E3, ?_⟩
      split at h'
      · rename_i A2 htt
        rw [htt]
        intro m3 H3 k e3 R3 hk
        subst hk
        have h31 : Dl ∉ m3.1 := fun z => (e3.new _ z).elim hp1 fun y => by rw [hD2] at y; cases y
        rw [if_pos rfl]
        refine ⟨m3, A2, ρ1, R3, E3.mono e3, ?_⟩
        split at h'
        rotate_left
        · exact h'.elim
        rename_i y A3 hme
        rw [hme]
        intro m4 H4 v e4 R4 r4
        have hD4 : H4 Dl = some (.lst us) := e4.keep Dl _ (e3.keep Dl _ hD2 hp1) h31
        have h41 : Dl ∉ m4.1 := fun z => (e4.new _ z).elim h31 fun y => by rw [e3.keep Dl _ hD2 hp1] at y; cases y
        have h42 : Dl ∈ m4.2 := e4.sub _ (e3.sub _ hp2)
        have et := (e2.trans e3).trans e4
        refine ⟨us, hD4, by rw [← ra.length, sizeLine_eq]; omega, m4, A3, acc ++ [y], us ++ [v], h42, h41, ?_, R4.past h42 h41, upd_same, RDs.past h42 _ _ ((RDs.mono et _ _ ra).append (.cons r4 .nil)), by rw [List.length_append]; simp; omega, h'⟩
        have ez := e'.trans et
        exact ⟨ez.pre, ez.sub, ez.pvs, ez.new, fun p o ho hn => by
          rw [upd_ne (ne_of_none ho hD)]
          exact ez.keep p o ho hn⟩
      · rename_i A2 htt
        rw [htt]
        intro m3 H3 k e3 R3 hk
        subst hk
        have h31 : Dl ∉ m3.1 := fun z => (e3.new _ z).elim hp1 fun y => by rw [hD2] at y; cases y
        rw [if_neg (by decide)]
        exact ⟨m3, A2, acc, us, e3.sub _ hp2, h31, (e'.trans e2).trans e3, R3, e3.keep Dl _ hD2 hp1, RDs.mono (e2.trans e3) _ _ ra, by omega, h'⟩
      · exact h'.elim
    · have hnil : all.drop i = [] := List.drop_eq_nil_of_le (by omega)
      rw [hnil] at h'
      unfold compGo at h'
      split at h'
      rotate_left
      · exact h'.elim
      rename_i hit
      refine .inl ⟨itr.stop m' A' H' all i e' R' hit (by omega), ?_⟩
      rw [bind_ok] at h'
      have sub2 : ∀ p ∈ m1.2, p ∈ m'.2 := e'.sub
      cases chg with
      | false =>
        have eF : Ext m1 H1 (m'.1, m1.2) H' := ⟨e'.pre, fun _ h => h, fun _ h => .inl h, e'.new, e'.keep⟩
        exact h' (m'.1, m1.2) H' _ eF (Rel.less (m := m') (m' := (m'.1, m1.2)) rfl sub2 R') (.lst (.inl ⟨.inl hDl, hp1, hout.2⟩) (RDs.less (m := m') (m' := (m'.1, m1.2)) rfl sub2 _ _ ra))
      | true =>
        obtain ⟨l, hl⟩ := e'.pre
        have eF : Ext m1 H1 (m'.1 ++ [Dl], m1.2) H' := by
          refine ⟨⟨l ++ [Dl], by show m'.1 ++ [Dl] = _; rw [hl, List.append_assoc]⟩, fun _ h => h, fun _ h => .inl h, fun p hp => ?_, e'.keep⟩
          rcases List.mem_append.mp hp with z | z
          · exact e'.new p z
          · exact .inr (by rw [List.mem_singleton.mp z]; exact hD)
        refine h' (m'.1 ++ [Dl], m1.2) H' (.ref Dl) eF ?_ (.ref (by show (m'.1 ++ [Dl])[A'.length]? = some Dl; rw [← R'.len]; simp))
        refine ⟨by rw [List.length_append, List.length_append, R'.len]; rfl, List.nodup_append.mpr ⟨R'.nd, by simp, fun x hx y hy z => hp1 (by rw [← List.mem_singleton.mp hy, ← z]; exact hx)⟩, fun p hp => R'.pv p (sub2 p hp), fun n o hn => ?_⟩
        by_cases hlen : n < A'.length
        · rw [List.getElem?_append_left hlen] at hn
          obtain ⟨q, h3, h4⟩ := R'.obj n o hn
          refine ⟨q, by show (m'.1 ++ [Dl])[n]? = some q; rw [List.getElem?_append_left (by rw [R'.len]; exact hlen)]; exact h3, ?_⟩
          exact h4.move grow_r (grow_o hp2 sub2) rfl
        · rw [List.getElem?_append_right (by omega)] at hn
          have h0 : n - A'.length = 0 := by
            have := (List.getElem?_eq_some_iff.mp hn).1
            simp at this; omega
          rw [h0] at hn
          cases hn
          refine ⟨Dl, ?_, us, hDl, RDs.grow hp2 sub2 _ _ ra⟩
          show (m'.1 ++ [Dl])[n]? = some Dl
          rw [List.getElem?_append_right (by rw [R'.len]; omega), R'.len, h0]; rfl
end
end DM
end
section
set_option maxHeartbeats 2000000
namespace DM
open PySem PySem.Spec PyProof.Rows L2
section
variable {X : Cx} {W : WX} {a b c e tg iter elt : Expr} {es ifs : List Expr} {ma mb mc me : ME} {mt mu tt : MT} {ms mk : MA} {mi : MI} {sa sb : MS} {pos p p2 : Pos} {t : Tg}
theorem d_lc {scope : Scope} (chg : Bool) (own : List (Str × Nat)) (hc : X.calm = true) (hN : X.N.Nodup) (hi : DI X W tg iter mi) (ok : BlkOk X.N X.env.scope scope own)
    (hg : ∀ (s : Shared) (H : Hp) (C : Addr) (cl : List (Str × Addr)) (fp : List Addr), DG (X.blk s H scope (compEnvC scope cl C X.env) fp) tg t)
    (ht : ∀ (s : Shared) (H : Hp) (C : Addr) (cl : List (Str × Addr)) (fp : List Addr), PTs (X.blk s H scope (compEnvC scope cl C X.env) fp) ifs (tTs X.K tt))
    (he : ∀ (s : Shared) (H : Hp) (C : Addr) (cl : List (Str × Addr)) (fp : List Addr), DE (X.blk s H scope (compEnvC scope cl C X.env) fp) WNo elt me)
    {sl : List Nat} (hsl : ∀ i ∈ slots t, i ∈ sl) (ho : own.map (·.2) = sl := by rfl) (hs : ∀ x, foldedSetIterable iter X.env x = pure x := by intro _; rfl) : DE X W (.ListComp elt [⟨tg, iter, ifs, 0⟩] scope pos) (mLc chg mi t tt me sl) := by
  subst ho
  exact PEi (pe_lc hc hN hi ok hg ht he hs) fun _ _ _ h => lcD hsl h
theorem s_setLc {i : Nat} {y : Str} {py spos : Pos} {scope : Scope} (chg : Bool) (own : List (Str × Nat)) (hc : X.calm = true) (hN : X.N.Nodup) (hy : X.N[i]? = some y) (hyl : X.env.scope.names.lookup y = some .local)
    (hsw : swapsWith (.ListComp elt [⟨tg, iter, ifs, 0⟩] scope pos) (some (.Name y py)) spos.line X.env = pure true) (hi : DI X W tg iter mi) (ok : BlkOk X.N X.env.scope scope own)
    (hg : ∀ (s : Shared) (H : Hp) (C : Addr) (cl : List (Str × Addr)) (fp : List Addr), DG (X.blk s H scope (compEnvC scope cl C X.env) fp) tg t)
    (ht : ∀ (s : Shared) (H : Hp) (C : Addr) (cl : List (Str × Addr)) (fp : List Addr), PTs (X.blk s H scope (compEnvC scope cl C X.env) fp) ifs (tTs X.K tt))
    (he : ∀ (s : Shared) (H : Hp) (C : Addr) (cl : List (Str × Addr)) (fp : List Addr), DE (X.blk s H scope (compEnvC scope cl C X.env) fp) WNo elt me)
    {sl : List Nat} (hsl : ∀ i ∈ slots t, i ∈ sl) (ho : own.map (·.2) = sl := by rfl) (hs : ∀ x, foldedSetIterable iter X.env x = pure x := by intro _; rfl) : DS X W (.Assign [.Name y py] (.ListComp elt [⟨tg, iter, ifs, 0⟩] scope pos) spos) (mSet i (mLc chg mi t tt me sl)) := by
  subst ho
  exact PSi (ps_setLc hc hN hy hyl hsw hi ok hg ht he hs) fun _ _ _ h => setD (fun _ q => lcD hsl q) h
theorem s_par2 {i j : Nat} {x y : Str} {px py pt : Pos} {kt k2 : Nat} {pt2 : Pos} (hc : X.calm = true) (hN : X.N.Nodup) (hi : X.N[i]? = some x) (hj : X.N[j]? = some y) (hij : i ≠ j) (hx : X.env.scope.names.lookup x = some .local) (hy : X.env.scope.names.lookup y = some .local)
    (ha : DA X W [a, b] ms) (hw : swappedStores [.Tuple [.Name x px, .Name y py] kt pt] (.Tuple [a, b] k2 pt2) X.env = pure (some [x, y]))
    (hs : swapsWithSole [.Tuple [.Name x px, .Name y py] kt pt] (.Tuple [a, b] k2 pt2) pos.line X.env = pure false := by rfl) :
    DS X W (.Assign [.Tuple [.Name x px, .Name y py] kt pt] (.Tuple [a, b] k2 pt2) pos) (mPar2 i j ms) := PSi (ps_par hc hN hi hj hij hx hy ha hw hs) fun _ _ _ h => par2D h
/-! ### x += e -/
theorem s_aug {i : Nat} {x : Str} {pos' : Pos} {op : Operator} {f : D → D → AH → Res D} {r : R2} (ho : OpR X (inplaceOp op) r) (hf : OpD X.K f r) (hN : X.N.Nodup) (hi : X.N[i]? = some x) (hx : Loc X.env.scope x) (he : DE X W e me)
    (hx2 : X.fn x = true ∨ X.env.scope.names.lookup x = some .local := by first | exact .inl rfl | exact .inr rfl | assumption) : DS X W (.AugAssign (.Name x pos') op e pos) (mAug i f me) :=
  PSi (ps_aug hN hi hx he (ti := r) (fun pins s σ H x y u v Q I rx ry q => ho pins s σ H x y u v Q I rx ry q) hx2) fun D0 σ H ⟨m, A, ρ, R, E, h⟩ => by
    unfold mAug at h
    split at h
    · rename_i d hd
      obtain ⟨v, h1, h2⟩ := E.2 i d hd
      refine ⟨v, h1, ?_⟩
      have h' : PostS X.K W m H (lift (me ρ A) ρ fun y A1 => lift (f d y A1) ρ fun z A2 => .nx (ρ.set i (some z)) A2) D0 := by
        cases hr : me ρ A with
        | ok y A1 => rw [hr] at h; exact h
        | exc C fs A1 => rw [hr] at h; exact h
        | no => rw [hr] at h; exact h
      refine tE.lift R E h' fun m1 A1 d1 v1 H1 e1 R1 E1 r1 h3 => hf W σ m1 A1 H1 v v1 d d1 _ R1 (RD.mono e1 _ _ h2) r1 (post_lift E1 h3 fun m2 A2 d2 v2 H2 e2 R2 r2 h4 => PostS.nx R2 ((E1.mono e2).set r2 i) h4)
    · exact h.elim
end
/-! ### defs -/
def spD (K : PySem.W.Frag) (n : Nat) (mf : List D → AH → Res D) : Sp := fun vs H Q E => vs.length = n ∧ ∃ m A ds, Rel K m A H ∧ RDs K m H ds vs ∧ Post K (RD K) (fun c d _ H' => E c d H') [] m H (mf ds A) Q
structure FnD (P : Program) (w : World) (K : PySem.W.Frag) (mg : Str → Option Value) (base : Heap) (k : Nat) (f : Addr) (fd : FuncData) (ps : List Str) (mf : List D → AH → Res D) : Prop where
  run : ∀ (A : Around) (outer : List PySem.Env) (s : Shared) (H : Hp) (args : Args) (us : List Value) (vs : List V) (Q : VK) (E : XK), Room k A → A.guards = some [] → Env0 P w K mg base A outer s H → BindsTo s fd args (ps.zip us) → Vals vs us →
    spD K ps.length mf vs H Q E → codeAny (model P w) A (.call (.ref f) args) (CR (L2.CX P w) outer P w H s Q E) s
def mFun (n : Nat) (ms : MS) : List D → AH → Res D := fun ds A => match ms (ds.map some ++ List.replicate (n - ds.length) none) A with
  | .nx _ A1 => .ok .non A1
  | .rt d A1 => .ok d A1
  | .exc C fs _ A1 => .exc C fs A1
  | .bk _ _ => .no
  | .ct _ _ => .no
  | .no => .no
theorem start_rel {K : PySem.W.Frag} {m : Mp} {H : Hp} {ds : List D} {vs : List V} {N : List Str} (r : RDs K m H ds vs) : REnv K m H (ds.map some ++ List.replicate (N.length - ds.length) none) (L2.start N vs) := by
  unfold L2.start
  refine ⟨by rw [List.length_append, List.length_append, List.length_map, List.length_map, List.length_replicate, List.length_replicate, r.length], fun i d h => ?_⟩
  by_cases hi : i < ds.length
  · rw [List.getElem?_append_left (by rw [List.length_map]; exact hi), List.getElem?_map] at h
    cases hd : ds[i]? with
    | none => rw [hd] at h; cases h
    | some d' =>
      rw [hd] at h
      cases h
      obtain ⟨v, h1, h2⟩ := r.get hd
      exact ⟨v, by rw [List.getElem?_append_left (by rw [List.length_map, ← r.length]; exact hi), List.getElem?_map, h1]; rfl, h2⟩
  · rw [List.getElem?_append_right (by rw [List.length_map]; omega), List.getElem?_replicate] at h
    split at h <;> cases h
section
variable {P : Program} {w : World} {K : PySem.W.Frag} {mg : Str → Option Value} {base : Heap}
/-- a def by its body -/
theorem FnD.of {x qual : Str} {st : Stmt} {f : Addr} {fd : FuncData} {N ps : List Str} {k : Nat} {ms : MS} (F : Fun K x qual st f fd) (S : FnScope N ps (defScope st))
    (hb : ∀ (cdv : Value), fd.code = cdv → ∀ (A : Around) (outer : List PySem.Env) (s : Shared) (H : Hp) (E : XK), Room k (A.deeper (envOfC qual (defScope st) s.heap.objs.size f cdv)) → (A.deeper (envOfC qual (defScope st) s.heap.objs.size f cdv)).guards = some [] →
      Takes (cxOf (L2.CX P w) P w K mg base N qual (defScope st) f cdv A outer s H E) (fun c d _ H' => E c d H') →
      PassesOwn (model P w) (A.deeper (envOfC qual (defScope st) s.heap.objs.size f cdv)) (envOfC qual (defScope st) s.heap.objs.size f cdv) (cxOf (L2.CX P w) P w K mg base N qual (defScope st) f cdv A outer s H E).xe → DSs (cxOf (L2.CX P w) P w K mg base N qual (defScope st) f cdv A outer s H E) (fun c d _ H' => E c d H') (defBody st) ms) {n : Nat} (hn : N.length = n := by rfl) : FnD P w K mg base (k + 1) f fd ps (mFun n ms) := by
  subst hn
  obtain ⟨oc, od, kV, doc, pm, an, cdv, ct, osl, rfl, lk, hcd⟩ := F.ex
  refine ⟨fun A outer s H args us vs Q E room gd en bi rel hsp => ?_⟩
  obtain ⟨hlen, m, AA, ds, R, rds, post⟩ := hsp
  have kin : K.In s.heap := en.mod.kin.keeps fun b o h => (en.bs b o h).1
  have nolim : s.heap.NoLimit := en.mod.nolimit.keeps fun b o h => (en.bs b o h).1
  have kinds : ∀ y ∈ ps.zip us, (defScope st).names.lookup y.1 = some .local ∨ ((defScope st).names.lookup y.1 = some .cell ∧ ((cellsFrom (s.heap.objs.size + 1) (defScope st).names []).lookup y.1).isSome = true) := by
    rintro ⟨n, v⟩ hy
    rcases S.par n (List.of_mem_zip hy).1 with z | z
    · exact .inl z
    · exact .inr ⟨z, PySem.W.cellsFrom_some _ _ _ (.inl z)⟩
  refine codeAny_call_function room.depth (kin _ _ lk) rfl S.co S.gen rfl (PySem.W.codeRec_of kin hcd) (bi _ _ _ _ (wpAny_newFunctionEnv_cells S.kind kinds fun env henv s1 hx => ?_))
  subst henv
  refine ⟨nolim.keeps hx.toInCall.keep, codeAny_func ?_⟩
  have body := hb cdv rfl A outer s H E (room.deeper _) gd (takes_of rfl rfl rfl rfl) (passes_of rfl)
  have I := inv_start (CX := L2.CX P w) (E := E) S room.hd en hlen rel hx
  have want : tS K (fun c d _ H' => E c d H') ms { nx := fun _ H' => Q .non H', rt := Q } (L2.start N vs) H := by
    refine ⟨m, AA, _, R, start_rel (N := N) rds, ?_⟩
    unfold mFun at post
    cases hr : ms (ds.map some ++ List.replicate (N.length - ds.length) none) AA with
    | nx ρ1 A1 => rw [hr] at post; exact fun m' H' σ' e1 R1 _ => post m' H' .non e1 R1 .non
    | rt d A1 => rw [hr] at post; exact fun m' H' v e1 R1 r1 => post m' H' v e1 R1 r1
    | exc C fs ρ1 A1 => rw [hr] at post; exact fun m' H' c dx σ' e1 R1 _ hc hx => post m' H' c dx e1 R1 hc hx
    | bk ρ1 A1 => rw [hr] at post; exact post.elim
    | ct ρ1 A1 => rw [hr] at post; exact post.elim
    | no => rw [hr] at post; exact post.elim
  have back : ∀ {σ' : L2.St} {H' : Hp} {v : V} {u : Value} {s' : Shared}, Inv (cxOf (L2.CX P w) P w K mg base N qual (defScope st) f cdv A outer s H E) [] σ' H' s' → RelV v u → Q v H' → CE outer P w H s Q u s' :=
    fun J ru q => ⟨_, _, J.os, J.bare, J.base, J.hok, ru, q⟩
  refine wpAny_mono (body.run [] s1 (L2.start N vs) H _ I want) (fun fl s' z => ?_) fun _ _ z => z
  cases fl with
  | next =>
    obtain ⟨_, _, J, q⟩ := z
    exact back (v := V.non) (u := Value.none) J rfl q
  | ret u =>
    obtain ⟨_, _, _, J, ru, q⟩ := z
    exact back J ru q
  | brk =>
    obtain ⟨_, _, _, q⟩ := z
    exact q.elim
  | cont =>
    obtain ⟨_, _, _, q⟩ := z
    exact q.elim
theorem FnD.up {j k : Nat} {f : Addr} {fd : FuncData} {ps : List Str} {mf : List D → AH → Res D} (F : FnD P w K mg base j f fd ps mf) (h : j ≤ k) : FnD P w K mg base k f fd ps mf :=
  ⟨fun A outer s H args us vs Q E hr => F.run A outer s H args us vs Q E (hr.mono h)⟩
end
/-! ### calls -/
def mCallF (n : Nat) (mf : List D → AH → Res D) (ms : MA) : ME := fun ρ A => (ms ρ A).bind fun ds A1 => if ds.length = n then mf ds A1 else .no
section
variable {X : Cx} {W : WX} {k : Nat} {f : Addr} {fd : FuncData} {ps ks : List Str} {mf : List D → AH → Res D} {x : Str} {p pos kpos : Pos} {e : Expr} {es : List Expr} {ms mk : MA} {me : ME} {kws : List Keyword} {nm : Option Str}
theorem run_D {pins : List (Addr × Obj)} {σ : L2.St} {H : Hp} {s : Shared} {Q : VK} {us : List Value} {vs : List V} {args : Args} (F : FnD X.prog X.w X.K X.mg X.base k f fd ps mf) (hr : Room k X.A) (gd : X.A.guards = some []) (tk : Takes X W)
    (I : Inv X pins σ H s) (bi : BindsTo s fd args (ps.zip us)) (r : Vals vs us) (h : spD X.K ps.length mf vs H Q (WE W σ)) : codeAny (model X.prog X.w) X.A (.call (.ref f) args) (fun r s' => match r with
      | .ok (.ret u) => EP X pins σ Q u s'
      | .ok _ => False
      | .error z => X.xe z s') s := by
  refine codeAny_mono (F.run X.A X.stack s H args us vs Q (WE W σ) hr gd I.env0 bi r h) fun r s' hq => ?_
  cases r with
  | error z => exact passAt tk σ pins H s z s' I hq
  | ok fl =>
    cases fl with
    | ret u => exact I.after hq
    | next => exact hq
    | brk => exact hq
    | cont => exact hq
theorem call_D {pins : List (Addr × Obj)} {σ : L2.St} {s : Shared} {Q : VK} {us : List Value} {kw : List (Str × Value)} (h : codeAny (model X.prog X.w) X.A (.call (.ref f) ⟨us, kw⟩) (fun r s' => match r with
      | .ok (.ret u) => EP X pins σ Q u s'
      | .ok _ => False
      | .error z => X.xe z s') s) : wpAny (model X.prog X.w) X.A (call (.ref f) us kw) (EP X pins σ Q) X.xe s := by
  refine wpAny_call (codeAny_mono h fun r s' z => ?_)
  cases r with
  | error y => exact z
  | ok fl => cases fl <;> first | exact z | exact z.elim
/-- f(a, ..) -/
theorem d_call (F : FnD X.prog X.w X.K X.mg X.base k f fd ps mf) (hr : Room k X.A) (gd : X.A.guards = some []) (tk : Takes X W) (hm : X.mg x = some (.ref f)) (hk : PySem.W.keepIn X.K (.ref f) = true) (hb : Binds X.K fd ps []) (ha : DA X W (e :: es) ms) {n : Nat} (hn : ps.length = n := by rfl)
    (hg : Gl X x := by rfl) (hdb : (x == ("__debug__" : Str)) = false := by decide) (he : starEach (e :: es) X.env = (false, eval e X.env) :: starEach es X.env := by rfl) (hpl : (backTo pos (starEach es X.env)).any (·.1) = false := by rfl) :
    DE X W (.Call (.Name x p) (e :: es) [] pos) (mCallF n mf ms) := by
  subst hn
  refine ⟨fun pins s σ H Q I ⟨m, A, ρ, R, E, h⟩ => wpAny_Call_Name_kw (ld_glob I hg hm (PySem.W.callWith_K (h₀ := X.base) I.ok.mod.kin hk (thn (ha.run pos pins s σ H _ I (tA.bind (T := fun vs H1 => spD X.K ps.length mf vs H1 Q (WE W σ)) R E h fun m1 A1 ds vs H1 e1 R1 E1 r1 h1 => ?_)) fun us s1 ⟨vs, H1, I1, r, q⟩ => ⟨I1.kIn, call_D ?_⟩) he hpl) hdb)⟩
  · split at h1
    · rename_i hl
      exact ⟨by rw [← r1.length]; exact hl, m1, A1, ds, R1, r1, by
        cases hz : mf ds A1 with
        | ok d A2 => rw [hz] at h1; exact h1
        | exc C fs A2 => rw [hz] at h1; exact h1
        | no => rw [hz] at h1; exact h1⟩
    · exact h1.elim
  · have b := hb s1 us I1.kIn (by rw [List.append_nil, ← r.length]; exact q.1)
    rw [List.append_nil] at b
    exact run_D F hr gd tk I1 b r q
/-- keywords -/
abbrev DK (X : Cx) (W : WX) (kws : List Keyword) (mk : MA) : Prop := PK X kws (tA X.K W mk)
theorem k_nil : DK X W [] mNil := ⟨fun pos pins s σ H Q I ⟨m, A, ρ, R, E, h⟩ => pk_nil.run pos pins s σ H Q I (Post.here R .nil h)⟩
theorem k_cons (ha : DE X W e me) (hr : DK X W kws mk) : DK X W (⟨nm, e, kpos⟩ :: kws) (mCons me mk) :=
  ⟨fun pos pins s σ H Q I ⟨m, A, ρ, R, E, h⟩ => (pk_cons ha hr).run pos pins s σ H Q I (tE.bind R E h fun m1 A1 d v H1 e1 R1 E1 r1 h1 => tA.bind R1 E1 h1 fun m2 A2 ds vs H2 e2 R2 E2 r2 h2 => Post.here R2 (.cons (RD.mono e2 _ _ r1) r2) h2)⟩
def pick {α : Type} (pm : List Nat) (xs : List α) : List α := pm.filterMap fun i => xs[i]?
theorem RDs.pick {K : PySem.W.Frag} {m : Mp} {H : Hp} {ds : List D} {vs : List V} (r : RDs K m H ds vs) : ∀ pm : List Nat, RDs K m H (DM.pick pm ds) (DM.pick pm vs)
  | [] => .nil
  | i :: pm => by
    have ih := RDs.pick r pm
    unfold DM.pick at ih ⊢
    rw [List.filterMap_cons, List.filterMap_cons]
    cases hd : ds[i]? with
    | none =>
      have : vs[i]? = none := List.getElem?_eq_none (by rw [← r.length]; exact List.getElem?_eq_none_iff.mp hd)
      rw [this]; exact ih
    | some d =>
      obtain ⟨v, h1, h2⟩ := r.get hd
      rw [h1]; exact .cons h2 ih
theorem Vals.pick {vs : List V} {us : List Value} (r : Vals vs us) : ∀ pm : List Nat, Vals (DM.pick pm vs) (DM.pick pm us)
  | [] => .nil
  | i :: pm => by
    have ih := Vals.pick r pm
    unfold DM.pick at ih ⊢
    rw [List.filterMap_cons, List.filterMap_cons]
    cases hd : vs[i]? with
    | none =>
      have : us[i]? = none := L2.Vals.none_of r hd
      rw [this]; exact ih
    | some v =>
      obtain ⟨u, h1, h2⟩ := L2.Vals.get r hd
      rw [h1]; exact .cons h2 ih
def KB (K : PySem.W.Frag) (fd : FuncData) (ps : List Str) (n : Nat) (ks : List Str) (pm : List Nat) : Prop := ∀ (s : Shared) (us ws : List Value), K.In s.heap → us.length = n → ws.length = ks.length → BindsTo s fd ⟨us, ks.zip ws⟩ (ps.zip (DM.pick pm (us ++ ws)))
def mCallK (n l a : Nat) (pm : List Nat) (mf : List D → AH → Res D) (ms mk : MA) : ME := fun ρ A => (ms ρ A).bind fun ds A1 => (mk ρ A1).bind fun es A2 => if ds.length = n ∧ es.length = l ∧ (DM.pick pm (ds ++ es)).length = a then mf (DM.pick pm (ds ++ es)) A2 else .no
theorem d_callK0 {pm : List Nat} (F : FnD X.prog X.w X.K X.mg X.base k f fd ps mf) (hr : Room k X.A) (gd : X.A.guards = some []) (tk : Takes X W) (hm : X.mg x = some (.ref f)) (hk : PySem.W.keepIn X.K (.ref f) = true) (hb : KB X.K fd ps 0 ks pm) (hkw : DK X W kws mk) {l n : Nat} (hl : ks.length = l := by rfl) (hn : ps.length = n := by rfl)
    (hg : Gl X x := by rfl) (hall : (backToKw pos (keywordEach kws X.env)).all (·.1.isSome) = true := by rfl) (hks : (backToKw pos (keywordEach kws X.env)).filterMap (·.1) = ks := by rfl) (hdb : (x == ("__debug__" : Str)) = false := by decide)
    (hpl : ((backTo pos (starEach [] X.env)).any (·.1) || (backToKw pos (keywordEach kws X.env)).any (·.1.isNone)) = false := by rfl) : DE X W (.Call (.Name x p) [] kws pos) (mCallK 0 l n pm mf mNil mk) := by
  subst hl hn
  refine ⟨fun pins s σ H Q I ⟨m, A, ρ, R, E, h⟩ => wpAny_Call_Name_kw (ld_glob I hg hm (PySem.W.callWith_KW0 (h₀ := X.base) I.ok.mod.kin hk hall (thn (hkw.run pos pins s σ H (fun zs H1 => zs.length = ks.length ∧ spD X.K ps.length mf (DM.pick pm zs) H1 Q (WE W σ)) I (tA.bind R E (show Post X.K (RD X.K) W σ m H ((mk ρ A).bind fun es A2 => if ([] : List D).length = 0 ∧ es.length = ks.length ∧ (DM.pick pm ([] ++ es)).length = ps.length then mf (DM.pick pm ([] ++ es)) A2 else .no) Q from h) fun m1 A1 ds vs H1 e1 R1 E1 r1 h1 => ?_)) fun ws s2 ⟨zs, H2, I2, rz, hl, q⟩ => ⟨I2.kIn, ?_⟩) hpl) hdb)⟩
  · split at h1
    · rename_i hl
      refine ⟨by rw [← r1.length]; exact hl.2.1, by rw [← (r1.pick pm).length]; exact hl.2.2, m1, A1, _, R1, r1.pick pm, ?_⟩
      rw [List.nil_append] at h1
      cases hz : mf (DM.pick pm ds) A1 with
      | ok d A2 => rw [hz] at h1; exact h1
      | exc C fs A2 => rw [hz] at h1; exact h1
      | no => rw [hz] at h1; exact h1
    · exact h1.elim
  · rw [hks]
    exact call_D (run_D F hr gd tk I2 (hb s2 [] ws I2.kIn rfl (by rw [← L2.Vals.length rz]; exact hl)) (Vals.pick rz pm) q)
end
end DM
end
section
set_option maxHeartbeats 2000000
namespace DM
open PySem PySem.Spec PyProof.Rows L2
/-! ### the law's call -/
theorem rd_ints {K : PySem.W.Frag} {m : Mp} {H : Hp} : ∀ ns : List Int, RDs K m H (ns.map D.int) (ns.map V.int)
  | [] => .nil
  | n :: ns => .cons (.int n) (rd_ints ns)
/-- code objects with their tables and what their lambdas are called -/
abbrev Tabs0 := List (Addr × Addr × Str)
abbrev tabs0 (cs : Tabs0) : AH := cs.map fun p => AO.tab p.2.1 p.2.2
theorem law_run {P : Program} {w : World} {K : PySem.W.Frag} {mg mb : Str → Option Value} {k : Nat} {fa a : Addr} {fd : FuncData} {x : Str} {s : Shared} {us : List Value} {ns : List Int} {cs : Tabs0}
    (kin : K.In s.heap) (gl : s.heap.Ns mainGlobals mg) (bl : s.heap.Ns builtinsNs mb) (bb : ∀ y : Str, y ≠ "__name__" → mb y = bootBuiltins y) (nl : s.heap.NoLimit) (ge : s.gens = #[])
    (hT : ∀ p ∈ cs, s.heap.get? p.2.1 = some { cls := .none, data := .fields #[] }) (nT : ∀ p ∈ cs, K.lookup p.2.1 = none) (hC : ∀ p ∈ cs, PySem.W.CodeHd s.heap p.1 p.2.1) (nd : (cs.map (·.2.1)).Nodup)
    (bm : ∃ (b : Addr) (ob : Obj), mg "__builtins__" = some (.ref b) ∧ b ≠ builtinsNs ∧ s.heap.get? b = some ob ∧ ob.cls = .type "module" ∧ ob.dict = some builtinsNs ∧ ob.data = .plain)
    (ho : s.heap.get? a = some { cls := .type "list", data := .seq us.toArray }) (ia : IntsAre us ns) (hn : ns.length ≤ sizeLine) (room : Room k callerA)
    (F : ∀ base : Heap, K.In base → base.Ns mainGlobals mg → (∀ p ∈ cs, LamX.TabB base mg p.1 p.2.1) → ∃ (mf : List D → AH → Res D) (AE : AH), mf [.lst (ns.map D.int)] (tabs0 cs) = .ok (.bl true) AE ∧ FnD P w K mg base k fa fd [x] mf)
    (bi : ∀ (t : Shared) (u : Value), BindsTo t fd ⟨[u], []⟩ [(x, u)]) :
    codeAny (model P w) callerA (.call (.ref fa) ⟨[.ref a], []⟩) (fun r s' => r = .ok (.ret (.bool true)) ∧ OldK s.heap s'.heap ∧ s'.os = s.os ∧ AllBare s'.gens) s := by
  have vi := L2.vals_ints ia
  obtain ⟨tb, etb⟩ : ∃ tb : List Addr, tb = cs.map (·.2.1) := ⟨_, rfl⟩
  have inT : ∀ p ∈ cs, p.2.1 ∈ tb := fun p hp => by rw [etb]; exact List.mem_map.mpr ⟨p, hp, rfl⟩
  have atT : ∀ b ∈ tb, s.heap.get? b = some { cls := .none, data := .fields #[] } ∧ K.lookup b = none := fun b hb => by
    rw [etb] at hb
    obtain ⟨p, hp, e⟩ := List.mem_map.mp hb
    rw [← e]
    exact ⟨hT p hp, nT p hp⟩
  have aT : a ∉ tb := fun z => by
    have q := (atT a z).1
    rw [ho] at q
    cases q
  -- the script and the tables are all that may be told of
  suffices go : ∀ H : Hp, (∀ b, H b = none ∨ (b = a ∧ K.lookup a = none ∧ ∃ o, H b = some (.frz o (.lst (ns.map V.int)))) ∨ b ∈ tb) → (∀ b ∈ tb, H b = some (.tbl #[])) → SqL K H a (ns.map V.int) → HOk P w H s.heap →
      codeAny (model P w) callerA (.call (.ref fa) ⟨[.ref a], []⟩) (fun r s' => r = .ok (.ret (.bool true)) ∧ OldK s.heap s'.heap ∧ s'.os = s.os ∧ AllBare s'.gens) s by
    cases hk : K.lookup a with
    | some o =>
      have e := kin a o hk
      rw [ho] at e
      cases e
      refine go (fun b => if b ∈ tb then some (.tbl #[]) else none) (fun b => ?_) (fun b hb => if_pos hb) (.inr ⟨_, us.toArray, _, hk, rfl, rfl, rfl, ?_, ?_⟩) fun b u z => ?_
      · by_cases hb : b ∈ tb
        · exact .inr (.inr hb)
        · exact .inl (if_neg hb)
      · rw [List.size_toArray, ia.length]; exact hn
      · rw [List.toList_toArray]; exact vi
      · by_cases hb : b ∈ tb
        · have z' := (if_pos hb).symm.trans z
          cases z'
          exact (atT b hb).1
        · have z' := (if_neg hb).symm.trans z
          cases z'
    | none =>
      refine go (fun b => if b = a then some (.frz { cls := .type "list", data := .seq us.toArray } (.lst (ns.map V.int))) else if b ∈ tb then some (.tbl #[]) else none) (fun b => ?_) (fun b hb => (if_neg fun z => aT (by rw [← z]; exact hb)).trans (if_pos hb)) (.inl (.inr ⟨_, if_pos rfl⟩)) fun b u z => ?_
      · by_cases hb : b = a
        · exact .inr (.inl ⟨hb, hk, _, if_pos hb⟩)
        · by_cases hb2 : b ∈ tb
          · exact .inr (.inr hb2)
          · exact .inl ((if_neg hb).trans (if_neg hb2))
      · by_cases hb : b = a
        · have z' := (if_pos hb).symm.trans z
          cases z'
          rw [hb]
          exact ⟨ho, by rw [List.length_map]; exact hn, us, _, vi, ho⟩
        · have z1 := (if_neg hb).symm.trans z
          by_cases hb2 : b ∈ tb
          · have z' := (if_pos hb2).symm.trans z1
            cases z'
            exact (atT b hb2).1
          · have z' := (if_neg hb2).symm.trans z1
            cases z'
  intro H only tbl hS hok
  have free : ∀ {b : Addr} {o : Obj}, s.heap.get? b = some o → (∀ l n, o.data ≠ .seq l n) → o.data ≠ .fields #[] → H b = none := fun {b o} h hd hf => by
    rcases only b with z | ⟨rfl, _, _, _⟩ | z
    · exact z
    · rw [ho] at h
      cases h
      exact (hd _ _ rfl).elim
    · rw [(atT b z).1] at h
      cases h
      exact (hf rfl).elim
  have nsb : ∀ {b : Addr} {m : Str → Option Value}, s.heap.Ns b m → (hidT s.heap H).Ns b m := fun {b m} z => by
    obtain ⟨o, es, ep, h1, h2, h3⟩ := z
    exact ⟨o, es, ep, hidT_get h1 (free h1 (fun l n y => by rw [h2] at y; cases y) fun y => by rw [h2] at y; cases y), h2, h3⟩
  have kb : K.In (hidT s.heap H) := fun b o h => hidT_get (kin b o h) (by
    rcases only b with z | ⟨rfl, hk, _⟩ | z
    · exact z
    · rw [hk] at h; cases h
    · rw [(atT b z).2] at h; cases h)
  have TB : ∀ p ∈ cs, LamX.TabB (hidT s.heap H) mg p.1 p.2.1 := fun p hp => by
    have hPt := hT p hp
    refine ⟨?_, ?_, fun z => ?_⟩
    · obtain ⟨o, vs, file, tf, flags, tg, inF, text, tt, e1, r1, r2, r3, rest⟩ := hC p hp
      refine ⟨o, vs, file, tf, flags, tg, inF, text, tt, hidT_get e1 (free e1 (fun l n z => ?_) fun z => ?_), r1, r2, r3, rest⟩
      · rw [r2] at z; cases z
      · rw [r2] at z; cases z; simp at r3
    · obtain ⟨b, ob, b1, b2, b3, b4, b5, b6⟩ := bm
      refine ⟨b, ob, b1, b2, fun q => ?_, fun q => ?_, hidT_get b3 (free b3 (fun l n z => ?_) fun z => ?_), b4, b5, b6⟩
      · obtain ⟨o, es, ep, e, hd, _⟩ := gl
        rw [q, e] at b3
        cases b3
        rw [hd] at b6
        cases b6
      · rw [q, hPt] at b3
        cases b3
        cases b6
      · rw [b6] at z; cases z
      · rw [b6] at z; cases z
    · obtain ⟨o, es, ep, e, hd, _⟩ := gl
      rw [z, hPt] at e
      cases e
      cases hd
  have en : Env0 P w K mg (hidT s.heap H) callerA [] s H := by
    obtain ⟨mc, h1, h2⟩ := nl
    exact { frames := rfl, mod := ⟨kb, nsb gl, ⟨mb, nsb bl, bb⟩, mc, nsb h1, h2⟩, bs := fun b o h => of_hidT h, bsz := Nat.le_of_eq (hidT_size _ _), funs := trivial, frf := fun b hb => (nomatch hb), hok := hok, bare := .of_eq ge }
  obtain ⟨mf, AE, law, FF⟩ := F _ kb (nsb gl) TB
  have R0 : Rel K (tb, []) (tabs0 cs) H := by
    refine ⟨by rw [etb, List.length_map, List.length_map], by rw [etb]; exact nd, fun p hp => (nomatch hp), fun n o h => ?_⟩
    rw [List.getElem?_map] at h
    cases hc : cs[n]? with
    | none => rw [hc] at h; cases h
    | some p =>
      rw [hc] at h
      cases h
      refine ⟨p.2.1, by show tb[n]? = _; rw [etb, List.getElem?_map, hc]; rfl, rfl, #[], tbl _ (inT p (List.mem_of_getElem? hc)), trivial, fun pos cv hcv => ?_⟩
      have z : codeAmong pos [] = some cv := hcv
      simp [codeAmong] at z
  have pre : spD K [x].length mf [.ref a] H (fun v _ => v = .bl true) fun _ _ _ => False := by
    refine ⟨rfl, (tb, []), tabs0 cs, [.lst (ns.map D.int)], R0, .cons (.lst ?_ (rd_ints ns)) .nil, ?_⟩
    · rcases hS with z | z
      · exact .inl ⟨z, aT, (List.not_mem_nil ·)⟩
      · exact .inr z
    · rw [law]
      intro m' H' v _ _ r
      cases r
      rfl
  refine codeAny_mono (FF.run callerA [] s H ⟨[.ref a], []⟩ [.ref a] [.ref a] _ _ room rfl en (bi s (.ref a)) (.cons rfl .nil) pre) fun r s' h => ?_
  cases r with
  | error z =>
    obtain ⟨_, _, _, _, _, _, _, _, _, _, _, _, y⟩ := h
    exact y.elim
  | ok fl =>
    cases fl with
    | ret u =>
      obtain ⟨v, H', os, bare, un, hok', rv, q⟩ := h
      have q' : v = .bl true := q
      subst q'
      cases rv
      have stay : ∀ b o, b ∉ tb → s.heap.get? b = some o → s'.heap.get? b = some o := fun b o nb h => by
        rcases only b with z | ⟨_, _, ob, z⟩ | z
        · exact un.keep b o h z (fun y => nomatch y) fun y => nomatch y
        · have z2 := un.frzs b ob _ z
          obtain ⟨e1, _⟩ := hok b _ z
          obtain ⟨e2, _⟩ := hok' b _ z2
          rw [h] at e1
          cases e1
          exact e2
        · exact absurd z nb
      have grew : ∀ b ∈ tb, ∃ more : Array Value, s'.heap.get? b = some { cls := .none, data := .fields more } := fun b hb => by
        obtain ⟨more, z⟩ := un.tbls b #[] (tbl b hb)
        exact ⟨_, hok' b _ z⟩
      refine ⟨rfl, ⟨fun b o e => ?_, fun b o e => ?_⟩, os, bare⟩
      · by_cases hb : b ∈ tb
        · obtain ⟨more, hm⟩ := grew b hb
          have hb' := hb
          rw [etb] at hb'
          obtain ⟨p, hp, ep⟩ := List.mem_map.mp hb'
          rw [(atT b hb).1] at e
          cases e
          rw [← ep] at hm ⊢
          exact .inr (.inl ⟨((hC p hp).tab (hT p hp)).isCodeTable, rfl, #[], more, rfl, by rw [Array.empty_append]; exact hm⟩)
        · exact .inl (stay b o hb e)
      · by_cases hb : b ∈ tb
        · obtain ⟨more, hm⟩ := grew b hb
          exact ⟨_, hm⟩
        · exact ⟨o, stay b o hb e⟩
    | next => exact h.elim
    | brk => exact h.elim
    | cont => exact h.elim
/-- the end of a law's row -/
theorem law_walk {l : PySem.W.OpenLaw} {n k : Nat} {q : Program} {loose : List Str} {XP : (Str → Option Value) → Heap → Prop} {YP : World → Heap → Prop} {d : DefRec} {K : Params → PySem.W.Frag} {x : Str}
    (hn : l.most = some n) (hz : n ≤ sizeLine) (hdf : d.params.defaults = []) (room : Room k callerA) (hY : ∀ (w : World) (h : Heap), YP w h → (K w.params).In h)
    (F : ∀ (w : World) (mg : Str → Option Value) (fa : Addr) (h : Heap), (K w.params).In h → h.Ns mainGlobals mg → mg d.name = some (.ref fa) →
      ∃ (fd : FuncData) (cs : Tabs0), (∀ p ∈ cs, ∃ (y : Str) (e : DefRec), (recsOf q).find? (fun e => e.name == y) = some e ∧ PySem.W.tabIn (K w.params) y = some (p.1, p.2.1)) ∧ (∀ p ∈ cs, (K w.params).lookup p.2.1 = none) ∧ (cs.map (·.2.1)).Nodup ∧
        (∀ (s : Shared) (u : Value), BindsTo s fd ⟨[u], []⟩ [(x, u)]) ∧ ∀ base : Heap, (K w.params).In base → base.Ns mainGlobals mg → (∀ p ∈ cs, LamX.TabB base mg p.1 p.2.1) → ∀ ns : List Int, ns.length ≤ n → (∀ z ∈ ns, Builtin.Int.intBits z ≤ 1048576) →
        ∃ (mf : List D → AH → Res D) (AE : AH), mf [.lst (ns.map D.int)] (tabs0 cs) = .ok (.bl true) AE ∧ FnD l.prog w (K w.params) mg base k fa fd [x] mf) :
    PySem.W.WalkO q loose XP YP l.row.toRowW d [] (fun f vs => PySem.call f vs) := by
  refine Att.attach_callB hn hdf fun w s0 s1 mg mb fa o pm cd doc a us ns G Y ha hb hc hm hobj hi hlen hbits hg => ?_
  have kin := hY w _ Y
  obtain ⟨fd, cs, hT, nT, nd, bi, hF⟩ := F w mg fa _ kin G.T.g hm
  have tabs : ∀ p ∈ cs, PySem.W.CodeHd s1.heap p.1 p.2.1 ∧ s1.heap.get? p.2.1 = some { cls := .none, data := .fields #[] } := fun p hp => by
    obtain ⟨y, e, h1, h2⟩ := hT p hp
    exact PySem.W.tab_of G.T kin h1 h2
  exact law_run kin G.T.g G.T.b G.T.builtins G.T.nolimit hg (fun p hp => (tabs p hp).2) nT (fun p hp => (tabs p hp).1) nd G.T.bmain hobj hi (Nat.le_trans hlen hz) room (fun base h1 h2 h3 => hF base h1 h2 h3 ns hlen hbits) bi
end DM
end
section
set_option maxHeartbeats 2000000
namespace DM
open PySem PySem.Spec PyProof.Rows L2
section
variable {X : Cx} {W : WX} {a b c e o i tg iter elt : Expr} {es ifs : List Expr} {ma mb mc me mo mi : ME} {pos p p2 tpos : Pos}
/-- o[i] = e, o a changing list -/
def mSto (me mo mi : ME) : MS := fun ρ A => lift (me ρ A) ρ fun v A1 => lift (mo ρ A1) ρ fun o A2 => lift (mi ρ A2) ρ fun i A3 => match o, i with
  | .ref n, .int k => (match A3[n]? with
    | some (.lst xs) => (match ixN xs.length k with
      | some j => .nx ρ (A3.set n (.lst (xs.set j v)))
      | none => .no)
    | _ => .no)
  | _, _ => .no
theorem s_setI (he : DE X W e me) (hg : PG X (.Subscript o i tpos) (gSub (tE X.K W mo) (tE X.K W mi) rSetL))
    (hs : swapsWithSole [.Subscript o i tpos] e pos.line X.env = pure false := by rfl) (hw : swappedStores [.Subscript o i tpos] e X.env = pure none := by rfl) (h1 : (assignEach [.Subscript o i tpos] X.env).map (·.2) = [assign (.Subscript o i tpos) X.env] := by rfl) :
    DS X W (.Assign [.Subscript o i tpos] e pos) (mSto me mo mi) := by
  refine PSi (ps_asg he hg hs hw h1) fun D0 σ H ⟨m, A, ρ, R, E, h⟩ => tE.lift R E h fun m1 A1 d v H1 e1 R1 E1 r1 h1 => tE.lift R1 E1 h1 fun m2 A2 d2 v2 H2 e2 R2 E2 r2 h2 => tE.lift R2 E2 h2 fun m3 A3 d3 v3 H3 e3 R3 E3 r3 h3 => ?_
  split at h3
  · rename_i n k
    cases r3
    cases r2 with
    | ref hm =>
      rename_i q
      have hm3 := e3.get hm
      split at h3
      · rename_i xs hA
        obtain ⟨us, h4, rs⟩ := R3.lst hm3 hA
        split at h3
        · rename_i j hj
          refine ⟨q, us, k, j, rfl, rfl, h4, by rw [← rs.length]; exact hj, ?_⟩
          obtain ⟨R4, e4⟩ := R3.write (H' := upd H3 q (.lst (us.set j v))) (o := .lst (xs.set j d)) hm3 (fun p u hp z => by rw [upd_ne hp]; exact z) fun e => ⟨_, upd_same, RDs.mono e _ _ (rs.set (RD.mono (e2.trans e3) _ _ r1) j)⟩
          exact PostS.nx R4 (E3.mono e4) (PostS.mono e4 h3)
        · exact h3.elim
      · exact h3.elim
  · exact h3.elim
end
/-! ### a promise made simpler: what is left over of new objects is dropped -/
abbrev cloO (n : Nat) (o : AO) : Prop := clos n o.vals
def ClosedA (A : AH) : Prop := ∀ o ∈ A, cloO A.length o
theorem cut_r {m : Mp} {n : Nat} (i : Nat) (a : Addr) (c : i < n) (h : m.1[i]? = some a) : (m.1.take n, m.2).1[i]? = some a := by
  show (m.1.take n)[i]? = _
  rw [List.getElem?_take_of_lt c]; exact h
theorem cut_o {m : Mp} {n : Nat} {H : Hp} (a : Addr) (o : HO) (e : H a = some o) (h : Out m a) : H a = some o ∧ Out (m.1.take n, m.2) a := ⟨e, fun y => h.1 (List.mem_of_mem_take y), h.2⟩
theorem RD.cut {K : PySem.W.Frag} {m : Mp} {H : Hp} {n : Nat} (d : D) (v : V) (c : DM.clo n d) (h : RD K m H d v) : RD K (m.1.take n, m.2) H d v := RD.moveN cut_r cut_o d v c h
theorem RDs.cut {K : PySem.W.Frag} {m : Mp} {H : Hp} {n : Nat} (d : List D) (v : List V) (c : DM.clos n d) (h : RDs K m H d v) : RDs K (m.1.take n, m.2) H d v := RDs.moveN cut_r cut_o d v c h
theorem Rel.cut {K : PySem.W.Frag} {m : Mp} {A A1 : AH} {H : Hp} (R : Rel K m A H) (h1 : A.take A1.length = A1) (h2 : ClosedA A1) : Rel K (m.1.take A1.length, m.2) A1 H := by
  have hle : A1.length ≤ A.length := by rw [← h1, List.length_take]; exact Nat.min_le_right _ _
  refine ⟨by show (m.1.take A1.length).length = _; rw [List.length_take, R.len]; omega, R.nd.sublist (List.take_sublist _ _), R.pv, fun n o hn => ?_⟩
  have hlt : n < A1.length := (List.getElem?_eq_some_iff.mp hn).1
  have hA : A[n]? = some o := by
    rw [← h1, List.getElem?_take_of_lt hlt] at hn; exact hn
  obtain ⟨q, h3, h4⟩ := R.obj n o hA
  refine ⟨q, by show (m.1.take A1.length)[n]? = _; rw [List.getElem?_take_of_lt hlt]; exact h3, ?_⟩
  have hc := h2 o (List.mem_of_getElem? hn)
  exact h4.moveN cut_r cut_o rfl hc
theorem Ext.cut {m m' : Mp} {H H' : Hp} {n : Nat} (e : Ext m H m' H') (h : m.1.length ≤ n) : Ext m H (m'.1.take n, m'.2) H' := by
  obtain ⟨l, hl⟩ := e.pre
  refine ⟨⟨l.take (n - m.1.length), ?_⟩, e.sub, e.pvs, fun p hp => e.new p (List.mem_of_mem_take hp), e.keep⟩
  show m'.1.take n = _
  rw [hl, List.take_append, List.take_of_length_le h]
end DM
end
section
set_option maxHeartbeats 1000000
namespace DM
open PySem PySem.Spec PyProof.Rows L2
/-! ### running mirrors: one row a form, all applied -/
section
variable {ρ : DM.Env} {A : AH} {i j l n m a : Nat} {d : D} {f : D → D → AH → Res D} {g : List D → AH → Res D} {g2 : Nat → List D → AH → Res D} {ma mb mc me mo : ME} {mt mu : MT} {ms mk : MA} {ml mh : MO} {mi : MI} {sa sb : MS} {t : Tg} {ts : List Tg} {pm vs : List Nat} {b : Bool}
theorem ev_var : mVar i ρ A = (match ρ[i]? with | some (some d) => .ok d A | _ => .no) := id rfl
theorem ev_K : mK d ρ A = .ok d A := id rfl
theorem ev_op : mOp f ma mb ρ A = (ma ρ A).bind fun x A1 => (mb ρ A1).bind fun y A2 => f x y A2 := id rfl
theorem ev_neg : mNeg ma ρ A = (ma ρ A).bind fun d A1 => (match d with | .int i => .ok (.int (-i)) A1 | _ => .no) := id rfl
theorem ev_tst : mTst me ρ A = (me ρ A).bind fun d A1 => (match d with | .bl k => .ok k A1 | _ => .no) := id rfl
theorem ev_and : mAnd mt mu ρ A = (mt ρ A).bind fun k A1 => if k = true then mu ρ A1 else .ok false A1 := id rfl
theorem ev_or : mOr mt mu ρ A = (mt ρ A).bind fun k A1 => if k = true then .ok true A1 else mu ρ A1 := id rfl
theorem ev_not : mNot mt ρ A = (mt ρ A).bind fun k A1 => .ok (!k) A1 := id rfl
theorem ev_andV : mAndV ma mb ρ A = (ma ρ A).bind fun d A1 => (match d with | .bl true => mb ρ A1 | .bl false => .ok (.bl false) A1 | _ => .no) := id rfl
theorem ev_orV : mOrV ma mb ρ A = (ma ρ A).bind fun d A1 => (match d with | .bl true => .ok (.bl true) A1 | .bl false => mb ρ A1 | _ => .no) := id rfl
theorem ev_notV : mNotV ma ρ A = (ma ρ A).bind fun d A1 => (match d with | .bl k => .ok (.bl (!k)) A1 | _ => .no) := id rfl
theorem ev_if : mIf mt ma mb ρ A = (mt ρ A).bind fun k A1 => if k = true then ma ρ A1 else mb ρ A1 := id rfl
theorem ev_chn {f2 : D → D → AH → Res D} : mChn f f2 ma mb mc ρ A = (ma ρ A).bind fun x A1 => (mb ρ A1).bind fun y A2 => (f x y A2).bind fun z A3 => (match z with | .bl true => (mc ρ A3).bind fun w A4 => f2 y w A4 | .bl false => .ok (.bl false) A3 | _ => .no) := id rfl
theorem ev_nil : mNil ρ A = .ok [] A := id rfl
theorem ev_cons : mCons me ms ρ A = (me ρ A).bind fun d A1 => (ms ρ A1).bind fun ds A2 => .ok (d :: ds) A2 := id rfl
theorem ev_tup : mTup ms ρ A = (ms ρ A).bind fun ds A1 => if ds.length ≤ 1000 then .ok (.tup ds) A1 else .no := id rfl
theorem ev_lst : mLst ms ρ A = (ms ρ A).bind fun ds A1 => if ds.length ≤ 1000 then .ok (.lst ds) A1 else .no := id rfl
theorem ev_new : mNew ms ρ A = (ms ρ A).bind fun ds A1 => if ds.length ≤ 1000 then .ok (.ref A1.length) (A1 ++ [.lst ds]) else .no := id rfl
theorem ev_call : mCall g ms ρ A = (ms ρ A).bind fun ds A1 => g ds A1 := id rfl
theorem ev_callF : mCallF n g ms ρ A = (ms ρ A).bind fun ds A1 => if ds.length = n then g ds A1 else .no := id rfl
theorem ev_callK : mCallK n l a pm g ms mk ρ A = (ms ρ A).bind fun ds A1 => (mk ρ A1).bind fun es A2 => if ds.length = n ∧ es.length = l ∧ (DM.pick pm (ds ++ es)).length = a then g (DM.pick pm (ds ++ es)) A2 else .no := id rfl
theorem ev_met : mMet g2 mo ms ρ A = (mo ρ A).bind fun d A1 => (match d with | .ref n => (match A1[n]? with | some (.lst _) => (ms ρ A1).bind fun ds A2 => g2 n ds A2 | _ => .no) | _ => .no) := id rfl
theorem ev_sl : mSl me ml mh ρ A = (me ρ A).bind fun d A1 => (ml ρ A1).bind fun lo A2 => (mh ρ A2).bind fun hi A3 => fSl d lo hi A3 := id rfl
theorem ev_some : mSome me ρ A = (me ρ A).bind fun d A1 => (match d with | .int i => .ok (some i) A1 | _ => .no) := id rfl
theorem ev_none : mNone ρ A = .ok none A := id rfl
theorem ev_rev : mRev b me ρ A = (me ρ A).bind fun d A1 => if isTup d = true then .no else (match seqOf A1 d with | some xs => if b then .ok (.ref A1.length) (A1 ++ [.lst xs.reverse]) else .ok (.lst xs.reverse) A1 | none => .no) := id rfl
theorem ev_lc : mLc b mi t mt me vs ρ A = (mi ρ A).bind fun iv A1 => (match itemsOf A1 iv with | some all => if all.length ≤ 16777216 then (compGo iv all t mt me (wipeD ρ vs) all [] A1).bind fun acc A2 => if b = true then .ok (.ref A2.length) (A2 ++ [.lst acc]) else .ok (.lst acc) A2 else .no | none => .no) := id rfl
theorem ev_yes : mYes ρ A = .ok true A := id rfl
theorem ev_sq : mSq me ρ A = (me ρ A).bind fun d A1 => (match seqOf A1 d with | some _ => .ok (.sq d) A1 | none => .no) := id rfl
theorem ev_r1 : mR1 ms ρ A = (ms ρ A).bind fun ds A1 => (match ds with | [.int j] => if -(2 ^ 62) ≤ j ∧ j < 2 ^ 62 then .ok (.rng 0 j) A1 else .no | _ => .no) := id rfl
theorem ev_next : mNext ρ A = .nx ρ A := id rfl
theorem ev_drop : mDrop me ρ A = lift (me ρ A) ρ fun _ A1 => .nx ρ A1 := id rfl
theorem ev_ret : mRet me ρ A = lift (me ρ A) ρ fun d A1 => .rt d A1 := id rfl
theorem ev_ifs : mIfS mt sa sb ρ A = lift (mt ρ A) ρ fun k A1 => if k = true then sa ρ A1 else sb ρ A1 := id rfl
theorem ev_set : mSet i me ρ A = lift (me ρ A) ρ fun d A1 => .nx (ρ.set i (some d)) A1 := id rfl
theorem ev_par2 : mPar2 i j ms ρ A = lift (ms ρ A) ρ fun ds A1 => (match ds with | [x, y] => .nx ((ρ.set i (some x)).set j (some y)) A1 | _ => .no) := id rfl
theorem ev_par3 : mPar3 i j l ms ρ A = lift (ms ρ A) ρ fun ds A1 => (match ds with | [x, y, z] => .nx (((ρ.set i (some x)).set j (some y)).set l (some z)) A1 | _ => .no) := id rfl
theorem ev_asg : mAsg t me ρ A = lift (me ρ A) ρ fun d A1 => (match bindT t d ρ with | some ρ1 => .nx ρ1 A1 | none => .no) := id rfl
theorem ev_for : mFor mi t sb ρ A = lift (mi ρ A) ρ fun iv A1 => (match itemsOf A1 iv with | some all => forGo iv all t sb all ρ A1 | none => .no) := id rfl
theorem ev_nm : bindT (.nm i) d ρ = some (ρ.set i (some d)) := id rfl
theorem seq_nx {ρ1 : DM.Env} {A1 : AH} (h : sa ρ A = .nx ρ1 A1) : mSeq sa sb ρ A = sb ρ1 A1 := by unfold mSeq; rw [h]
theorem seq_rt {d : D} {A1 : AH} (h : sa ρ A = .rt d A1) : mSeq sa sb ρ A = .rt d A1 := by unfold mSeq; rw [h]
theorem fun_rt {ds : List D} {d : D} {A1 : AH} (h : sa (ds.map some ++ List.replicate (n - ds.length) none) A = .rt d A1) : mFun n sa ds A = .ok d A1 := by unfold mFun; rw [h]
end
/-- a range; not for the simplifier: over a number that is a length the kernel would count -/
theorem r1_at {ms : MA} {ρ : DM.Env} {A A1 : AH} {j : Int} (h : ms ρ A = .ok [.int j] A1) (hz : -(2 ^ 62) ≤ j ∧ j < 2 ^ 62) : mR1 ms ρ A = .ok (.rng 0 j) A1 := by
  unfold mR1
  rw [h, bind_ok]
  exact if_pos hz
/-- for, one turn -/
theorem for_nil {iv : ItV} {all : List D} {t : Tg} {sb : MS} {ρ : DM.Env} {A : AH} (h : itemsOf A iv = some all) : forGo iv all t sb [] ρ A = .nx ρ A := by
  unfold forGo; rw [if_pos h]
theorem for_nx {iv : ItV} {all xs : List D} {x : D} {t : Tg} {sb : MS} {ρ ρ1 ρ2 : DM.Env} {A A2 : AH} (h : itemsOf A iv = some all) (hb : bindT t x ρ = some ρ1) (hs : sb ρ1 A = .nx ρ2 A2) : forGo iv all t sb (x :: xs) ρ A = forGo iv all t sb xs ρ2 A2 := by
  conv => lhs; unfold forGo
  rw [if_pos h, hb]
  simp only [hs]
def EVa := And.intro (And.intro (And.intro (And.intro (And.intro (@ev_var) (@ev_K)) (And.intro (@ev_op) (@ev_neg))) (And.intro (And.intro (@ev_tst) (@ev_and)) (And.intro (@ev_or) (And.intro (@ev_not) (@ev_andV))))) (And.intro (And.intro (And.intro (@ev_orV) (@ev_notV)) (And.intro (@ev_if) (@ev_chn))) (And.intro (And.intro (@ev_nil) (@ev_cons)) (And.intro (@ev_tup) (And.intro (@ev_lst) (@ev_new)))))) (And.intro (And.intro (And.intro (And.intro (@ev_call) (@ev_callF)) (And.intro (@ev_callK) (@ev_met))) (And.intro (And.intro (@ev_sl) (@ev_some)) (And.intro (@ev_none) (And.intro (@ev_rev) (@ev_yes))))) (And.intro (And.intro (And.intro (@ev_sq) (@ev_next)) (And.intro (@ev_drop) (And.intro (@ev_ret) (@ev_ifs)))) (And.intro (And.intro (@ev_set) (@ev_par2)) (And.intro (@ev_par3) (And.intro (@ev_asg) (@ev_nm))))))
end DM
end
section
set_option maxHeartbeats 2000000
/-! own errors: [C, .. own classes .., Exception, BaseException, object] and the like -/
namespace PySem
namespace ErE
open Builtin Builtin.ObjectAttr
/-- own classes, then the built-in base's line -/
inductive Line (bm : List Value) : List Value → Prop
  | tail : Line bm bm
  | own {c : Addr} {r : List Value} : Line bm r → Line bm (.ref c :: r)
/-- the built-in base: what is asked of it -/
structure Base (B newId initId : String) (bm : List Value) : Prop where
  call : ∀ {prog : Program} {w : World} {A : Around} {R : Result → Shared → Prop} {h : Heap} {g : Array GenState} {d : Drawn} {t : Nat} {os : OsState} {nm q : Str} {C N : Addr} {bs l : List Value} {hdct : Bool} {sn : List Str} {sub : List Value} {ab : Bool} {col : Option Bool} {dd : Option Addr} {k0 k1 k2 k3 k5 : Option Value} {rest : List Value} {fI : Addr},
    (∀ X : String, l.contains (.type X) = bm.contains (.type X)) → h.get? C = some (excClassObj nm q C N bs l hdct sn sub ab col dd k0 k1 k2 k3 k5 newId) →
    W.Looks (model prog w) h (typeLookup (.ref C) "__init__") (some (.ref fI)) → (∀ self, W.Looks (model prog w) h (bindSpecial (.ref fI) self) (.ref fI, [self])) → rest.length ≤ sizeLine →
    codeAny (model prog w) (A.under (.builtin "type.__call__" ⟨.ref C :: rest, []⟩)) (.call (.ref fI) ⟨.ref (h.objs.size + 1) :: rest, []⟩) (W.InitBack (h.objs.size + 1) R) ⟨(h.push (W.kdv_tup rest)).push (HandSPX.excO C h.objs.size), g, d, t, os⟩ →
    codeAny (model prog w) A (.call (.ref C) ⟨rest, []⟩) R ⟨h, g, d, t, os⟩
  bound : ∀ {M : Model} {A : Around} {E : Value → Shared → Prop} {h : Heap} {g : Array GenState} {d : Drawn} {t : Nat} {os : OsState} {nm q : Str} {C N e : Addr} {oe : Obj} {bs l : List Value} {hdct : Bool} {sn : List Str} {sub : List Value} {ab : Bool} {col : Option Bool} {dd : Option Addr} {k0 k1 k2 k3 k5 : Option Value} {rest : List Value} {Q : Unit → Shared → Prop},
    h.get? C = some (excClassObj nm q C N bs l hdct sn sub ab col dd k0 k1 k2 k3 k5 newId) → h.get? e = some oe → oe.cls = .ref C → Q () ⟨h, g, d, t, os⟩ → wpAny M A (checkBoundCall initId ⟨.ref e :: rest, []⟩) Q E ⟨h, g, d, t, os⟩
  plain : plainId initId = true
  entry : entryFor table initId = some Builtin.«BaseException.__init__»
  KF : W.KxsFacts B initId
  pass : ∀ self, refuseLoop self "__setattr__" bm = pure ()
  obj : bm.contains (.type "object") = true
  ne : bm.isEmpty = false
theorem base_Exception : Base "Exception" "Exception.__new__" "Exception.__init__" [.type "Exception", .type "BaseException", .type "object"] :=
  ⟨fun hT hC hi hb hr hq => HandSPX.call_own F.excBase_Exception hT hC hi hb hr hq, fun hC he hc hq => W.check_bound_init F.excBase_Exception.toExcCallFacts hC he hc hq, F.excBase_Exception.init.plain, F.excBase_Exception.initEntry,
    W.kxs_Exception, F.store_Exception.passes, by decide +kernel, rfl⟩
theorem Line.pass {bm l : List Value} (p : ∀ self, refuseLoop self "__setattr__" bm = pure ()) (h : Line bm l) (self : Value) : refuseLoop self "__setattr__" l = pure () := by
  induction h with
  | tail => exact p self
  | own _ ih => rw [refuseLoop_ref]; exact ih
theorem Line.has {bm l : List Value} (h : Line bm l) (X : String) : l.contains (.type X) = bm.contains (.type X) := by
  induction h with
  | tail => rfl
  | own _ ih => rw [List.contains_cons, ih]; rfl
theorem Line.ne {bm l : List Value} (n : bm.isEmpty = false) (h : Line bm l) : l.isEmpty = false := by
  cases h with
  | tail => exact n
  | own _ => rfl
section
variable {prog : Program} {w : World} {A : Around} {E : Value → Shared → Prop} {R : Result → Shared → Prop} {hp : Heap} {g : Array GenState} {d : Drawn} {t : Nat} {os : OsState} {B newId initId : String} {bm : List Value}
/-- the first field of an error without a dict -/
theorem first_field {K : W.Frag} {f : Str} {tk : Tok} {v : Value} {e C : Addr} {fv : Array Value} {cd : ClassData} (BF : Base B newId initId bm)
    (KI : K.In hp) (he : hp.get? e = some { cls := .ref C, data := .fields fv }) (hcd : W.clsIn K C = some cd) (hl : Line bm cd.mro) (hdct : cd.hasDict = true) (hno : W.findIn K (.ref C) f = some none)
    (fin : ∀ h2 tk2 dx, (∀ b o, b ≠ e → hp.get? b = some o → h2.get? b = some o) → hp.objs.size ≤ dx → dx ≠ e → h2.get? e = some { cls := .ref C, dict := some dx, data := .fields fv } →
      h2.Ns1 dx (fun y => if y = f then some v else none) → R (.ok (.ret .none)) ⟨h2, g, d, tk2, os⟩) :
    codeAny (model prog w) A (.call (.builtin "object.__setattr__") ⟨[.ref e, .str f tk, v], []⟩) R ⟨hp, g, d, t, os⟩ := by
  have J : W.InstAt hp e { cls := .ref C, data := .fields fv } C none := ⟨he, rfl, rfl, trivial⟩
  have ob := F.store_object
  have isO : cd.mro.contains (.type "object") = true := by rw [hl.has]; exact BF.obj
  have far : e ≠ hp.objs.size := Nat.ne_of_lt (Heap.lt_size he)
  have inO : W.Looks (model prog w) hp (isInstance (.ref e) (.type "object")) true := J.type.andThen (W.looks_mroIn KI (by
    unfold W.mroIn
    rw [hcd, Option.bind_some, if_neg (by rw [hl.ne BF.ne]; decide), isO]))
  refine codeAny_call_builtin ob.slot.plain ob.entry ?_
  refine @W.check_slot (model prog w) _ _ ⟨hp, g, d, t, os⟩ "object.__setattr__" "object" "__setattr__" (.ref e) [.str f tk, v] [] _ ob.kind ob.split inO (ob.args (.ref e) (.str f tk) v) ?_
  have lineIs : W.Looks (model prog w) hp (mroOf (.ref C)) cd.mro := (W.looks_clsIn KI hcd).andThen .now
  have none3 : W.Looks (model prog w) hp (storeTaker? none) none := .now
  have data : W.Looks (model prog w) hp (classData C) cd := W.looks_clsIn KI hcd
  rw [W.osa_eq, refuse_eq]
  refine wpAny_bind (wpAny_bind (J.type.at ?_))
  refine wpAny_bind (lineIs.at ?_)
  rw [hl.pass BF.pass]
  refine wpAny_pure (wpAny_bind (J.type.at ?_))
  refine wpAny_bind ((W.looks_findIn KI hno).at (wpAny_bind (none3.at ?_)))
  show wpAny _ _ (storeInOwnDict (.ref e) (.ref C) (.str f tk) f v false) _ _ _
  obtain ⟨nm, bs, mro, ns, qn, hd, sn, sb, ab, col, del⟩ := cd
  dsimp only at hdct
  subst hdct
  unfold storeInOwnDict ownDictForStores
  repeat (first | with_reducible refine HandSPX.store_in_new ?_ ?_ | with_reducible refine wpAny_loadPart_at he ?_ | with_reducible refine data.at ?_ | wp_step)
  · refine ⟨_, #[], _, (Heap.get?_update_ne _ _ _ _ far.symm).trans (Heap.get?_push_at rfl rfl), rfl, ?_, fun _ => rfl⟩
    intro y hy
    exact absurd hy (by simp)
  · intro h2 tk2 hn2 same
    have he1 : (hp.push { cls := .type "dict", data := .dict #[] }).get? e = some { cls := .ref C, data := .fields fv } := Heap.get?_push_of_some _ he
    refine fin h2 tk2 hp.objs.size ?_ (Nat.le_refl _) far.symm ((same.2 e far).trans (Heap.get?_update_self _ he1 rfl)) hn2
    intro b o hb ho
    exact (same.2 b (Nat.ne_of_lt (Heap.lt_size ho))).trans ((Heap.get?_update_ne _ _ _ _ hb).trans (Heap.get?_push_of_some _ ho))
/-- the built-in __init__, bound to the error, is called: the args are laid anew -/
theorem mw_call {C e u t0 : Addr} {nm q : Str} {N : Addr} {bs bm1 : List Value} {hdct : Bool} {sn : List Str} {sub : List Value} {ab : Bool} {col : Option Bool} {dd : Option Addr} {k0 k1 k2 k3 k5 : Option Value} {rest : List Value} {Q : Value → Shared → Prop} (BF : Base B newId initId bm)
    (hC : hp.get? C = some (excClassObj nm q C N bs bm1 hdct sn sub ab col dd k0 k1 k2 k3 k5 newId)) (he : hp.get? e = some (HandSPX.excO C t0)) (hu : hp.get? u = some (W.kxs_mw initId e)) (hz : rest.length ≤ sizeLine)
    (fin : ∀ h' t1, (∀ b o, b ≠ e → hp.get? b = some o → h'.get? b = some o) → h'.get? e = some (HandSPX.excO C t1) → Q .none ⟨h', g, d, t, os⟩) :
    wpAny (model prog w) A (call (.ref u) rest) Q E ⟨hp, g, d, t, os⟩ := by
  refine wpAny_call (codeAny_of_tree ?_)
  show wpAny _ A.in1 (callAny (.ref u) ⟨rest, []⟩) _ _ _
  simp only [callAny]
  refine wpAny_bind (wpAny_load hu ?_)
  simp only [W.kxs_mw, show (Value.type "method-wrapper" == Value.type "method" || Value.type "method-wrapper" == Value.type "builtin_function_or_method" || Value.type "method-wrapper" == Value.type "method-wrapper") = true by decide, if_true]
  refine W.KFB.if_so (by decide) ?_
  refine wpAny_bind (BF.bound hC he rfl ?_)
  refine wpAny_bind (wpAny_pure (wpAny_pure ?_))
  refine ⟨plainId_quiet BF.plain _, codeAny_builtin BF.entry ?_⟩
  exact W.exc_init_tree (cls := .ref C) (t0 := t0) (dv := none) (c2 := .none) (c3 := .none) (b4 := .bool false) he hz fun h' k e1 _ => fin h' _ k e1
end
/-- what the written part says of an error's class; its __init__ is super().__init__(x); self.f = x -/
structure ErrC (prog : Program) (K : W.Frag) (B newId initId : String) (bm : List Value) (C fI : Addr) (f : Str) : Prop where
  base : Base B newId initId bm
  cls : ∃ nm q N bs bm1 sn sub ab col dd k0 k1 k2 k3 k5, K.lookup C = some (excClassObj nm q C N bs bm1 true sn sub ab col dd k0 k1 k2 k3 k5 newId) ∧ Line bm bm1
  sa : W.findIn K (.ref C) "__setattr__" = some (some (.builtin "object.__setattr__"))
  ini : W.findIn K (.ref C) "__init__" = some (some (.ref fI))
  tI : W.typeIn K (.ref fI) = some (.type "function")
  fld : W.findIn K (.ref C) f = some none
  sup : W.ks_superIn K C C "__init__" = some (some (.builtin initId))
  subB : W.subIn K (.ref C) (.type B) = some true
  opq : W.nsIn K cStatics "thirdparty.any" = some none
  top : (prog.main.scope.names.lookup ("super" : Str)).isSome = false
  fn : ∃ (oc : Value) (od : Option Addr) (osl : Array (Option Value)) (qual : Str) (params : Arguments) (scope : Scope) (dV kV doc pm ct : Value) (an : Option Addr) (cda cc : Addr) (x : Str) (p0 p1 p2 p3 p4 p5 p6 p7 p8 p9 : Pos),
    K.lookup fI = some ⟨oc, od, .func (W.ksFn "__init__" qual params [.Expr (.Call (.Attribute (.Call (.Name "super" p0) [] [] p1) "__init__" p2) [.Name x p3] [] p4) p5, .Assign [.Attribute (.Name "self" p6) f p7] (.Name x p8) p9] scope dV kV doc pm an (.ref cda) ct cc), osl⟩ ∧
      W.codeIn K (.ref cda) qual = true ∧ (∃ (ccl : Value) (cdd : Option Addr) (vs : Array Value) (ccs : Array (Option Value)) (file : Str) (tf : Tok), K.lookup cda = some ⟨ccl, cdd, .fields vs, ccs⟩ ∧ vs[2]? = some (.str file tf) ∧ ((prog.main.file : Str) == file) = true) ∧
      (∃ (cl : Value) (cld : Option Addr) (csl : Array (Option Value)), K.lookup cc = some ⟨cl, cld, .cell (some (.ref C)), csl⟩) ∧
      scope.names.lookup ("super" : Str) = some .globalImplicit ∧ scope.names.lookup ("__class__" : Str) = some .free ∧ scope.names.lookup ("self" : Str) = some .local ∧ scope.names.lookup x = some .local ∧ x ≠ "self" ∧ (x == ("__debug__" : Str)) = false ∧ (∀ y ∈ scope.names, y.2 ≠ .cell) ∧ scope.kind = .function ∧ scope.isCoroutine = false ∧ scope.isGenerator = false ∧ (p2.endLine == p4.line) = true ∧
      ((params.posonlyargs ++ params.args).head?.map (·.arg) = some "self") ∧
      ∀ (s : Shared) (a b : Value), BindsTo s (W.ksFn "__init__" qual params [.Expr (.Call (.Attribute (.Call (.Name "super" p0) [] [] p1) "__init__" p2) [.Name x p3] [] p4) p5, .Assign [.Attribute (.Name "self" p6) f p7] (.Name x p8) p9] scope dV kV doc pm an (.ref cda) ct cc) ⟨[a, b], []⟩ [("self", a), (x, b)]
open PySem.W PySem.Calls PyProof.Rows in
/-- C(u) -/
theorem make_err {prog : Program} {w : World} {A : Around} {R : Result → Shared → Prop} {h : Heap} {g : Array GenState} {d : Drawn} {t : Nat} {os : OsState} {K : W.Frag} {B newId initId : String} {bm : List Value} {C fI : Addr} {f : Str} {u : Value} {mg : Str → Option Value}
    (T : ErrC prog K B newId initId bm C fI f) (M : L2.Mod K mg h) (hsup : mg "super" = none) (room : (A.under (.builtin "type.__call__" ⟨.ref C :: [u], []⟩)).depth < recursionLimit)
    (fin : ∀ e h2 t2 dx t1, (∀ b o, h.get? b = some o → h2.get? b = some o) → h.objs.size ≤ e → h.objs.size ≤ dx → dx ≠ e →
      h2.get? e = some { cls := .ref C, dict := some dx, data := .fields #[.ref t1, .none, .none, .none, .bool false, .none] } → h2.Ns1 dx (fun y => if y = f then some u else none) → R (.ok (.ret (.ref e))) ⟨h2, g, d, t2, os⟩) :
    codeAny (model prog w) A (.call (.ref C) ⟨[u], []⟩) R ⟨h, g, d, t, os⟩ := by
  obtain ⟨nm, q, N, bs, bm1, sn, sub, ab, col, dd, k0, k1, k2, k3, k5, hC, hl⟩ := T.cls
  have hcd : W.clsIn K C = some { name := nm, bases := bs, mro := .ref C :: bm1, ns := N, qualname := q, hasDict := true, slotNames := sn, subclasses := sub, abstract := ab, collection := col, hasDel := false } := by unfold W.clsIn; rw [hC] <;> rfl
  refine T.base.call (fun Y => hl.has Y) (M.kin _ _ hC) (looks_findIn M.kin T.ini) (fun self => bind_fn M.kin self T.tI) (by show 1 ≤ sizeLine; rw [sizeLine_eq]; omega) ?_
  obtain ⟨oc, od, osl, qual, params, scope, dV, kV, doc, pm, ct, an, cda, cc, x, p0, p1, p2, p3, p4, p5, p6, p7, p8, p9, lk, hcode, ⟨ccl, cdd, vs, ccs, file, tf, hcc, hvs, hfile⟩, ⟨cl, cld, csl, hcell⟩, ks, kc, kself, kx, nxs, hdb, ncell, hk, hco, hgen, hline, hfirst, bi⟩ := T.fn
  generalize hE : A.under (.builtin "type.__call__" ⟨.ref C :: [u], []⟩) = A2 at room ⊢
  have kp : ∀ b o, h.get? b = some o → ((h.push (kdv_tup [u])).push (HandSPX.excO C h.objs.size)).get? b = some o := fun b o e => Heap.get?_push_of_some _ (Heap.get?_push_of_some _ e)
  have hget : ((h.push (kdv_tup [u])).push (HandSPX.excO C h.objs.size)).get? (h.objs.size + 1) = some (HandSPX.excO C h.objs.size) := by heap_get
  have hsz1 : h.objs.size ≤ h.objs.size + 1 := Nat.le_succ _
  have hM1 : L2.Mod K mg ((h.push (kdv_tup [u])).push (HandSPX.excO C h.objs.size)) := by
    obtain ⟨a1, a2, ⟨mb, a3, a4⟩, a5⟩ := M
    exact ⟨a1.keeps kp, a2.keeps kp, ⟨mb, a3.keeps kp, a4⟩, a5.keeps kp⟩
  generalize h.objs.size + 1 = e at hget hsz1 ⊢
  generalize hh1 : (h.push (kdv_tup [u])).push (HandSPX.excO C h.objs.size) = h1 at *
  generalize h.objs.size = t0 at hget
  have hloc : ∀ y ∈ ([("self", .ref e), (x, u)] : List (Str × Value)), scope.names.lookup y.1 = some .local := by
    intro y hy
    rcases List.mem_cons.mp hy with rfl | hy
    · exact kself
    · rw [List.mem_singleton.mp hy]; exact kx
  refine ks_codeAny_call_defAt (h := ?_) (binds := ([("self", .ref e), (x, u)] : List (Str × Value))) room (hM1.kin _ _ lk) rfl hM1.nolimit (codeRec_of hM1.kin hcode) rfl (bi _ _ _) ncell hloc hco hgen hk
  intro h2 hns k2
  have hM2 : L2.Mod K mg h2 := by
    obtain ⟨a1, a2, ⟨mb, a3, a4⟩, a5⟩ := hM1
    exact ⟨a1.keeps k2, a2.keeps k2, ⟨mb, a3.keeps k2, a4⟩, a5.keeps k2⟩
  have he2 := k2 _ _ hget
  have vself : (fun y => ([("self", Value.ref e), (x, u)] : List (Str × Value)).reverse.lookup y) "self" = some (.ref e) := by
    show List.lookup ("self" : Str) ([(x, u), ("self", Value.ref e)] : List (Str × Value)) = _
    rw [List.lookup_cons, show (("self" : Str) == x) = false by simpa using Ne.symm nxs]
    rfl
  have vx : (fun y => ([("self", Value.ref e), (x, u)] : List (Str × Value)).reverse.lookup y) x = some u := by
    show List.lookup x ([(x, u), ("self", Value.ref e)] : List (Str × Value)) = _
    rw [List.lookup_cons, show (x == x) = true by simp]
  obtain ⟨oD, hD1, hD2⟩ : ∃ oD, h2.get? C = some oD ∧ ∃ cd, oD.data = .cls cd := ⟨_, hM2.kin _ _ hC, _, rfl⟩
  obtain ⟨cdD, hD2⟩ := hD2
  obtain ⟨mb, hmb, hmbb⟩ := hM2.blt
  have Ie : InstAt h2 e (HandSPX.excO C t0) C none := ⟨he2, rfl, rfl, trivial⟩
  have subC : mroIn K C (.ref C) = some true := by
    unfold mroIn
    rw [hcd, Option.bind_some]
    simp
  refine ks_wpAt_execs_cons (ks_wpAt_Expr_any (ks_wpAt_MethodCall (pl := (do return (← importBound (.Call (.Name "super" p0) [] [] p1) (callEnv (ksFn "__init__" qual params [.Expr (.Call (.Attribute (.Call (.Name "super" p0) [] [] p1) "__init__" p2) [.Name x p3] [] p4) p5, .Assign [.Attribute (.Name "self" p6) f p7] (.Name x p8) p9] scope dV kV doc pm an (.ref cda) ct cc) h1.objs.size fI)).getD true)) ?_ ?heq) ?hint)
  case hint =>
    show interactive _ = false
    unfold interactive
    simp [callEnv, newEnv, hk]
  case heq =>
    rw [arm_eval_Call]
    simp only [methodCall, methodCallPos, hline, Bool.or_true, if_true, bind_pure_comp, pure_bind, bind_assoc]
    rfl
  cases hfa : (params.posonlyargs ++ params.args).head? with
  | none => rw [hfa] at hfirst; cases hfirst
  | some ar =>
  rw [hfa] at hfirst
  have har : ar.arg = "self" := Option.some.inj hfirst
  refine ks_wpAt_super_base (fd := ksFn "__init__" qual params _ scope dV kV doc pm an (.ref cda) ct cc) ks kc (by decide +kernel) rfl (hM2.kin _ _ lk) rfl hfa rfl (hM2.kin _ _ hcc) rfl hvs hfile T.top ?_
  refine ks_loadName_global hk ks (loadGlobal_builtin hM2.glob hsup hmb ((hmbb _ (by decide +kernel)).trans PyProof.Rows.Boot.«super») ⟨rfl, ?_⟩)
  refine wpAny_loadName_free hk kc rfl ⟨_, hM2.kin _ _ hcell, rfl⟩ ?_
  rw [har]
  refine wpAny_loadName_local hk kself hns vself ?_
  refine ks_wpAny_isType_cls hD1 hD2 ⟨rfl, ?_⟩
  refine ks_wpAny_call_super hD1 hD2 he2 rfl (fun c z => by cases z) (looks_mroIn hM2.kin subC) (fun h3 e3 k3 => ?_)
  have k13 : ∀ b o, h1.get? b = some o → h3.get? b = some o := fun b o z => k3 b o (k2 b o z)
  have KX3 : K.In h3 := hM2.kin.keeps k3
  have he3 := k3 _ _ he2
  have Ie3 : InstAt h3 e (HandSPX.excO C t0) C none := ⟨he3, rfl, rfl, trivial⟩
  have hsup2 := T.sup
  unfold ks_superIn at hsup2
  rw [hcd, Option.bind_some] at hsup2
  refine kxs_getMethod T.base.KF e3 (looks_opaque KX3 T.opq) (l₀ := .ref C :: bm1) ?_ rfl KX3 hsup2 (Ie3.type.andThen (looks_subIn KX3 T.subB)) (ks_ne KX3 Ie3 hcd) (by decide +kernel) ?_
  · exact fun A Q E s k q => wpAny_bind ((looks_clsIn KX3 hcd) A _ E s k (wpAny_pure q))
  have hu4 : (h3.push (kxs_mw initId e)).get? h3.objs.size = some (kxs_mw initId e) := Heap.get?_push_at rfl rfl
  have k4 : ∀ b o, h3.get? b = some o → (h3.push (kxs_mw initId e)).get? b = some o := fun b o z => Heap.get?_push_of_some _ z
  generalize h3.push (kxs_mw initId e) = h4 at hu4 k4 ⊢
  generalize h3.objs.size = uu at hu4 ⊢
  have hns4 := (hns.keeps k3).keeps k4
  refine kxs_callWith (i := initId) (x := e) (by rfl) (evalArgs_plain ?_)
  show wpAny _ _ (spliced ((false, eval (.Name x p3) _) :: backTo p4 (starEach [] _))) _ _ _
  refine Calls.spliced_cons (wpAny_Name (wpAny_loadName_local hk kx hns4 vx (Calls.spliced_nil ⟨hu4, ?_⟩)) hdb)
  refine mw_call T.base (KX3.keeps k4 _ _ hC) (k4 _ _ he3) hu4 (by show 1 ≤ sizeLine; rw [sizeLine_eq]; omega) fun h5 t1 k5 e5 => ?_
  have nL : h1.objs.size ≠ e := Nat.ne_of_gt (Heap.lt_size hget)
  have hns5 : h5.Ns h1.objs.size (fun y => ([("self", Value.ref e), (x, u)] : List (Str × Value)).reverse.lookup y) := by
    obtain ⟨o, es, ep, a, b, c⟩ := hns4
    exact ⟨o, es, ep, k5 _ _ nL a, b, c⟩
  have old : ∀ b o, h.get? b = some o → b ≠ e := fun b o z => Nat.ne_of_lt (Nat.lt_of_lt_of_le (Heap.lt_size z) hsz1)
  have k15 : ∀ b o, b ≠ e → h1.get? b = some o → h5.get? b = some o := fun b o n z => k5 b o n (k4 b o (k13 b o z))
  have KX5 : K.In h5 := fun b o z => k15 b o (old b o (M.kin b o z)) (hM1.kin b o z)
  refine wpAt_of_wpAny (wpAny_execs_cons (plainObj_wpAny_Assign_Attribute (wpAny_Name (wpAny_loadName_local hk kx hns5 vx (wpAny_Name (wpAny_loadName_local hk kself hns5 vself ?_) (by decide +kernel))) hdb) ?hsw))
  case hsw => rfl
  refine set_plain KX5 (ox := HandSPX.excO C t1) (od := none) ⟨e5, rfl, rfl, trivial⟩ T.sa (first_field T.base KX5 e5 hcd (Line.own hl) rfl T.fld fun h6 tk6 dx k6 hdx ndx e6 n6 => ?_)
  refine wpAny_execs_nil ?_
  refine ⟨rfl, fin e h6 tk6 dx t1 (fun b o z => k6 b o (old b o z) (k15 b o (old b o z) (kp b o z))) hsz1 (Nat.le_trans (Nat.le_trans hsz1 (Nat.le_of_lt (Heap.lt_size e5))) hdx) ndx e6 n6⟩
end ErE
end PySem
namespace DM
open PySem PySem.Spec PyProof.Rows L2
section
variable {X : Cx} {W : WX} {B newId initId : String} {bm : List Value} {C fI : Addr} {f x : Str} {e : Expr} {te : TE} {me : ME} {p pos pos2 : Pos}
/-- C(e): an error with one field -/
theorem pmk_err (T : ErE.ErrC X.prog X.K B newId initId bm C fI f) (hr : Room 1 X.A) (hg : Gl X x) (hm : X.mg x = some (.ref C)) (kC : PySem.W.keepIn X.K (.ref C) = true) (r : Raises X (.ref C)) (hsup : X.mg "super" = none) (he : PE X e te)
    (hdb : (x == ("__debug__" : Str)) = false := by decide) (hse : starEach [e] X.env = (false, eval e X.env) :: starEach [] X.env := by rfl) : PMk X (.Call (.Name x p) [e] [] pos) (fun σ H Q => te σ H fun y H1 => ∀ d, H1 d = none → Q (.ref C) (some d) (upd H1 d (.xd [(f, y)]))) := by
  intro pins s σ H Q I h
  refine wpAny_Call_Name_kw (ld_glob I hg hm ?_ hdb)
  have ha : PA X [e] (tCons te tNil) := pa_cons he pa_nil hse
  refine PySem.W.callWith_K (h₀ := X.base) I.ok.mod.kin kC (thn (ha.run pos pins s σ H (fun vs H1 => ∃ y, vs = [y] ∧ ∀ d, H1 d = none → Q (.ref C) (some d) (upd H1 d (.xd [(f, y)]))) I ?_) fun us s1 hh => ?_) hse
  · have e0 : (fun (y : V) (H1 : Hp) => ∀ d, H1 d = none → Q (.ref C) (some d) (upd H1 d (.xd [(f, y)]))) = fun y H1 => (fun vs H1 => ∃ y, vs = [y] ∧ ∀ d, H1 d = none → Q (.ref C) (some d) (upd H1 d (.xd [(f, y)]))) [y] H1 := by
      funext y H1
      refine propext ⟨fun z => ⟨y, rfl, z⟩, fun ⟨y', z, q⟩ => ?_⟩
      cases z
      exact q
    rw [e0] at h
    exact h
  obtain ⟨vs, H1, I1, r1, y, rfl, q⟩ := hh
  refine ⟨I1.kIn, ?_⟩
  cases r1 with
  | cons ru rn =>
    rename_i u us'
    cases rn
    show wpAny _ _ (call (.ref C) [u]) _ _ _
    obtain ⟨hp, g, dr, tk, os⟩ := s1
    have M1 : Mod X.K X.mg hp := by
      obtain ⟨a1, a2, ⟨mb, a3, a4⟩, a5⟩ := I1.mod
      exact ⟨I1.kIn, a2.keeps I1.bk, ⟨mb, a3.keeps I1.bk, a4⟩, a5.keeps I1.bk⟩
    refine wpAny_call (ErE.make_err T M1 hsup (by rw [make_depth]; have := hr.dp; omega) fun a h2 t2 dx t1 k ha hdx ndx e2 n2 => ?_)
    obtain ⟨G, g1, g2⟩ := restrict h2 fun b => decide (b ≠ a)
    have gk : ∀ b, b ≠ a → G.get? b = h2.get? b := fun b hb => g1 b (decide_eq_true hb)
    have ge : G.get? a = none := g2 a (by simp)
    have na : H1 a = none := I1.hok.fresh ha
    have J := I1.laid (t' := t2) (a := dx) (o := .xd [(f, y)]) (h' := G) (fun b o z => (gk b (Nat.ne_of_lt (Nat.lt_of_lt_of_le (Heap.lt_size z) ha))).trans (k b o z)) hdx
      ⟨_, n2.at fun o z => (gk dx ndx).trans z, fun z => relO_put (fs := []) (mA := fun _ => none) ru (fun _ => True.intro) z⟩
    refine ⟨a, _, _, ⟨G, g, dr, t2, os⟩, upd H1 dx (.xd [(f, y)]), .ref C, some dx, rfl, J, fun b o z => ?_, ge, e2, ⟨rfl, rfl⟩, rfl, rfl, ?_, rfl, J.bare, r, q dx (I1.hok.fresh hdx)⟩
    · by_cases hb : b = a
      · rw [hb, ge] at z; cases z
      · exact (gk b hb).symm.trans z
    · rw [upd_ne (Ne.symm ndx)]; exact na
/-- raise C(e) -/
def mRaise (C f : Str) (me : ME) : MS := fun ρ A => lift (me ρ A) ρ fun d A1 => .exc C [(f, d)] ρ A1
theorem s_raise {cn : Str} (hc : X.calm = true) (tk : Takes X W) (T : ErE.ErrC X.prog X.K B newId initId bm C fI f) (hr : Room 1 X.A) (hm : X.mg cn = some (.ref C)) (hcn : clsV X.K cn = some (.ref C)) (kC : PySem.W.keepIn X.K (.ref C) = true)
    (r1 : PySem.W.subIn X.K (.ref C) (.type "BaseException") = some true) (r2 : PySem.W.typeIn X.K (.ref C) = some (.type "type")) (hsup : X.mg "super" = none) (he : DE X W e me) (hg : Gl X cn := by rfl) (hdb : (cn == ("__debug__" : Str)) = false := by decide) (hse : starEach [e] X.env = (false, eval e X.env) :: starEach [] X.env := by rfl) :
    DS X W (.Raise (some (.Call (.Name cn p) [e] [] pos)) none pos2) (mRaise cn f me) :=
  PSi (ps_raise hc tk (pmk_err T hr hg hm kC (raises_own r1 r2) hsup he hdb hse)) fun D σ H ⟨m, A, ρ, R, E, h⟩ => tE.lift R E h fun m1 A1 d v H1 e1 R1 E1 r1 h1 dx hdx => by
    obtain ⟨R2, e2⟩ := R1.new hdx (.xd [(f, v)])
    exact h1 m1 _ _ (some dx) σ e2 R2 (E1.mono e2) hcn ⟨by simp, _, upd_same, R1.out hdx, rfl, .cons (RD.mono e2 _ _ r1) .nil⟩
end
end DM
end
section
set_option maxHeartbeats 2000000
namespace DM
open PySem PySem.Spec PyProof.Rows L2
/-! ### try: several clauses, with names or without -/
abbrev SuiteT := Addr → Value → Option Addr → TS
def goneE (i : Nat) (D : Ends) : Ends where
  nx := fun τ G => D.nx (τ.set i none) G
  rt := D.rt
  bk := fun τ G => D.bk (τ.set i none) G
  ct := fun τ G => D.ct (τ.set i none) G
/-- a clause's suite for the exception at a -/
def runH (oi : Option Nat) (ts : SuiteT) (a : Addr) (cls : Value) (d : Option Addr) (D : Ends) (σ : L2.St) (H : Hp) : Prop := match oi with
  | none => ts a cls d D σ H
  | some i => ts a cls d (goneE i D) (σ.set i (some (.ref a))) H
def wHs (K : PySem.W.Frag) (Wout : WX) (D : Ends) : List (Value × Option Nat × SuiteT) → WX
  | [] => Wout
  | (c, oi, ts) :: r => fun cls d σ H => ∃ b, PySem.W.exmOne K cls c = some b ∧ (b = true → ∀ a, H a = none → runH oi ts a cls d D σ H) ∧ (b = false → wHs K Wout D r cls d σ H)
def SuiteOk (X : Cx) (sts : List Stmt) (ts : SuiteT) : Prop := ∀ (a : Addr) (oe : Obj) (cls : Value) (d : Option Addr) (pn : List (Addr × Obj)), Zc cls d oe → (∃ vs, oe.data = .fields vs) → PSs (X.suite a ((a, oe) :: pn)) sts (ts a cls d)
inductive HsOk (X : Cx) : List ExceptHandler → List (Value × Option Nat × SuiteT) → Prop
  | nil : HsOk X [] []
  | bare {x : Str} {c : Value} {ts : SuiteT} {b₀ : Stmt} {sts : List Stmt} {np hp : Pos} {hds : List ExceptHandler} {l : List (Value × Option Nat × SuiteT)} (hc : Names X x c) (ok : SuiteOk X (b₀ :: sts) ts) (r : HsOk X hds l) :
      HsOk X (.ExceptHandler (some (.Name x np)) none (b₀ :: sts) hp :: hds) ((c, none, ts) :: l)
  | named {x n : Str} {i : Nat} {c : Value} {ts : SuiteT} {b₀ : Stmt} {sts : List Stmt} {np hp : Pos} {hds : List ExceptHandler} {l : List (Value × Option Nat × SuiteT)} (hi : X.N[i]? = some n) (hl : X.env.kindOf n = some .local) (hc : Names X x c) (ok : SuiteOk X (b₀ :: sts) ts) (r : HsOk X hds l) :
      HsOk X (.ExceptHandler (some (.Name x np)) (some n) (b₀ :: sts) hp :: hds) ((c, some i, ts) :: l)
section
variable {X : Cx} {body : List Stmt} {h₀ : ExceptHandler} {hds : List ExceptHandler} {l : List (Value × Option Nat × SuiteT)} {pos : Pos} {tb : WX → TS} {Wout : WX} {pins : List (Addr × Obj)} {σ : L2.St} {H : Hp} {D : Ends}
/-- the clauses, one after the other, over a landed exception -/
theorem hs_go (stk : X.stack = X.env :: X.outer) (hf : X.env.frame = some X.env.locals) (hN : X.N.Nodup) (tk : Takes X Wout) (ok : X.Ok) {a : Addr} {B : Heap} {sI t t3 : Shared} {cls : Value} {d : Option Addr} {h3 : Heap}
    (J : Inv X pins σ H sI) (nb : ∀ b o, sI.heap.get? b = some o → b ∉ frs X.stack → B.get? b = some o) (up : sI.heap.UpToSlots h3) (na : H a = none) (os : t.os = sI.os) (ag : AllBare t.gens)
    (fl : HandSPX.FlyingZ B (X.env :: X.outer) a (Zc cls d) h3) {hds : List ExceptHandler} {l : List (Value × Option Nat × SuiteT)} (hk : HsOk X hds l) :
    wHs X.K Wout D l cls d σ H → wpAny (model X.prog X.w) X.A (handleBy (.ref a) X.env hds) (SP X pins D) X.xe { t with heap := h3 } := by
  have off : ∀ {h : Heap}, HandSPX.FlyingZ B (X.env :: X.outer) a (Zc cls d) h → a ≠ X.env.locals ∧ a ∉ X.fs := fun {h} x => by
    obtain ⟨oe, vs, e1, _, e2⟩ := x.there
    have no : a ∉ frs (X.env :: X.outer) := fun hm => by
      obtain ⟨_, o, e3, nf⟩ := x.2.2.1.mem hm
      rw [e1] at e3; cases e3
      exact nf _ e2
    refine ⟨fun z => no (List.mem_filterMap.mpr ⟨X.env, List.mem_cons_self, by rw [hf, z]⟩), fun hm => ?_⟩
    obtain ⟨e, he, q⟩ := List.mem_filterMap.mp hm
    exact no (List.mem_filterMap.mpr ⟨e, List.mem_cons_of_mem _ he, q⟩)
  obtain ⟨nL, nF⟩ := off fl
  have J3 : Inv X pins σ H { t with heap := h3 } := J.landed nb fl.1 up os ag
  obtain ⟨oe3, vs3, he3, hz3, hd3⟩ := fl.there
  have S3 := J3.suite he3 hd3 na nL nF
  have tested : ∀ {x : Str} {c : Value} {np : Pos}, Names X x c → ∀ {Q : Value → Shared → Prop} {E : Value → Shared → Prop}, Q c { t with heap := h3 } → wpAny (model X.prog X.w) (X.A.mark (some (.ref a))) (eval (.Name x np) X.env) Q E { t with heap := h3 } := fun {x c np} hc {Q E} q => by
    obtain ⟨hg, hd, hm | ⟨hm, hv, hn⟩⟩ := hc
    · exact ld_glob (X := X.suite a ((a, oe3) :: (X.pn ++ pins))) S3 hg hm q hd
    · exact ld_blt (X := X.suite a ((a, oe3) :: (X.pn ++ pins))) S3 hg hm hv q hn hd
  have typ : PySem.W.Looks (model X.prog X.w) h3 (typeOf (.ref a)) cls := fun A Q E s k q => wpAny_typeOf_ref (k _ _ he3) (by rw [hz3.1]; exact q)
  induction hk with
  | nil =>
    intro w
    refine wpAny_handleBy_nil ?_
    have up4 : wpAny (model X.prog X.w) X.A (setFlight (.ref a) X.env.frame) (fun _ s4 => wpAny (model X.prog X.w) X.A (throw (.ref a) : Sem Flow) (SP X pins D) X.xe s4) X.xe { t with heap := h3 } := by
      rw [hf]
      refine HandSPX.setFlight_upZ fl fun h4 hh4 up4 => wpAny_throw (tk _ _ ⟨a, B, sI, pins, σ, H, cls, d, rfl, J, nb, up.trans up4, ?_, na, os, ag, w⟩)
      exact .inr (.inr (by rw [stk]; exact hh4))
    obtain ⟨_, _, _, oe, vs, T, oT, us, e1, e2, e3, e4, _⟩ := id fl
    unfold PySem.passOn
    refine wpAny_bind (wpAny_field e1 e3 e4 ?_)
    rw [if_neg (show ¬ ((Value.ref T == Value.none) = true) from by simp)]
    first
      | exact wpAny_bind (wpAny_pure (wpAny_bind up4))
      | exact wpAny_bind up4
  | bare hc sok r ih =>
    intro w
    obtain ⟨b, hb, yes, no⟩ := w
    refine wpAny_handleBy_cons (codeAny_handlers_test (tested hc ((PySem.W.exm_one (M := model X.prog X.w) J3.kIn typ hb).here ?_))) (by intro q; cases q)
    cases b with
    | false => exact ih (no rfl)
    | true =>
      refine codeAny_handlers_suite (HandSPX.lands_againZ fl fun h4 fl4 up4 => ?_)
      obtain ⟨oe4, vs4, he4, hz4, hd4⟩ := fl4.there
      have S4 := (J.landed nb fl4.1 (up.trans up4) os ag : Inv X pins σ H { t with heap := h4 }).suite he4 hd4 na nL nF
      refine wpAny_mono ((sok a oe4 cls d (X.pn ++ pins) hz4 ⟨_, hd4⟩).run [] _ _ H _ S4 (yes rfl a na)) (fun f s6 z => ?_) fun _ _ z => z.elim
      cases f with
      | next => obtain ⟨τ, G, S6, q⟩ := z; exact ⟨_, _, S6.unsuite ok, q⟩
      | brk => obtain ⟨τ, G, S6, q⟩ := z; exact ⟨_, _, S6.unsuite ok, q⟩
      | cont => obtain ⟨τ, G, S6, q⟩ := z; exact ⟨_, _, S6.unsuite ok, q⟩
      | ret u => obtain ⟨v, τ, G, S6, rv, q⟩ := z; exact ⟨_, _, _, S6.unsuite ok, rv, q⟩
  | named hi hl hc sok r ih =>
    intro w
    obtain ⟨b, hb, yes, no⟩ := w
    refine wpAny_handleBy_cons (codeAny_handlers_test (tested hc ((PySem.W.exm_one (M := model X.prog X.w) J3.kIn typ hb).here ?_))) (by intro q; cases q)
    cases b with
    | false => exact ih (no rfl)
    | true =>
      refine codeAny_handlers_suite_as (HandSPX.lands_againZ fl fun h4 fl4 up4 => ?_)
      obtain ⟨oe4, vs4, he4, hz4, hd4⟩ := fl4.there
      have S4 := (J.landed nb fl4.1 (up.trans up4) os ag : Inv X pins σ H { t with heap := h4 }).suite he4 hd4 na nL nF
      refine store_ok (X := X.suite a ((a, oe4) :: (X.pn ++ pins))) (v := .ref a) S4 hN hi (.inl hl) rfl (fun s5 S5 => ?_) (.inr hl)
      refine wpAny_mono ((sok a oe4 cls d (X.pn ++ pins) hz4 ⟨_, hd4⟩).run [] s5 _ H _ S5 (yes rfl a na)) (fun f s6 z => ?_) fun _ _ z => z.elim
      cases f with
      | next => obtain ⟨τ, G, S6, q⟩ := z; exact gone_ok (S6.unsuite ok) hN hi hl fun s7 J7 => ⟨_, _, J7, q⟩
      | brk => obtain ⟨τ, G, S6, q⟩ := z; exact gone_ok (S6.unsuite ok) hN hi hl fun s7 J7 => ⟨_, _, J7, q⟩
      | cont => obtain ⟨τ, G, S6, q⟩ := z; exact gone_ok (S6.unsuite ok) hN hi hl fun s7 J7 => ⟨_, _, J7, q⟩
      | ret u => obtain ⟨v, τ, G, S6, rv, q⟩ := z; exact gone_ok (S6.unsuite ok) hN hi hl fun s7 J7 => ⟨_, _, _, J7, rv, q⟩
theorem ps_try_hs (stk : X.stack = X.env :: X.outer) (hf : X.env.frame = some X.env.locals) (hN : X.N.Nodup) (tk : Takes X Wout)
    (hb : ∀ (W : WX) (pn : List (Addr × Obj)) (xe : Value → Shared → Prop), Takes (X.tr pn xe) W → PassesOwn (model X.prog X.w) X.A X.env xe → PSs (X.tr pn xe) body (tb W)) (hh : HsOk X (h₀ :: hds) l) :
    PS X (.Try body (h₀ :: hds) [] [] pos) (fun D σ H => tb (wHs X.K Wout D l) D σ H) := by
  refine ⟨fun pins s σ H D I h => ?_⟩
  have ok := I.ok
  refine wpAny_Try_except ?_
  refine wpAny_mono ((hb (wHs X.K Wout D l) (X.pn ++ pins) (fun e s₁ => wpAny (model X.prog X.w) X.A (noteFrame e X.env) (fun _ s₂ => wpAny (model X.prog X.w) X.A (setFlight e none) (fun _ s₃ =>
    wpAny (model X.prog X.w) X.A (handleBy e X.env (h₀ :: hds)) (SP X pins D) X.xe s₃) X.xe s₂) X.xe s₁) (fun u t air => ?_) PassesOwn.looking).run [] s σ H D (I.toTry _) h) (fun f s1 z => ?_) fun e s1 he => he
  · obtain ⟨a, B, sI, pins', τ, G, cls, d, rfl, J0, nb, up, sky, na, os, ag, w⟩ := air
    have sky' : Sky B (X.env :: X.outer) a (Zc cls d) X.env.locals t.heap := by rw [← stk]; exact sky
    refine Sky.land Zc.steady (by rw [ok.frames, stk]) hf sky' fun h3 fl3 up3 => ?_
    exact hs_go (t := t) (t3 := t) stk hf hN tk ok (J0.ofTry ok) nb (up.trans up3) na os ag fl3 hh w
  · cases f with
    | next => obtain ⟨τ, G, J, q⟩ := z; exact wpAny_execs_nil ⟨τ, G, J.ofTry ok, q⟩
    | brk => obtain ⟨τ, G, J, q⟩ := z; exact ⟨τ, G, J.ofTry ok, q⟩
    | cont => obtain ⟨τ, G, J, q⟩ := z; exact ⟨τ, G, J.ofTry ok, q⟩
    | ret u => obtain ⟨v, τ, G, J, rv, q⟩ := z; exact ⟨v, τ, G, J.ofTry ok, rv, q⟩
end
end DM
end
section
set_option maxHeartbeats 2000000
namespace DM
open PySem PySem.Spec PyProof.Rows L2
/-! ### try in the mirror -/
open Classical in
/-- what does not hang on where the exception lies -/
noncomputable def indep (f : Addr → Addr → SRes) : SRes := if h : ∃ r, ∀ a d, f a d = r then Classical.choose h else .no
theorem indep_eq {f : Addr → Addr → SRes} {r : SRes} (h : ∀ a d, f a d = r) : indep f = r := by
  have h' : ∃ r, ∀ a d, f a d = r := ⟨r, h⟩
  unfold indep
  rw [dif_pos h']
  exact (Classical.choose_spec h' 0 0).symm.trans (h 0 0)
theorem indep_at {f : Addr → Addr → SRes} (n : indep f ≠ .no) (a d : Addr) : f a d = indep f := by
  unfold indep at n ⊢
  split
  · rename_i h
    exact Classical.choose_spec h a d
  · rename_i h
    rw [dif_neg h] at n
    exact (n rfl).elim
structure HdM where
  cls : Str
  yes : List Str
  nos : List Str
  slot : Option Nat
  suite : Str → Addr → Option Addr → MS
def goneM : Option Nat → SRes → SRes
  | some i, .nx ρ A => .nx (ρ.set i none) A
  | some i, .bk ρ A => .bk (ρ.set i none) A
  | some i, .ct ρ A => .ct (ρ.set i none) A
  | none, .nx ρ A => .nx ρ A
  | none, .bk ρ A => .bk ρ A
  | none, .ct ρ A => .ct ρ A
  | _, .rt d A => .rt d A
  | _, .exc _ _ _ _ => .no
  | _, .no => .no
def enterM (oi : Option Nat) (a : Addr) (d : Option Addr) (fs : List (Str × D)) (ρ : Env) : Env := match oi with
  | none => ρ
  | some i => ρ.set i (some (.exv a d (fs.map (·.1)) (fs.map (·.2))))
noncomputable def excGo : List HdM → Str → List (Str × D) → Env → AH → SRes
  | [], C, fs, ρ, A => .exc C fs ρ A
  | h :: r, C, fs, ρ, A => if C ∈ h.yes then indep fun a d => goneM h.slot (h.suite C a (if fs = [] then none else some d) (enterM h.slot a (if fs = [] then none else some d) fs ρ) A) else if C ∈ h.nos then excGo r C fs ρ A else .no
noncomputable def mTry (mb : MS) (hs : List HdM) : MS := fun ρ A => match mb ρ A with
  | .exc C fs ρ1 A1 => excGo hs C fs ρ1 A1
  | r => r
def suiteT (K : PySem.W.Frag) (h : HdM) : SuiteT := fun a cls d D σ H => ∃ C, clsV K C = some cls ∧ tS K WNo (h.suite C a d) D σ H
/-- what an except clause must know: its class's value -/
structure HdF (K : PySem.W.Frag) (h : HdM) (c : Value) : Prop where
  yes : ∀ C ∈ h.yes, ∀ v, clsV K C = some v → PySem.W.exmOne K v c = some true
  nos : ∀ C ∈ h.nos, ∀ v, clsV K C = some v → PySem.W.exmOne K v c = some false
inductive HsM (K : PySem.W.Frag) : List HdM → List (Value × Option Nat × SuiteT) → Prop
  | nil : HsM K [] []
  | cons {h : HdM} {c : Value} {hs : List HdM} {l : List (Value × Option Nat × SuiteT)} : HdF K h c → HsM K hs l → HsM K (h :: hs) ((c, h.slot, suiteT K h) :: l)
section
variable {K : PySem.W.Frag} {W : WX} {σ : L2.St} {m m' : Mp} {A : AH} {ρ : Env} {H H' : Hp} {D0 : Ends}
theorem gone_none {r : SRes} (h : PostS K W m H (goneM none r) D0) : PostS K WNo m H r D0 := by
  cases r with
  | nx ρ A => exact h
  | bk ρ A => exact h
  | ct ρ A => exact h
  | rt d A => exact h
  | exc C fs ρ A => exact h.elim
  | no => exact h
theorem REnv.drop (i : Nat) {τ : L2.St} (h : REnv K m H ρ τ) : REnv K m H (ρ.set i none) (τ.set i none) := h.unset i none
theorem gone_some {i : Nat} {r : SRes} (h : PostS K W m H (goneM (some i) r) D0) : PostS K WNo m H r (goneE i D0) := by
  cases r with
  | nx ρ A => exact fun m' H' τ e R' E' => h m' H' (τ.set i none) e R' (E'.drop i)
  | bk ρ A => exact fun m' H' τ e R' E' => h m' H' (τ.set i none) e R' (E'.drop i)
  | ct ρ A => exact fun m' H' τ e R' E' => h m' H' (τ.set i none) e R' (E'.drop i)
  | rt d A => exact h
  | exc C fs ρ A => exact h.elim
  | no => exact h
theorem rd_exv {fs : List (Str × D)} {d : Option Addr} (a : Addr) (x : ExcAt K m H fs d) : RD K m H (.exv a d (fs.map (·.1)) (fs.map (·.2))) (.ref a) := by
  cases d with
  | none =>
    have e : fs = [] := x
    subst e
    exact .exv0 a
  | some dd =>
    obtain ⟨_, gs, h1, h2, h3, h4⟩ := x
    exact .exv1 h1 h2 h3 h4
theorem exc_ok {C : Str} {fs : List (Str × D)} {c : Value} {dx : Option Addr} (hc : clsV K C = some c) (R : Rel K m' A H') (E : REnv K m' H' ρ σ) (hx : ExcAt K m' H' fs dx) (e : Ext m H m' H') :
    ∀ {hs : List HdM} {l : List (Value × Option Nat × SuiteT)}, HsM K hs l → PostS K W m H (excGo hs C fs ρ A) D0 → wHs K W D0 l c dx σ H' := by
  intro hs l hl
  induction hl with
  | nil => exact fun h => h m' H' c dx σ e R E hc hx
  | @cons hd cv hs l F r ih =>
    intro h
    unfold excGo at h
    split at h
    · rename_i hy
      refine ⟨true, F.yes C hy c hc, fun _ a na => ?_, (fun z => nomatch z)⟩
      have nn : indep (fun a d => goneM hd.slot (hd.suite C a (if fs = [] then none else some d) (enterM hd.slot a (if fs = [] then none else some d) fs ρ) A)) ≠ .no := fun z => by
        rw [z] at h
        exact h.elim
      have ed : (if fs = [] then none else some (dx.getD 0)) = dx := by
        cases dx with
        | none => exact if_pos hx
        | some dd => exact if_neg hx.1
      have at_ := indep_at nn a (dx.getD 0)
      rw [← at_, ed] at h
      have h' := PostS.mono e h
      cases hs : hd.slot with
      | none =>
        rw [hs] at h'
        exact ⟨C, hc, m', A, ρ, R, E, gone_none h'⟩
      | some i =>
        rw [hs] at h'
        exact ⟨C, hc, m', A, _, R, E.set (rd_exv a hx) i, gone_some h'⟩
    · split at h
      · rename_i hn
        exact ⟨false, F.nos C hn c hc, (fun z => nomatch z), fun _ => ih h⟩
      · exact h.elim
theorem tryD {mb : MS} {hs : List HdM} {l : List (Value × Option Nat × SuiteT)} (hl : HsM K hs l) (h : tS K W (mTry mb hs) D0 σ H) : tS K (wHs K W D0 l) mb D0 σ H := by
  obtain ⟨m, A, ρ, R, E, h⟩ := h
  refine ⟨m, A, ρ, R, E, ?_⟩
  unfold mTry at h
  cases hr : mb ρ A with
  | exc C fs ρ1 A1 =>
    rw [hr] at h
    exact fun m' H' c dx σ' e R' E' hc hx => exc_ok hc R' E' hx e hl h
  | nx ρ1 A1 => rw [hr] at h; exact h
  | bk ρ1 A1 => rw [hr] at h; exact h
  | ct ρ1 A1 => rw [hr] at h; exact h
  | rt d A1 => rw [hr] at h; exact h
  | no => rw [hr] at h; exact h
end
section
variable {X : Cx} {W : WX} {body : List Stmt} {h₀ : ExceptHandler} {hds : List ExceptHandler} {l : List (Value × Option Nat × SuiteT)} {pos : Pos} {mb : MS} {hs : List HdM}
theorem s_try (stk : X.stack = X.env :: X.outer) (hf : X.env.frame = some X.env.locals) (hN : X.N.Nodup) (tk : Takes X W)
    (hb : ∀ (W : WX) (pn : List (Addr × Obj)) (xe : Value → Shared → Prop), Takes (X.tr pn xe) W → PassesOwn (model X.prog X.w) X.A X.env xe → DSs (X.tr pn xe) W body mb) (hl : HsM X.K hs l) (hh : HsOk X (h₀ :: hds) l) :
    DS X W (.Try body (h₀ :: hds) [] [] pos) (mTry mb hs) := PSi (ps_try_hs (tb := fun W => tS X.K W mb) stk hf hN tk hb hh) fun _ _ _ h => tryD hl h
theorem suite_ok {sts : List Stmt} {h : HdM} (hsu : ∀ (a : Addr) (oe : Obj) (cls : Value) (d : Option Addr) (pn : List (Addr × Obj)) (C : Str), Zc cls d oe → (∃ vs, oe.data = .fields vs) → clsV X.K C = some cls → DSs (X.suite a ((a, oe) :: pn)) WNo sts (h.suite C a d)) : SuiteOk X sts (suiteT X.K h) :=
  fun a oe cls d pn hz hf => ⟨fun pins s σ H D I ⟨C, hC, w⟩ => (hsu a oe cls d pn C hz hf hC).run pins s σ H D I w⟩
end
/-! ### in a suite: e.f -/
def mXf (C : Str) (xs : List Str) (a : Addr) (d : Option Addr) (f : Str) (me : ME) : ME := fun ρ A => (me ρ A).bind fun v A1 => match v with
  | .exv a' (some d') ns ds => if C ∈ xs ∧ a' = a ∧ some d' = d then (match (ns.zip ds).lookup f with | some x => .ok x A1 | none => .no) else .no
  | _ => .no
/-- a field's class facts -/
def XfF (K : PySem.W.Frag) (xs : List Str) (f : Str) : Prop := ∀ C ∈ xs, ∀ c, clsV K C = some c → ∃ ca, c = .ref ca ∧ XfC K ca ∧ PySem.W.findIn K (.ref ca) f = some none
theorem lookup_rel {K : PySem.W.Frag} {m : Mp} {H : Hp} {f : Str} : ∀ {gs : List (Str × V)} {ds : List D} {x : D}, RDs K m H ds (gs.map (·.2)) → ((gs.map (·.1)).zip ds).lookup f = some x → ∃ v, gs.lookup f = some v ∧ RD K m H x v
  | [], ds, x, r, e => by simp at e
  | (g, v) :: gs, ds, x, r, e => by
    cases ds with
    | nil => cases r
    | cons d ds =>
      cases r with
      | cons r rs =>
        simp only [List.map_cons, List.zip_cons_cons, List.lookup_cons] at e ⊢
        cases hb : (f == g) with
        | true => rw [hb] at e; cases e; exact ⟨v, rfl, r⟩
        | false => rw [hb] at e; exact lookup_rel rs e
section
variable {X : Cx} {W : WX} {a : Addr} {oe : Obj} {cls : Value} {d : Option Addr} {pn : List (Addr × Obj)} {e : Expr} {me : ME} {pos : Pos} {n C : Str} {xs : List Str}
theorem d_xf (F : XfF X.K xs n) (hC : clsV X.K C = some cls) (hz : Zc cls d oe) (hf : ∃ vs, oe.data = .fields vs) (he : DE (X.suite a ((a, oe) :: pn)) W e me) (hb : attributeBase e n X.env (eval e X.env) = eval e X.env := by rfl) :
    DE (X.suite a ((a, oe) :: pn)) W (.Attribute e n pos) (mXf C xs a d n me) := by
  refine ⟨fun pins s σ H Q I ⟨m, A, ρ, R, E, h⟩ => attr_of hb (thn (he.run pins s σ H (fun x H1 => ∃ m1 A1 v, Rel X.K m1 A1 H1 ∧ RD X.K m1 H1 v x ∧ Post X.K (RD X.K) W σ m1 H1 (match v with
    | .exv a' (some d') ns ds => if C ∈ xs ∧ a' = a ∧ some d' = d then (match (ns.zip ds).lookup n with | some x => .ok x A1 | none => .no) else .no
    | _ => .no) Q) I (tE.bind R E h fun m1 A1 v x H1 e1 R1 E1 r1 h1 => ⟨m1, A1, v, R1, r1, h1⟩)) fun u s1 hh => ?_)⟩
  obtain ⟨x, H1, I1, rx, m1, A1, v, R1, r1, h1⟩ := hh
  split at h1
  rotate_left
  · exact h1.elim
  rename_i a' d' ns ds
  split at h1
  rotate_left
  · exact h1.elim
  rename_i hcond
  obtain ⟨hx, rfl, rfl⟩ := hcond
  cases r1 with
  | @exv1 _ _ gs _ _ hH ho hn rs =>
    subst hn
    split at h1
    rotate_left
    · exact h1.elim
    rename_i y hy
    obtain ⟨w, hw, rw'⟩ := lookup_rel rs hy
    obtain ⟨ca, rfl, T, hno⟩ := F C hx cls hC
    obtain rfl : u = Value.ref a' := rx
    obtain ⟨ha, _⟩ := I1.pin (a', oe) (List.mem_append_left _ List.mem_cons_self)
    obtain ⟨vs, hd⟩ := hf
    have hxd : ObjOk X.prog X.w H1 s1.heap d' (.xd gs) := I1.hok d' _ hH
    obtain ⟨mA, hns, hr⟩ := hxd
    obtain ⟨od, ho', hl⟩ := lookIn_ns hns
    obtain ⟨u, hu, ru⟩ := RelO.some_of (v := w) (o := mA n) (by rw [← hw]; exact hr n)
    have J : PySem.W.InstAt s1.heap a' oe ca (some od) := by
      refine ⟨ha, hz.1, ?_, ?_⟩
      · unfold PySem.W.notCls
        rw [hd] <;> rfl
      · rw [hz.2]
        exact ho'
    have own := PySem.W.findObj_own T.hdC hno rfl (v := u) (by rw [hl, hu])
    exact HandSPX.exc_get I1.kIn J T.ga T.gg T.exC own (handed_of ru) ⟨w, H1, I1.tok _, ru, Post.here R1 rw' h1⟩
end
end DM
end
section
set_option maxHeartbeats 2000000
namespace DM
open PySem PySem.Spec PyProof.Rows L2 LamX
/-! ### a lambda, handed to a def and called there -/
abbrev LTag := Addr × Addr × L2.St
open Classical in
noncomputable def indepR (f : LTag → Res D) : Res D := if h : ∃ r, ∀ x, f x = r then Classical.choose h else .no
section
variable {X : Cx} {pins : List (Addr × Obj)} {σ : L2.St} {H : Hp} {s : Shared} {m : Mp} {A : AH}
end
section
variable {X : Cx} {pins : List (Addr × Obj)} {σ : L2.St} {H : Hp} {s : Shared}
end
end DM
end
section
set_option maxHeartbeats 2000000
namespace DM
open PySem PySem.Spec PyProof.Rows L2
/-! ### tuple * number, any number -/
theorem tm_same (l : Addr) (items : Array Value) (n : Nat) (dd : Option Addr) (sl : Array (Option Value)) (x : Int) (u : Tok) (h0 : -(2 ^ 63) ≤ x ∧ x < 2 ^ 63) (h1 : (items.isEmpty || x == 1) = true) :
    Meets (Builtin.«tuple.__mul__» ⟨[.ref l, .int x u], []⟩) (fun _ R s => s.heap.get? l = some { cls := .type "tuple", dict := dd, data := .seq items n, slots := sl } ∧ R (.ok (.ret (Value.ref l))) s) :=
  .of_wp fun prog w A R s h => by
    obtain ⟨hp, g, d, tk, os⟩ := s
    obtain ⟨hl, h⟩ := h
    have f1 := AutoSeq1.idx_int
    have c0 : (decide (x < -(2 ^ 63)) || decide (x ≥ 2 ^ 63)) = false := by rw [decide_eq_false (by omega), decide_eq_false (by omega)]; rfl
    wp_walk using wpAny_loadPart' hl
    repeat (first
      | (refine wpAny_ite_false (decide_eq_false (by rw [c0]; exact Bool.false_ne_true)) ?_; wp_walk using wpAny_loadPart' hl)
      | (refine wpAny_ite_true (decide_eq_true h1) ?_; wp_walk using wpAny_loadPart' hl))
    exact ⟨_, rfl, h⟩
theorem tm_none (l : Addr) (items : Array Value) (n : Nat) (dd : Option Addr) (sl : Array (Option Value)) (x : Int) (u : Tok) (h0 : -(2 ^ 63) ≤ x) (h1 : (items.isEmpty || x == 1) = false) (h2 : x ≤ 0) :
    Meets (Builtin.«tuple.__mul__» ⟨[.ref l, .int x u], []⟩) (fun _ R s => s.heap.get? l = some { cls := .type "tuple", dict := dd, data := .seq items n, slots := sl } ∧
      R (.ok (.ret (Value.ref s.heap.objs.size))) { s with heap := s.heap.push { cls := Value.type "tuple", data := Data.seq #[] }, toks := s.toks }) :=
  .of_wp fun prog w A R s h => by
    obtain ⟨hp, g, d, tk, os⟩ := s
    obtain ⟨hl, h⟩ := h
    have f1 := AutoSeq1.idx_int
    have c0 : (decide (x < -(2 ^ 63)) || decide (x ≥ 2 ^ 63)) = false := by rw [decide_eq_false (by omega), decide_eq_false (by omega)]; rfl
    have c2 : (decide (x ≤ 0) || items.isEmpty) = true := by rw [decide_eq_true h2]; rfl
    wp_walk using wpAny_loadPart' hl
    repeat (first
      | (refine wpAny_ite_false (decide_eq_false (by rw [c0]; exact Bool.false_ne_true)) ?_; wp_walk using wpAny_loadPart' hl)
      | (refine wpAny_ite_false (decide_eq_false (by rw [h1]; exact Bool.false_ne_true)) ?_; wp_walk using wpAny_loadPart' hl)
      | (refine wpAny_ite_true (decide_eq_true c2) ?_; wp_walk using wpAny_loadPart' hl))
    exact ⟨_, rfl, h⟩
def rRepA (K : PySem.W.Frag) : R2 := fun x y H Q => ∃ l k xs, x = .ref l ∧ y = .int k ∧ SqT K H l xs ∧ -(2 ^ 63) ≤ k ∧ k < 2 ^ 63 ∧ xs.length * k.toNat ≤ sizeLine ∧ ((xs = [] ∨ k = 1) → Q (.ref l) H) ∧
  (¬ (xs = [] ∨ k = 1) → ∀ p us, H p = none → Q (.ref p) (upd H p (plH us (List.replicate k.toNat xs).flatten)))
section
variable {X : Cx}
theorem op_repA : OpR X (binaryOp .Mult) (rRepA X.K) := by
  intro pins s σ H x y v u Q I rx ry h
  obtain ⟨l, k, xs, rfl, rfl, hT, k0, k1, hz, q1, q2⟩ := h
  cases rx
  obtain ⟨t, rfl⟩ := ry
  obtain ⟨its, r, ⟨⟨cls, dd, data, sl⟩, ho, hc, n, hd⟩, hs⟩ := I.tuple hT
  simp only at hc hd
  subst hc hd
  have hle : its.length = xs.length := r.length.symm
  have hie : its.toArray.isEmpty = decide (xs = []) := by
    cases xs with
    | nil => cases r; rfl
    | cons a b => cases r; rfl
  have main : ∀ {F : List Value → (Result → Shared → Prop) → Shared → Prop} , Meets (Builtin.«tuple.__mul__» ⟨[.ref l, .int k t], []⟩) (fun _ R s' => s'.heap.get? l = some { cls := .type "tuple", dict := dd, data := .seq its.toArray n, slots := sl } ∧ F [] R s') →
      F [] (fun r s' => match r with | .ok (.ret v) => EP X pins σ Q v s' | .ok _ => False | .error e => X.xe e s') s → wpAny (model X.prog X.w) X.A (binaryOp .Mult (.ref l) (.int k t)) (EP X pins σ Q) X.xe s := fun M hF =>
    wpAny_binaryOp_repeat_ref (T := "tuple") (U := "int") (by decide) ⟨_, ho, rfl⟩ (fun s' => typeIs_int s' k t) noFill_tuple_mul F.fills_int_mul F.slot_int_rmul repeat_tuple F.slot_int_index.lookup
      (call_meets F.slot_int_rmul (typeIs_int s k t) F.entry_int_rmul (F.args_int_rmul_2 _ _) (int_rmul_tuple k t l its.toArray n dd sl)
        ⟨ho, rfl, ⟨_, ho, rfl⟩, call_meets F.slot_tuple_mul ⟨_, ho, rfl⟩ F.entry_tuple_mul (F.args_tuple_mul_2 _ _) M ⟨ho, hF⟩⟩)
  have laid : ∀ {zs : List V} {ws : List Value}, Vals zs ws → zs.length ≤ sizeLine → (∀ p us, H p = none → Q (.ref p) (upd H p (plH us zs))) → EP X pins σ Q (.ref s.heap.objs.size) { s with heap := s.heap.push { cls := .type "tuple", data := .seq ws.toArray }, toks := s.toks } := fun {zs ws} rz hl q =>
    ⟨.ref s.heap.objs.size, _, I.laid (t' := s.toks) (o := plH ws zs) (fun b ob q => Heap.get?_push_of_some _ q) (Nat.le_refl _) (plain_ok (Heap.get?_push_size _ rfl) rz hl), rfl, q _ _ (I.hok.fresh (Nat.le_refl _))⟩
  by_cases h1 : xs = [] ∨ k = 1
  · refine main (F := fun _ R s => R (.ok (.ret (.ref l))) s) (tm_same l its.toArray n dd sl k t ⟨k0, k1⟩ ?_) ⟨.ref l, H, I, rfl, q1 h1⟩
    rw [hie]
    rcases h1 with h1 | h1
    · rw [decide_eq_true h1]; rfl
    · rw [h1]; simp
  · have hne : xs ≠ [] := fun z => h1 (.inl z)
    have hk1 : k ≠ 1 := fun z => h1 (.inr z)
    have c1 : (its.toArray.isEmpty || k == 1) = false := by
      rw [hie, decide_eq_false hne, Bool.false_or]
      exact beq_eq_false_iff_ne.mpr hk1
    by_cases h2 : k ≤ 0
    · refine main (F := fun _ R s => R (.ok (.ret (Value.ref s.heap.objs.size))) { s with heap := s.heap.push { cls := Value.type "tuple", data := Data.seq #[] }, toks := s.toks }) (tm_none l its.toArray n dd sl k t k0 c1 h2) (laid (zs := []) (ws := []) .nil (Nat.zero_le _) fun p us hp => ?_)
      have z := q2 h1 p us hp
      have e0 : k.toNat = 0 := by omega
      rw [e0] at z
      exact z
    · have hxl : 1 ≤ xs.length := by
        cases xs with
        | nil => exact (hne rfl).elim
        | cons a b => simp
      have hn2 : k.toNat * 1 ≤ xs.length * k.toNat := by rw [Nat.mul_comm xs.length]; exact Nat.mul_le_mul (Nat.le_refl _) hxl
      rw [sizeLine_eq] at hz
      have em : ((its.toArray.size : Nat) : Int) * k = ((xs.length * k.toNat : Nat) : Int) := by
        rw [List.size_toArray, hle, Int.natCast_mul]
        congr 1
        omega
      have c2 : (decide (k ≤ 0) || its.toArray.isEmpty) = false := by rw [decide_eq_false h2, hie, decide_eq_false hne]; rfl
      have c0 : (decide (k < -(2 ^ 63)) || decide (k ≥ 2 ^ 63)) = false := by rw [decide_eq_false (by omega), decide_eq_false (by omega)]; rfl
      have c4 : Builtin.Tuple.tupleTooMany (((its.toArray.size : Nat) : Int) * k) = false := by
        unfold Builtin.Tuple.tupleTooMany
        rw [sizeLine_eq, em]
        exact decide_eq_false (by omega)
      have fl : (List.replicate k.toNat xs).flatten.length = xs.length * k.toNat := by rw [PyProof.Rows.lm_len_rep_flat, Nat.mul_comm]
      refine main (F := fun _ R s => R (.ok (.ret (Value.ref s.heap.objs.size))) { s with heap := s.heap.push { cls := Value.type "tuple", data := Data.seq (List.replicate k.toNat its).flatten.toArray }, toks := s.toks }) ?_ (laid (r.rep k.toNat) (by rw [fl, sizeLine_eq]; exact hz) (q2 h1))
      have M := tuple_mulW l its.toArray n dd sl k t c0 c1 c2 (by rw [em]; omega) c4 (by rw [size_rep, List.size_toArray, PyProof.Rows.lm_len_rep_flat, hle, Nat.mul_comm, sizeLine_eq]; exact hz)
      rw [size_rep] at M
      exact M
/-- a * b: ints; a tuple by a number -/
def fMulA : D → D → AH → Res D := fun d e A => match d, e with
  | .int i, .int j => if CMul i j then .ok (.int (i * j)) A else .no
  | .tup xs, .int k => if -(2 ^ 63) ≤ k ∧ k < 2 ^ 63 ∧ xs.length * k.toNat ≤ 16777216 then .ok (.tup (List.replicate k.toNat xs).flatten) A else .no
  | _, _ => .no
theorem fMulA_ok {K : PySem.W.Frag} : OpD K fMulA (fun x y H Q => rI CMul (fun i j => .int (i * j)) x y H Q ∨ rRepA K x y H Q) := by
  intro W σ m A H x y d e Q R hx hy h
  unfold fMulA at h
  split at h
  · cases hx; cases hy
    split at h
    · rename_i hc
      exact .inl ⟨_, _, rfl, rfl, hc, Post.here R (.int _) h⟩
    · exact h.elim
  · rename_i xs k
    have hx' := hx
    cases hx with
    | tup s r =>
      rename_i a vs
      cases hy
      split at h
      · rename_i hc
        refine .inr ⟨a, k, vs, rfl, rfl, s.sq, hc.1, hc.2.1, by rw [← r.length, sizeLine_eq]; exact hc.2.2, fun h1 => ?_, fun _ => tup_new R (RDs.rep r k.toNat) h⟩
        have e0 : (List.replicate k.toNat xs).flatten = xs := by
          rcases h1 with h1 | h1
          · have : xs = [] := List.eq_nil_of_length_eq_zero (by rw [r.length, h1]; rfl)
            subst this
            simp
          · subst h1
            simp
        rw [e0] at h
        exact Post.here R hx' h
      · exact h.elim
  · exact h.elim
end
section
variable {X : Cx} {W : WX} {a b : Expr} {ma mb : ME} {pos : Pos}
theorem d_mulA (ha : DE X W a ma) (hb : DE X W b mb) : DE X W (.BinOp a .Mult b pos) (mOp fMulA ma mb) := d_op (op_mul.or op_repA) fMulA_ok ha hb
end
end DM
end
section
set_option maxHeartbeats 2000000
namespace DM
open PySem PySem.Spec PyProof.Rows L2
/-! ### own error classes, what is known of them -/
structure ExcK (K : PySem.W.Frag) (n : Str) (c : Addr) : Prop where
  nm : clsV K n = some (.ref c)
  ec : ExcC K c
  ty : PySem.W.typeIn K (.ref c) = some (.type "type")
  kp : PySem.W.keepIn K (.ref c) = true
  self : PySem.W.subIn K (.ref c) (.ref c) = some true
theorem ExcK.xf {K : PySem.W.Frag} {n : Str} {c : Addr} (T : ExcK K n c) : XfC K c := ⟨T.ec.hg, T.ec.hk, T.ec.hs, T.ec.hd⟩
theorem ExcK.cls {K : PySem.W.Frag} {n : Str} {c : Addr} (T : ExcK K n c) : (PySem.W.clsIn K c).isSome = true := by
  obtain ⟨cd, hc, _⟩ := PySem.W.any_some T.ec.hd
  rw [hc]; rfl
theorem ExcK.exm {K : PySem.W.Frag} {n : Str} {c d : Addr} {b : Bool} (T : ExcK K n c) (h : PySem.W.subIn K (.ref d) (.ref c) = some b) : PySem.W.exmOne K (.ref d) (.ref c) = some b := PySem.W.exm_ref T.ec.hs T.ec.hd T.ty h
theorem clsV_inj {K : PySem.W.Frag} {n : Str} {c : Addr} {v : Value} (h : clsV K n = some (.ref c)) (h2 : clsV K n = some v) : v = .ref c := by
  rw [h] at h2; cases h2; rfl
/-- what is told of the raised classes, one after the other -/
def SubF (K : PySem.W.Frag) (cs : List Str) (t : Value) (b : Bool) : Prop := ∀ C ∈ cs, ∀ v, clsV K C = some v → ∃ c, v = .ref c ∧ ExcC K c ∧ PySem.W.subIn K (.ref c) t = some b
theorem subF_nil {K : PySem.W.Frag} {t : Value} {b : Bool} : SubF K [] t b := fun _ h => nomatch h
theorem subF_cons {K : PySem.W.Frag} {n : Str} {cs : List Str} {c : Addr} {t : Value} {b : Bool} (T : ExcK K n c) (h : PySem.W.subIn K (.ref c) t = some b) (r : SubF K cs t b) : SubF K (n :: cs) t b := fun C hC v hv => by
  rcases List.mem_cons.mp hC with rfl | hC
  · exact ⟨c, clsV_inj T.nm hv, T.ec, h⟩
  · exact r C hC v hv
theorem hdF_own {K : PySem.W.Frag} {h : HdM} {n : Str} {c : Addr} (T : ExcK K n c) (y : SubF K h.yes (.ref c) true) (z : SubF K h.nos (.ref c) false) : HdF K h (.ref c) where
  yes := fun C hC v hv => by
    obtain ⟨d, rfl, _, e⟩ := y C hC v hv
    exact T.exm e
  nos := fun C hC v hv => by
    obtain ⟨d, rfl, _, e⟩ := z C hC v hv
    exact T.exm e
theorem xfF_nil {K : PySem.W.Frag} {f : Str} : XfF K [] f := fun _ h => nomatch h
theorem xfF_cons {K : PySem.W.Frag} {n f : Str} {cs : List Str} {c : Addr} (T : ExcK K n c) (h : PySem.W.findIn K (.ref c) f = some none) (r : XfF K cs f) : XfF K (n :: cs) f := fun C hC v hv => by
  rcases List.mem_cons.mp hC with rfl | hC
  · exact ⟨c, clsV_inj T.nm hv, T.xf, h⟩
  · exact r C hC v hv
/-! ### isinstance of the exception in hand -/
/-- the class's value -/
def ClsD (K : PySem.W.Frag) (t : D) (tv : Value) : Prop := (∃ n, t = .cl n ∧ clsV K n = some tv ∧ ∃ a, tv = .ref a) ∨ ∃ n, t = .ty n ∧ tv = .type n
theorem ClsD.val {K : PySem.W.Frag} {m : Mp} {H : Hp} {t : D} {tv : Value} {c : V} (h : ClsD K t tv) (r : RD K m H t c) (u : Value) (ru : RelV c u) : u = tv := by
  rcases h with ⟨n, rfl, h1, a, rfl⟩ | ⟨n, rfl, rfl⟩
  · cases r with
    | cl h2 => rw [h1] at h2; cases h2; exact ru
  · cases r
    exact ru
section
variable {X : Cx} {W : WX} {a : Addr} {oe : Obj} {cls : Value} {d : Option Addr} {pn : List (Addr × Obj)} {e : Expr} {es : List Expr} {ms : MA} {p pos : Pos} {C : Str} {yes nos : List Str} {t : D} {tv : Value}
end
section
variable {X : Cx} {W : WX} {pos : Pos}
/-- a built-in type, by its name -/
theorem d_ty {x : Str} {n : String} (hm : X.mg x = none) (hv : bootBuiltins x = some (.type n)) (hg : Gl X x := by rfl) (hn : x ≠ "__name__" := by decide) (hd : (x == ("__debug__" : Str)) = false := by decide) : DE X W (.Name x pos) (mK (.ty n)) :=
  PEi (pe_bltn (v := .ty n) hg hm hv rfl hn hd) fun σ H Q ⟨m, A, ρ, R, E, h⟩ => Post.here R (.ty n) h
end
/-! ### isinstance of a value -/
def tyName (A : AH) : D → Option String
  | .non => some "NoneType"
  | .bl _ => some "bool"
  | .int _ => some "int"
  | .str _ => some "str"
  | .tup _ => some "tuple"
  | .lst _ => some "list"
  | .ref n => match A[n]? with
    | some (.lst _) => some "list"
    | some (.dk _) => some "dict"
    | some (.dt _) => some "dict"
    | _ => none
  | _ => none
def tyNames : List String := ["NoneType", "bool", "int", "str", "tuple", "list", "dict"]
def isB (a b : String) : Bool := a == b || (a == "bool" && b == "int")
theorem kitB_ok : ∀ a ∈ tyNames, ∀ b ∈ tyNames, kitB a b = some (isB a b) := by decide +kernel
theorem tyName_in {A : AH} {d : D} {n : String} (h : tyName A d = some n) : n ∈ tyNames := by
  unfold tyName at h
  split at h <;> first | (cases h; decide) | (split at h <;> first | (cases h; decide) | cases h) | cases h
theorem tyName_ok {K : PySem.W.Frag} {m : Mp} {A : AH} {H : Hp} {d : D} {x : V} {n : String} (R : Rel K m A H) (r : RD K m H d x) (h : tyName A d = some n) : TyX K H x (.type n) := by
  unfold tyName at h
  split at h
  · cases h; cases r; exact .base .non
  · cases h; cases r; exact .base (.bl _)
  · cases h; cases r; exact .base (.int _)
  · cases h; cases r; exact .base (.str _)
  · cases h
    cases r with
    | tup s _ =>
      rcases s.sq with (e | ⟨o, e⟩) | ⟨o, its, k, e, c, _⟩
      · exact .base (.tup e)
      · exact .fTuple e
      · exact .kTuple e c
  · cases h
    cases r with
    | lst s _ =>
      rcases s.sq with (e | ⟨o, e⟩) | ⟨o, its, k, e, c, _⟩
      · exact .base (.lst e)
      · exact .base (.frz e)
      · exact .kList e c
  · cases r with
    | ref hm =>
      split at h
      · rename_i hA
        cases h
        obtain ⟨q, h1, vs, h2, _⟩ := R.obj _ _ hA
        rw [hm] at h1; cases h1
        exact .base (.lst h2)
      · rename_i hA
        cases h
        obtain ⟨q, h1, vs, ⟨h2, _⟩, _⟩ := R.obj _ _ hA
        rw [hm] at h1; cases h1
        exact .base (.dK h2)
      · rename_i hA
        cases h
        obtain ⟨q, h1, vs, ⟨h2, _⟩, _⟩ := R.obj _ _ hA
        rw [hm] at h1; cases h1
        exact .base (.dT h2)
      · cases h
  · cases h
def fIsi : List D → AH → Res D := fun ds A => match ds with
  | [x, .ty n] => (match tyName A x with
    | some t => if n ∈ tyNames then .ok (.bl (isB t n)) A else .no
    | none => .no)
  | _ => .no
theorem fIsi_ok {K : PySem.W.Frag} : CallD K fIsi (rIsi K) := by
  intro W σ m A H xs ds Q R hx h
  unfold fIsi at h
  split at h
  rotate_left
  · exact h.elim
  rename_i x n
  split at h
  rotate_left
  · exact h.elim
  rename_i t ht
  split at h
  rotate_left
  · exact h.elim
  rename_i hn
  cases hx with
  | cons r1 r =>
    cases r with
    | cons r2 r =>
      cases r
      cases r2
      exact ⟨_, _, _, _, _, rfl, .ty n, tyName_ok R r1 ht, kit_ty (kitB_ok t (tyName_in ht) n hn), Post.here R (.bl _) h⟩
theorem d_isi {X : Cx} {W : WX} {e : Expr} {es : List Expr} {ms : MA} {p pos : Pos} (hm : X.mg "isinstance" = none) (ha : DA X W (e :: es) ms)
    (hg : Gl X "isinstance" := by rfl) (he : starEach (e :: es) X.env = (false, eval e X.env) :: starEach es X.env := by rfl) (hpl : (backTo pos (starEach es X.env)).any (·.1) = false := by rfl) :
    DE X W (.Call (.Name "isinstance" p) (e :: es) [] pos) (mCall fIsi ms) := d_callB call_isi fIsi_ok hg hm (by decide +kernel) ha (by decide) (by decide) he hpl
end DM
end
section
set_option maxHeartbeats 2000000
namespace DM
open PySem PySem.Spec PyProof.Rows L2
/-! ### the facts of a text's top, gathered -/
def clsBody : Stmt → List Stmt
  | .ClassDef _ _ _ b _ _ _ _ _ _ _ => b
  | _ => []
abbrev methAt (st : Stmt) (i : Nat) : Stmt := (clsBody st).getD i (.Pass ⟨0, 0, 0, 0⟩)
theorem excK_mk {K : PySem.W.Frag} {n : Str} {c : Addr} (a : PySem.W.nsIn K mainGlobals n = some (some (.ref c))) (hg : PySem.W.findIn K (.ref c) "__getattribute__" = some (some (.builtin "BaseException.__getattribute__")))
    (hk : PySem.W.findIn K (.ref c) "__getattr__" = some none) (hs : PySem.W.subIn K (.ref c) (.type "BaseException") = some true) (hd : PySem.W.hasDictIn K c = true) (ha : PySem.W.findIn K (.ref c) "__class__" = some (some (.builtin "object.__class__")))
    (hn : PySem.W.specialIn K (.builtin "object.__class__") "__get__" = some (some (.builtin "getset_descriptor.__get__"))) (ht : PySem.W.takesIn K (.builtin "object.__class__") = some true) (hm : PySem.W.mroIn K c (.type "object") = some true)
    (ty : PySem.W.typeIn K (.ref c) = some (.type "type")) (kp : PySem.W.keepIn K (.ref c) = true) (self : PySem.W.subIn K (.ref c) (.ref c) = some true) : ExcK K n c :=
  ⟨by unfold clsV; rw [a]; rfl, ⟨hg, hk, hs, hd, ha, hn, ht, hm⟩, ty, kp, self⟩
theorem errC_mk {prog : Program} {K : PySem.W.Frag} {B newId initId : String} {bm : List Value} {C fI : Addr} {f x : Str} {st : Stmt} {nm q : Str} {N : Addr} {bs bm1 : List Value} {sn : List Str} {sub : List Value} {ab : Bool} {col : Option Bool} {dd : Option Addr} {k0 k1 k2 k3 k5 : Option Value}
    {oc dV kV doc pm ct ccl cl : Value} {od an cdd cld : Option Addr} {osl ccs csl : Array (Option Value)} {qual file : Str} {cda cc : Addr} {vs : Array Value} {tf : Tok} {p0 p1 p2 p3 p4 p5 p6 p7 p8 p9 : Pos} (base : ErE.Base B newId initId bm)
    (lk : K.lookup C = some (excClassObj nm q C N bs bm1 true sn sub ab col dd k0 k1 k2 k3 k5 newId)) (ln : ErE.Line bm bm1) (sa : PySem.W.findIn K (.ref C) "__setattr__" = some (some (.builtin "object.__setattr__"))) (ini : PySem.W.findIn K (.ref C) "__init__" = some (some (.ref fI)))
    (tI : PySem.W.typeIn K (.ref fI) = some (.type "function")) (fld : PySem.W.findIn K (.ref C) f = some none) (sup : PySem.W.ks_superIn K C C "__init__" = some (some (.builtin initId))) (subB : PySem.W.subIn K (.ref C) (.type B) = some true) (opq : PySem.W.nsIn K cStatics "thirdparty.any" = some none)
    (lI : K.lookup fI = some ⟨oc, od, .func (PySem.W.ksFn "__init__" qual (defArgs st) (defBody st) (defScope st) dV kV doc pm an (.ref cda) ct cc), osl⟩) (cI : PySem.W.codeIn K (.ref cda) qual = true)
    (lc : K.lookup cda = some ⟨ccl, cdd, .fields vs, ccs⟩) (v2 : vs[2]? = some (.str file tf)) (fe : ((prog.main.file : Str) == file) = true) (lce : K.lookup cc = some ⟨cl, cld, .cell (some (.ref C)), csl⟩)
    (top : (prog.main.scope.names.lookup ("super" : Str)).isSome = false)
    (hb : defBody st = [.Expr (.Call (.Attribute (.Call (.Name "super" p0) [] [] p1) "__init__" p2) [.Name x p3] [] p4) p5, .Assign [.Attribute (.Name "self" p6) f p7] (.Name x p8) p9])
    (sc : (decide ((defScope st).names.lookup ("super" : Str) = some .globalImplicit) && (decide ((defScope st).names.lookup ("__class__" : Str) = some .free) && (decide ((defScope st).names.lookup ("self" : Str) = some .local) && (decide ((defScope st).names.lookup x = some .local) &&
      (decide (x ≠ "self") && (decide ((x == ("__debug__" : Str)) = false) && ((defScope st).names.all (fun y => decide (y.2 ≠ .cell)) && (decide ((defScope st).kind = .function) && (decide ((defScope st).isCoroutine = false) && (decide ((defScope st).isGenerator = false) && (p2.endLine == p4.line))))))))))) = true)
    (hfirst : ((defArgs st).posonlyargs ++ (defArgs st).args).head?.map (·.arg) = some ("self" : Str))
    (bi : ∀ (qual : Str) (dV kV doc pm cdv ct : Value) (an : Option Addr) (cc : Addr) (s : Shared) (a b : Value), dV = .none → BindsTo s (PySem.W.ksFn "__init__" qual (defArgs st) (defBody st) (defScope st) dV kV doc pm an cdv ct cc) ⟨[a, b], []⟩ [("self", a), (x, b)]) (hdV : dV = .none) : ErE.ErrC prog K B newId initId bm C fI f := by
  simp only [Bool.and_eq_true, decide_eq_true_eq, List.all_eq_true] at sc
  obtain ⟨s1, s2, s3, s4, s5, s6, s7, s8, s9, s10, s11⟩ := sc
  have bi' := bi qual dV kV doc pm (.ref cda) ct an cc
  rw [hb] at lI bi'
  refine { base := base, cls := ⟨_, _, _, _, _, _, _, _, _, _, _, _, _, _, _, lk, ln⟩, sa := sa, ini := ini, tI := tI, fld := fld, sup := sup, subB := subB, opq := opq, top := top, fn := ?_ }
  exact ⟨_, _, _, _, _, _, _, _, _, _, _, _, _, _, _, _, _, _, _, _, _, _, _, _, _, lI, cI, ⟨_, _, _, _, _, _, lc, v2, fe⟩, ⟨_, _, _, lce⟩, s1, s2, s3, s4, s5, s6, s7, s8, s9, s10, s11, hfirst, fun s a b => bi' s a b hdV⟩
end DM
end
section
set_option maxHeartbeats 2000000
namespace DM
open PySem PySem.Spec PyProof.Rows L2
/-! ### running the further mirrors -/
section
variable {ρ ρ1 : DM.Env} {A A1 : AH} {n N : Nat} {C f q : Str} {P : Addr} {d : D} {fs : List (Str × D)} {me mw : ME} {sa sb : MS} {F : ME → MS} {hs : List HdM} {h : HdM} {r : SRes} {x : LTag}
theorem ev_raise : mRaise C f me ρ A = lift (me ρ A) ρ fun d A1 => .exc C [(f, d)] ρ A1 := id rfl
theorem seq_exc (h : sa ρ A = .exc C fs ρ1 A1) : mSeq sa sb ρ A = .exc C fs ρ1 A1 := by unfold mSeq; rw [h]
theorem fun_exc {ds : List D} (h : sa (ds.map some ++ List.replicate (n - ds.length) none) A = .exc C fs ρ1 A1) : mFun n sa ds A = .exc C fs A1 := by unfold mFun; rw [h]
theorem try_exc (h : sa ρ A = .exc C fs ρ1 A1) : mTry sa hs ρ A = excGo hs C fs ρ1 A1 := by unfold mTry; rw [h]
theorem exc_yes (hy : C ∈ h.yes) (hr : ∀ a d, goneM h.slot (h.suite C a (if fs = [] then none else some d) (enterM h.slot a (if fs = [] then none else some d) fs ρ) A) = r) : excGo (h :: hs) C fs ρ A = r := by
  unfold excGo
  rw [if_pos hy]
  exact indep_eq hr
theorem xf_at {xs : List Str} {a dd : Addr} {ns : List Str} {ds : List D} {y : D} (hm : me ρ A = .ok (.exv a (some dd) ns ds) A1) (hC : C ∈ xs) (hl : (ns.zip ds).lookup f = some y) : mXf C xs a (some dd) f me ρ A = .ok y A1 := by
  unfold mXf
  rw [hm, bind_ok]
  exact (if_pos ⟨hC, rfl, rfl⟩).trans (by rw [hl])
end
end DM
end
section
set_option maxHeartbeats 2000000
namespace DM
open PySem PySem.Spec PyProof.Rows L2
/-! ### zip of a list or tuple and another one -/
/-- tp: a tuple -/
def SqK (tp : Bool) (K : PySem.W.Frag) (H : Hp) (a : Addr) (xs : List V) : Prop := if tp = true then SqT K H a xs else SqL K H a xs
def IterAt (tp : Bool) (h : Heap) (it a : Addr) (i : Nat) : Prop := if tp = true then h.IsTupleIter it a i else h.IsListIter it a i
def ContAt (tp : Bool) (h : Heap) (a : Addr) (xs : Array Value) : Prop := if tp = true then h.IsTuple a xs else h.IsList a xs
def itObj (tp : Bool) (a : Addr) : Obj := if tp = true then { cls := .type "tuple_iterator", data := .fields #[.ref a, .int 0 0] } else { cls := .type "list_iterator", data := .fields #[.ref a, .int 0 0] }
theorem drawsK (tp : Bool) {prog : Program} {w : World} {A : Around} (hh : A.handled = none) (it l : Addr) (hne : l ≠ it) (items : Array Value) :
    Draws prog w A it [it, l] items.size (fun i v => items[i]? = some v) (fun i h => IterAt tp h it l i ∧ ContAt tp h l items) := by
  cases tp with
  | false => exact Draws.list hh it l hne items
  | true => exact Draws.tuple hh it l hne items
theorem drawsX (tp : Bool) {prog : Program} {w : World} {A : Around} (hh : A.handled = none) (it l : Addr) (hne : l ≠ it) (items : Array Value) (i : Nat) :
    ∃ n P St, Draws prog w A it [it, l] n P St ∧ i ≤ n ∧ (items.size ≤ i → i = n) ∧ ∀ h, IterAt tp h it l i → ContAt tp h l items → St i h := by
  by_cases hi : items.size ≤ i
  · refine ⟨i, fun _ _ => True, fun j h => j = i ∧ IterAt tp h it l i ∧ ContAt tp h l items, ?_, Nat.le_refl _, fun _ => rfl, fun h a b => ⟨rfl, a, b⟩⟩
    have D := drawsK tp (prog := prog) (w := w) hh it l hne items
    refine ⟨fun j h st => D.live i h st.2, fun j h h' st k => ⟨st.1, D.frame i h h' st.2 k⟩, fun j s Q E hj st => by have := st.1; omega, fun s Q E st hE => ?_⟩
    have hx : items[i]? = none := Array.getElem?_eq_none hi
    cases tp with
    | false => exact wpAny_nextOf_list_end hh st.2.1 st.2.2 hx hE
    | true => exact RZ.nextOf_tuple_end hh st.2.1 st.2.2 hx hE
  · exact ⟨_, _, _, drawsK tp hh it l hne items, by omega, fun z => (hi z).elim, fun h a b => ⟨a, b⟩⟩
theorem beginsK (tp : Bool) (a : Addr) (items : Array Value) : Begins (.ref a) (itObj tp a) fun h => ContAt tp h a items := by
  cases tp with
  | false => exact begins_list a items
  | true => exact begins_tuple a items
theorem inv_sqk {X : Cx} {pins : List (Addr × Obj)} {σ : L2.St} {H : Hp} {s : Shared} {tp : Bool} {a : Addr} {xs : List V} (I : Inv X pins σ H s) (h : SqK tp X.K H a xs) : ∃ its : List Value, Vals xs its ∧ ContAt tp s.heap a its.toArray ∧ a < s.heap.objs.size := by
  cases tp with
  | false =>
    obtain ⟨its, rv, p, _⟩ := I.list h
    exact ⟨its, rv, p.isList, p.lt⟩
  | true =>
    obtain ⟨its, rv, p, _⟩ := I.tuple h
    obtain ⟨o1, ho1, _⟩ := id p
    exact ⟨its, rv, p, Heap.lt_size ho1⟩
theorem sqk_inj {X : Cx} {pins : List (Addr × Obj)} {σ : L2.St} {H : Hp} {s : Shared} {tp : Bool} {a : Addr} {xs ys : List V} (I : Inv X pins σ H s) (h : SqK tp X.K H a xs) (h' : SqK tp X.K H a ys) : xs = ys := by
  cases tp with
  | false => exact I.list_inj h h'
  | true => exact I.tuple_inj h h'
theorem iterAt_obj {tp : Bool} {h : Heap} {it a : Addr} {i : Nat} (x : IterAt tp h it a i) : ∃ o, h.get? it = some o ∧ ∀ v, o.data ≠ .cell v := by
  cases tp with
  | false => obtain ⟨o, e, _, d⟩ := x; exact ⟨o, e, fun v q => by rw [d] at q; cases q⟩
  | true => obtain ⟨o, e, _, d⟩ := x; exact ⟨o, e, fun v q => by rw [d] at q; cases q⟩
theorem IterAt.keep {tp : Bool} {h h' : Heap} {it a : Addr} {i : Nat} (x : IterAt tp h it a i) (k : ∀ o, h.get? it = some o → h'.get? it = some o) : IterAt tp h' it a i := by
  cases tp with
  | false => exact Heap.IsListIter.at x k
  | true => exact Heap.IsTupleIter.at x k
def ItzK (tp tq : Bool) (K : PySem.W.Frag) (a b : Addr) : It :=
  ⟨fun i H => ∃ (xs ys : List V) (x y : V), SqK tp K H a xs ∧ SqK tq K H b ys ∧ xs[i]? = some x ∧ ys[i]? = some y,
    fun i H v H' => ∃ T x y, v = .ref T ∧ H T = none ∧ H' = upd H T (.tup [x, y]) ∧ (∀ xs, SqK tp K H a xs → xs[i]? = some x) ∧ ∀ ys, SqK tq K H b ys → ys[i]? = some y,
    fun i H => ∃ xs ys : List V, SqK tp K H a xs ∧ SqK tq K H b ys ∧ (xs.length ≤ i ∨ ys.length ≤ i)⟩
theorem apart_sep {z TI TO i1 i2 a b : Addr} (D : ZipApart z TI TO i1 i2 a b) : ZipSep2 z TI TO i1 i2 [i1, a] [i2, b] where
  TIz := D.TIz
  TOz := D.TOz
  TITO := D.TITO
  TIi1 := D.TIi1
  mem1 := by simp
  zf1 := by simp; exact ⟨fun e => D.i1z e.symm, fun e => D.l1z e.symm⟩
  Tf1 := by simp; exact ⟨D.TOi1, fun e => D.l1TO e.symm⟩
  TIi2 := D.TIi2
  mem2 := by simp
  zf2 := by simp; exact ⟨fun e => D.i2z e.symm, fun e => D.l2z e.symm⟩
  Tf2 := by simp; exact ⟨D.TOi2, fun e => D.l2TO e.symm⟩
  sep1_2 := by simp; exact ⟨D.i12, fun e => D.l2i1 e.symm⟩
  sep2_1 := by simp; exact ⟨fun e => D.i12 e.symm, fun e => D.l1i2 e.symm⟩
theorem turn_zipK {tp tq : Bool} {P : Program} {w : World} {K : PySem.W.Frag} {elts : List Expr} {kk : Nat} {tpos : Pos} {a b z TI TO i1 i2 : Addr} (D : ZipApart z TI TO i1 i2 a b) :
    Turn P w K (.Tuple elts kk tpos) (ItzK tp tq K a b) [z, TI, TO, i1, i2] z (fun i h => IsZip h z TI TO .none ∧ IsPair h TI (.ref i1) (.ref i2) ∧ (∃ x y, IsPair h TO x y) ∧ IterAt tp h i1 a i ∧ IterAt tq h i2 b i) where
  mem := by simp
  obj := fun i h st c hc => by
    obtain ⟨hz, hTI, ⟨x, y, hTO⟩, h1, h2⟩ := st
    have e' : c = z ∨ c = TI ∨ c = TO ∨ c = i1 ∨ c = i2 := by simpa using hc
    rcases e' with q | q | q | q | q
    · rw [q]; exact ⟨_, hz, fun v q => nomatch q⟩
    · rw [q]; exact ⟨_, hTI, fun v q => nomatch q⟩
    · rw [q]; exact ⟨_, hTO, fun v q => nomatch q⟩
    · rw [q]; exact iterAt_obj h1
    · rw [q]; exact iterAt_obj h2
  keep := fun i h h' st k => by
    obtain ⟨hz, hTI, ⟨x, y, hTO⟩, h1, h2⟩ := st
    exact ⟨k z (by simp) _ hz, k TI (by simp) _ hTI, ⟨x, y, k TO (by simp) _ hTO⟩, h1.keep fun o q => k i1 (by simp) o q, h2.keep fun o q => k i2 (by simp) o q⟩
  item := by
    intro X hP hw hK hc i pins s σ H E I hf st hg
    subst hP hw hK
    obtain ⟨hz, hTI, ⟨x0, y0, hTO⟩, h1, h2⟩ := st
    obtain ⟨xs, ys, x, y, hqx, hqy, hx, hy⟩ := hg
    obtain ⟨its, rv, p, _⟩ := inv_sqk I hqx
    obtain ⟨its2, rv2, p2, _⟩ := inv_sqk I hqy
    obtain ⟨u, hu, ru⟩ := rv.get hx
    obtain ⟨u2, hu2, ru2⟩ := rv2.get hy
    have hzl : z < s.heap.objs.size := Heap.lt_size hz
    have hh : X.A.in1.handled = none := I.ok.hd hc
    refine wpAny_pyNext_zipD2_item (i := i) (apart_sep D) (drawsK tp hh i1 a D.l1i1 its.toArray) (drawsK tq hh i2 b D.l2i2 its2.toArray) hz hTI hTO ⟨h1, p⟩ ⟨h2, p2⟩
      (by have := (List.getElem?_eq_some_iff.mp hu).1; simpa using this) (by have := (List.getElem?_eq_some_iff.mp hu2).1; simpa using this) fun v1 v2 h' tk e1 e2 z' TO' s1' s2' hT hsz hk => ?_
    have q1 : v1 = u := by simpa [hu] using e1.symm
    have q2 : v2 = u2 := by simpa [hu2] using e2.symm
    subst q1 q2
    refine ⟨_, rfl, wpAny_letOwnedTupleGo_zip (s := { s with heap := h', toks := tk }) z' fun h'' z'' sb => ?_⟩
    have hT2 : h''.get? s.heap.objs.size = some { cls := .type "tuple", data := .seq #[v1, v2] } := (sb.2 _ (Nat.ne_of_gt hzl)).trans hT
    have new : ObjOk X.prog X.w (upd H s.heap.objs.size (.tup [x, y])) h'' s.heap.objs.size (.tup [x, y]) :=
      ⟨by show 2 ≤ sizeLine; decide, [v1, v2], .cons ru (.cons ru2 .nil), ⟨_, hT2, rfl, _, rfl⟩⟩
    have I1 : Inv X pins σ (upd H s.heap.objs.size (.tup [x, y])) { s with heap := h'', toks := tk } :=
      I.turnedNew (t' := tk) (ch := [z, TI, TO, i1, i2]) (fun c o hb q => (sb.2 c (fun q' => hb (by simp [q']))).trans (hk c o (fun q' => hb (by simp [q'])) (fun q' => hb (by simp [q'])) (fun q' => hb (by simp [q'])) (fun q' => hb (by simp [q'])) q)) hf (Nat.le_refl _) new
    refine ⟨.ref s.heap.objs.size, _, I1, rfl, ⟨_, x, y, rfl, I.hok.fresh (Nat.le_refl _), rfl, fun l hl => by rw [sqk_inj I hl hqx]; exact hx, fun l hl => by rw [sqk_inj I hl hqy]; exact hy⟩, ⟨z'', ?_, ⟨v1, v2, ?_⟩, ?_, ?_⟩, fun c hcm => ?_⟩
    · exact (sb.2 _ D.TIz).trans (hk _ _ D.TIz D.TITO D.TIi1 D.TIi2 hTI)
    · exact (sb.2 _ D.TOz).trans TO'
    · exact s1'.1.keep fun o q => (sb.2 _ D.i1z).trans q
    · exact s2'.1.keep fun o q => (sb.2 _ D.i2z).trans q
    · have hlt : c < s.heap.objs.size := by
        have e' : c = z ∨ c = TI ∨ c = TO ∨ c = i1 ∨ c = i2 := by simpa using hcm
        rcases e' with q | q | q | q | q
        · rw [q]; exact hzl
        · rw [q]; exact Heap.lt_size hTI
        · rw [q]; exact Heap.lt_size hTO
        · rw [q]; obtain ⟨_, e1, _⟩ := iterAt_obj h1; exact Heap.lt_size e1
        · rw [q]; obtain ⟨_, e1, _⟩ := iterAt_obj h2; exact Heap.lt_size e1
      rw [upd_ne (Nat.ne_of_lt hlt)]
      exact (hf c hcm).1
  done := by
    intro X hP hw hK hc i pins s σ H E I hf st hg
    subst hP hw hK
    obtain ⟨hz, hTI, ⟨x0, y0, hTO⟩, h1, h2⟩ := st
    obtain ⟨xs, ys, hqx, hqy, hend⟩ := hg
    obtain ⟨its, rv, p, _⟩ := inv_sqk I hqx
    obtain ⟨its2, rv2, p2, _⟩ := inv_sqk I hqy
    have l1 := rv.length
    have l2 := rv2.length
    have hh : X.A.in1.handled = none := I.ok.hd hc
    obtain ⟨n1, P1, S1, D1, g1, f1, s1⟩ := drawsX tp (prog := X.prog) (w := X.w) hh i1 a D.l1i1 its.toArray i
    obtain ⟨n2, P2, S2, D2, g2, f2, s2⟩ := drawsX tq (prog := X.prog) (w := X.w) hh i2 b D.l2i2 its2.toArray i
    refine wpAny_pyNext_zipD2_end (i := i) (apart_sep D) D1 D2 hz hTI hTO (s1 _ h1 p) (s2 _ h2 p2) g1 g2 (hend.imp (fun q => f1 (by simp; omega)) fun q => f2 (by simp; omega)) fun h' tk hk => ⟨rfl, ?_⟩
    exact I.turnedL (t' := tk) (ch := [z, TI, TO, i1, i2]) (fun c o hb q => hk c o (fun q' => hb (by simp [q'])) (fun q' => hb (by simp [q'])) (fun q' => hb (by simp [q'])) (fun q' => hb (by simp [q'])) q) hf
  self := fun A i s Q E st h => wpAny_pyIter_zip st.1 h
def iZipK (K : PySem.W.Frag) (ta : TA) : TI := fun σ H R => ta σ H fun vs H1 => ∃ (tp tq : Bool) (a b : Addr) (xs ys : List V), vs = [.ref a, .ref b] ∧ SqK tp K H1 a xs ∧ SqK tq K H1 b ys ∧ R (ItzK tp tq K a b) H1
theorem iter0K {tp : Bool} {h : Heap} {it a : Addr} (e : h.get? it = some (itObj tp a)) : IterAt tp h it a 0 := by
  cases tp with
  | false => exact ⟨_, e, rfl, rfl⟩
  | true => exact ⟨_, e, rfl, rfl⟩
theorem pi_zipK {X : Cx} {e e2 : Expr} {ta : TA} {p pos tpos : Pos} {elts : List Expr} {kk : Nat} (hg : Gl X "zip") (hm : X.mg "zip" = none) (ha : PA X [e, e2] ta)
    (hs : starEach [e, e2] X.env = (false, eval e X.env) :: starEach [e2] X.env := by rfl) (hpl : (backTo pos (starEach [e2] X.env)).any (·.1) = false := by rfl) :
    PI X (.Tuple elts kk tpos) (.Call (.Name "zip" p) [e, e2] [] pos) (iZipK X.K ta) := by
  refine ⟨fun pins s σ H R I h => ?_⟩
  refine Call_ (ld_blt I hg hm PyProof.Rows.boot_zip (PyProof.Rows.callWith_type1 (thn (ha.run pos pins s σ H _ I h) fun us s1 ⟨vs, H1, I1, r1, q1⟩ => ?_) hs hpl))
  obtain ⟨tp, tq, a, b, xs, ys, ex, hqx, hqy, q⟩ := q1
  subst ex
  cases r1 with
  | cons r rr =>
    cases rr with
    | cons r' rr =>
      cases rr
      cases r
      cases r'
      have fresh5 : ∀ c, c ∈ [s1.heap.objs.size + 4, s1.heap.objs.size + 2, s1.heap.objs.size + 3, s1.heap.objs.size, s1.heap.objs.size + 1] → FpOk X pins H1 c := fun c hcm => by
        have e' : c = s1.heap.objs.size + 4 ∨ c = s1.heap.objs.size + 2 ∨ c = s1.heap.objs.size + 3 ∨ c = s1.heap.objs.size ∨ c = s1.heap.objs.size + 1 := by simpa using hcm
        have hle : s1.heap.objs.size ≤ c := by
          rcases e' with z | z | z | z | z
          · rw [z]; exact Nat.le_add_right _ _
          · rw [z]; exact Nat.le_add_right _ _
          · rw [z]; exact Nat.le_add_right _ _
          · rw [z]; exact Nat.le_refl _
          · rw [z]; exact Nat.le_add_right _ _
        exact I1.fpOk hle (I1.hok.fresh hle)
      obtain ⟨its, rv, p1, lt1⟩ := inv_sqk I1 hqx
      obtain ⟨its2, rv2, p2, lt2⟩ := inv_sqk I1 hqy
      refine zip_begins2 (beginsK tp a its.toArray) (beginsK tq b its2.toArray) p1 p2 fun h' hz hTI hTO h1 h2 hsz hk => wpAny_pyIter_zip hz ?_
      have I2 : Inv X pins σ H1 { s1 with heap := h' } := I1.kept (t' := s1.toks) hk
      exact ⟨s1.heap.objs.size + 4, [s1.heap.objs.size + 4, s1.heap.objs.size + 2, s1.heap.objs.size + 3, s1.heap.objs.size, s1.heap.objs.size + 1], _, _, H1, rfl, I2, turn_zipK (tp := tp) (tq := tq) (PySem.W.ktu_apart s1.heap.objs.size a b lt1 lt2), ⟨hz, hTI, ⟨_, _, hTO⟩, iter0K h1, iter0K h2⟩, fresh5, q⟩
end DM
end
section
set_option maxHeartbeats 2000000
namespace DM
open PySem PySem.Spec PyProof.Rows L2
section
variable {X : Cx} {W : WX} {a b c e e2 tg : Expr} {es elts : List Expr} {ma mb mc me : ME} {mt mu : MT} {ms : MA} {pos p p2 p3 tpos : Pos} {kk : Nat}
/-! ### zip of things that stay -/
/-! ### any, all -/
/-! ### sorted ints; sum -/
def intsOf : List D → Option (List Int)
  | [] => some []
  | .int b :: xs => (intsOf xs).map (b :: ·)
  | _ => none
theorem ints_rd {K : PySem.W.Frag} {m : Mp} {H : Hp} : ∀ {xs : List D} {bs : List Int} {vs : List V}, intsOf xs = some bs → RDs K m H xs vs → vs = bs.map V.int
  | [], bs, vs, h, r => by cases h; cases r; rfl
  | d :: xs, bs, vs, h, r => by
    cases r with
    | cons r rs =>
      cases d with
      | int b =>
        simp only [intsOf, Option.map_eq_some_iff] at h
        obtain ⟨cs, h1, rfl⟩ := h
        rw [ints_rd h1 rs]
        cases r
        rfl
      | _ => simp [intsOf] at h
theorem rds_ints {K : PySem.W.Frag} {m : Mp} {H : Hp} : ∀ bs : List Int, RDs K m H (bs.map D.int) (bs.map V.int)
  | [] => .nil
  | b :: bs => .cons (.int _) (rds_ints bs)
def srt (ns : List Int) : List Int := ns.mergeSort fun a b => decide (a ≤ b)
/-! ### in, deep things -/
/-! ### list(range(n)) -/
end
end DM
end
section
set_option maxHeartbeats 2000000
namespace DM
open PySem PySem.Spec PyProof.Rows L2
section
variable {X : Cx} {W : WX} {a b c e e2 tg : Expr} {es elts : List Expr} {ma mb mc me : ME} {mt mu : MT} {ms : MA} {pos p p2 p3 tpos : Pos} {kk : Nat}
/-! ### dicts: of pairs, read -/
def keyOf : D → Option Key
  | .int i => some (.inl i)
  | .str x => some (.inr x)
  | _ => none
theorem key_rd {K : PySem.W.Frag} {m : Mp} {H : Hp} {d : D} {k : Key} {v : V} (h : keyOf d = some k) (r : RD K m H d v) : v = kV k := by
  cases d <;> simp [keyOf] at h <;> subst h <;> cases r <;> rfl
/-! ### d[k] -/
def valD (kvs : List (Key × D)) (k : Key) : Option D := (kvs.find? fun kv => decide (kv.1 = k)).map (·.2)
theorem val_rd {K : PySem.W.Frag} {m : Mp} {H : Hp} : ∀ {kvs : List (Key × D)} {ws : List (Key × V)} {k : Key} {d : D}, kvs.map (·.1) = ws.map (·.1) → RDs K m H (kvs.map (·.2)) (ws.map (·.2)) → valD kvs k = some d → ∃ v, valV ws k = some v ∧ RD K m H d v
  | [], ws, k, d, _, _, h => by simp [valD] at h
  | x :: xs, [], k, d, h1, _, h => by simp at h1
  | x :: xs, y :: ys, k, d, h1, r, h => by
    rw [List.map_cons, List.map_cons] at h1 r
    injection h1 with h1 h2
    cases r with
    | cons r rs =>
      by_cases e : x.1 = k
      · have e' : y.1 = k := h1 ▸ e
        rw [valV_pos e']
        simp [valD, List.find?_cons, e] at h
        subst h
        exact ⟨_, rfl, r⟩
      · have e' : ¬ y.1 = k := fun z => e (h1.trans z)
        rw [valV_neg e']
        simp [valD, List.find?_cons, e] at h
        exact val_rd h2 rs (by simp [valD]; exact h)
def fDGet : D → D → AH → Res D := fun d e A => match d with
  | .ref n => match A[n]?, keyOf e with
    | some (.dk kvs), some k => (match valD kvs k with
      | some x => .ok x A
      | none => .no)
    | _, _ => .no
  | _ => .no
theorem d_dget (hu : X.A.units + 64 < cLine) (ha : DE X W a ma) (hb : DE X W b mb) (hs : NoSl b := by exact fun _ _ => rfl) : DE X W (.Subscript a b pos) (mOp fDGet ma mb) :=
  PEi (pe_dget (by omega) ha hb hs) fun σ H Q ⟨m, A, ρ, R, E, h⟩ => tE.bind R E h fun m1 A1 d v H1 e1 R1 E1 r1 h1 => tE.bind R1 E1 h1 fun m2 A2 d2 v2 H2 e2 R2 E2 r2 h2 => by
    replace r1 := RD.mono e2 _ _ r1
    unfold fDGet at h2
    split at h2
    · rename_i n
      split at h2
      · rename_i kvs k hA hk
        split at h2
        · rename_i x hx
          cases r1 with
          | ref hm =>
            obtain ⟨q, g1, ws, ⟨g2, g3⟩, g4⟩ := R2.obj _ _ hA
            rw [hm] at g1; cases g1
            obtain ⟨v, w1, w2⟩ := val_rd g3 g4 hx
            refine ⟨_, v, rfl, ?_, Post.here R2 w2 h2⟩
            rw [key_rd hk r2, ← w1]
            exact DGet.k g2
        · exact h2.elim
      · exact h2.elim
    · exact h2.elim
end
end DM
end
section
set_option maxHeartbeats 2000000
namespace DM
open PySem PySem.Spec PyProof.Rows L2
/-! ### instances of own classes -/
structure ClsI (K : PySem.W.Frag) (C : Str) (c : Addr) : Prop where
  nm : clsV K C = some (.ref c)
  cl : Cls K c
section
variable {X : Cx} {W : WX} {a b c e o tg : Expr} {es : List Expr} {ma mb mc me mo mv : ME} {mt mu : MT} {ms mk : MA} {pos p pos' apos : Pos} {kws : List Keyword} {C f mname : Str} {ca : Addr}
/-! ### methods -/
variable {k : Nat} {g : Addr} {fd : FuncData} {ps ks : List Str} {mf : List D → AH → Res D} {pl : Sem Bool}
/-! ### C(..) -/
/-! ### is, of bools -/
end
end DM
end
section
set_option maxHeartbeats 2000000
namespace DM
open PySem PySem.Spec PyProof.Rows L2
/-! ### isinstance of several built-in types -/
section
variable {X : Cx} {W : WX} {a b c e e2 tg : Expr} {es elts : List Expr} {ma mb mc me : ME} {mt mu : MT} {ms : MA} {pos p p2 p3 tpos : Pos} {kk : Nat}
/-! ### sum, min of two -/
def fSum : List D → AH → Res D := fun ds A => match ds with
  | [.lst xs] => match intsOf xs with
    | some ns => .ok (.int ns.sum) A
    | none => .no
  | _ => .no
theorem fSum_ok {K : PySem.W.Frag} : CallD K fSum (rSum K) := by
  intro W σ m A H xs ds Q R hx h
  unfold fSum at h
  split at h
  · obtain ⟨v, rfl, r⟩ := hx.one
    split at h
    · rename_i ns hb
      cases r with
      | lst s rs =>
        have := ints_rd hb rs
        subst this
        exact ⟨_, ns, rfl, s.sq, Post.here R (.int _) h⟩
    · exact h.elim
  · exact h.elim
theorem d_sum (hm : X.mg "sum" = none) (ha : DA X W [e] ms) (hc : X.calm = true := by rfl) (hg : Gl X "sum" := by rfl) (he : starEach [e] X.env = (false, eval e X.env) :: starEach [] X.env := by rfl) (hpl : (backTo pos (starEach [] X.env)).any (·.1) = false := by rfl) :
    DE X W (.Call (.Name "sum" p) [e] [] pos) (mCall fSum ms) := d_callB (cr_sum hc) fSum_ok hg hm (by decide +kernel) ha (by decide) (by decide) he hpl
/-! ### lists that will change: a copy, a slice -/
/-! ### zip of things that may change -/
theorem iter_zipR {K : PySem.W.Frag} {m : Mp} {A : AH} {H : Hp} {d e : D} {q1 q2 : Addr} (r1 : RD K m H d (.ref q1)) (r2 : RD K m H e (.ref q2)) : Iter K (ItzK (isTup d) (isTup e) K q1 q2) m H (.zp d e) := by
  have sk : ∀ {m : Mp} {A : AH} {H : Hp} {d : D} {q : Addr} {xs : List D}, Rel K m A H → RD K m H d (.ref q) → seqOf A d = some xs → ∃ vs, RDs K m H xs vs ∧ SqK (isTup d) K H q vs := by
    intro m A H d q xs R r hs
    obtain ⟨q', vs, hq, rs, sq⟩ := seqOf_is R r hs
    cases hq
    refine ⟨vs, rs, ?_⟩
    rcases sq with ⟨rfl, sq⟩ | ⟨hd, sq⟩
    · exact sq
    · rw [hd]; exact sq
  refine ⟨fun m' A' H' all i x ex R hs hi => ?_, fun m' A' H' all i ex R hs hl => ?_⟩
  · have hs : (match seqOf A' d, seqOf A' e with | some xs, some ys => some (zipD xs ys) | _, _ => none) = some all := hs
    split at hs
    · rename_i xs ys h1 h2
      cases hs
      obtain ⟨x1, x2, rfl, g1, g2⟩ := zip_at xs ys i x hi
      obtain ⟨vs, rs1, sq1⟩ := sk R (RD.mono ex _ _ r1) h1
      obtain ⟨ws, rs2, sq2⟩ := sk R (RD.mono ex _ _ r2) h2
      obtain ⟨v, a1, a2⟩ := rs1.get g1
      obtain ⟨w, b1, b2⟩ := rs2.get g2
      refine ⟨⟨vs, ws, v, w, sq1, sq2, a1, b1⟩, fun y H'' hy => ?_⟩
      obtain ⟨T, v', w', rfl, hT, rfl, hv, hw⟩ := hy
      have := hv vs sq1
      rw [a1] at this; cases this
      have := hw ws sq2
      rw [b1] at this; cases this
      obtain ⟨R1, e1⟩ := R.new hT (.tup [v, w])
      exact ⟨R1, e1, .qtup (.inl upd_same) (R.out hT) (.cons (RD.mono e1 _ _ a2) (.cons (RD.mono e1 _ _ b2) .nil))⟩
    · cases hs
  · have hs : (match seqOf A' d, seqOf A' e with | some xs, some ys => some (zipD xs ys) | _, _ => none) = some all := hs
    split at hs
    · rename_i xs ys h1 h2
      cases hs
      obtain ⟨vs, rs1, sq1⟩ := sk R (RD.mono ex _ _ r1) h1
      obtain ⟨ws, rs2, sq2⟩ := sk R (RD.mono ex _ _ r2) h2
      rw [zip_length] at hl
      refine ⟨vs, ws, sq1, sq2, ?_⟩
      rw [← rs1.length, ← rs2.length]
      omega
    · cases hs
noncomputable def mZipR (ms : MA) : MI := fun ρ A => (ms ρ A).bind fun ds A1 => match ds with
  | [d, e] => match seqOf A1 d, seqOf A1 e with
    | some xs, some ys => .ok (.zp d e) A1
    | _, _ => .no
  | _ => .no
theorem i_zipR (hm : X.mg "zip" = none) (ha : DA X W [e, e2] ms) (hg : Gl X "zip" := by rfl) (hs : starEach [e, e2] X.env = (false, eval e X.env) :: starEach [e2] X.env := by rfl) (hpl : (backTo pos (starEach [e2] X.env)).any (·.1) = false := by rfl) :
    DI X W (.Tuple elts kk tpos) (.Call (.Name "zip" p) [e, e2] [] pos) (mZipR ms) :=
  PIi (pi_zipK hg hm ha hs hpl) fun σ H Q ⟨m, A, ρ, R, E, h⟩ => tA.bind R E h fun m1 A1 ds vs H1 e1 R1 E1 r1 h1 => by
    split at h1
    · rename_i d e
      cases r1 with
      | cons r r1 =>
        obtain ⟨v, rfl, r'⟩ := r1.one
        split at h1
        · rename_i xs ys hx hy
          obtain ⟨q1, ws1, rfl, rs1, sq1⟩ := seqOf_is R1 r hx
          obtain ⟨q2, ws2, rfl, rs2, sq2⟩ := seqOf_is R1 r' hy
          have k1 : SqK (isTup d) X.K H1 q1 ws1 := by
            rcases sq1 with ⟨rfl, sq⟩ | ⟨hd, sq⟩
            · exact sq
            · rw [hd]; exact sq
          have k2 : SqK (isTup e) X.K H1 q2 ws2 := by
            rcases sq2 with ⟨rfl, sq⟩ | ⟨hd, sq⟩
            · exact sq
            · rw [hd]; exact sq
          exact ⟨_, _, q1, q2, ws1, ws2, rfl, k1, k2, Post.here R1 (iter_zipR (A := A1) r r') h1⟩
        · exact h1.elim
    · exact h1.elim
end
end DM
end
section
set_option maxHeartbeats 2000000
namespace DM
open PySem PySem.Spec PyProof.Rows L2
section
variable {X : Cx} {W : WX} {a b c e e2 tg : Expr} {es elts : List Expr} {ma mb mc me mv mo : ME} {mt mu : MT} {ms : MA} {pos pos' p p2 p3 tpos apos cpos : Pos} {kk : Nat}
/-! ### dicts that change -/
def putKD (kvs : List (Key × D)) (k : Key) (v : D) : List (Key × D) :=
  if (kvs.any fun kv => decide (kv.1 = k)) = true then kvs.map (fun kv => if kv.1 = k then (kv.1, v) else kv) else kvs ++ [(k, v)]
def dropKD (kvs : List (Key × D)) (k : Key) : List (Key × D) := kvs.filter fun kv => decide (kv.1 ≠ k)
theorem any_keys {α β : Type} (k : Key) : ∀ {kvs : List (Key × α)} {ws : List (Key × β)}, kvs.map (·.1) = ws.map (·.1) → (kvs.any fun kv => decide (kv.1 = k)) = ws.any fun kv => decide (kv.1 = k)
  | [], [], _ => rfl
  | [], _ :: _, h => by simp at h
  | _ :: _, [], h => by simp at h
  | x :: xs, y :: ys, h => by
    simp only [List.map_cons, List.cons.injEq] at h
    rw [List.any_cons, List.any_cons, h.1, any_keys k h.2]
theorem valD_any (k : Key) : ∀ kvs : List (Key × D), (valD kvs k).isSome = kvs.any fun kv => decide (kv.1 = k) := fun kvs => by
  unfold valD
  rw [Option.isSome_map]
  induction kvs with
  | nil => rfl
  | cons x xs ih =>
    rw [List.find?_cons, List.any_cons]
    cases decide (x.1 = k) with
    | true => rfl
    | false => exact ih
theorem repl_rd {K : PySem.W.Frag} {m : Mp} {H : Hp} {k : Key} {d : D} {v : V} (r : RD K m H d v) : ∀ {kvs : List (Key × D)} {ws : List (Key × V)}, kvs.map (·.1) = ws.map (·.1) → RDs K m H (kvs.map (·.2)) (ws.map (·.2)) →
    (kvs.map fun kv => if kv.1 = k then (kv.1, d) else kv).map (·.1) = (ws.map fun kv => if kv.1 = k then (kv.1, v) else kv).map (·.1) ∧
    RDs K m H ((kvs.map fun kv => if kv.1 = k then (kv.1, d) else kv).map (·.2)) ((ws.map fun kv => if kv.1 = k then (kv.1, v) else kv).map (·.2))
  | [], [], _, _ => ⟨rfl, .nil⟩
  | [], _ :: _, h, _ => by simp at h
  | _ :: _, [], h, _ => by simp at h
  | x :: xs, y :: ys, h, hr => by
    simp only [List.map_cons, List.cons.injEq] at h hr
    cases hr with
    | cons r1 rs =>
      obtain ⟨g1, g2⟩ := repl_rd (k := k) r h.2 rs
      simp only [List.map_cons]
      by_cases e : x.1 = k
      · have e' : y.1 = k := h.1 ▸ e
        rw [if_pos e, if_pos e']
        exact ⟨by rw [g1, h.1], .cons r g2⟩
      · have e' : ¬ y.1 = k := fun z => e (h.1.trans z)
        rw [if_neg e, if_neg e']
        exact ⟨by rw [g1, h.1], .cons r1 g2⟩
theorem put_rdK {K : PySem.W.Frag} {m : Mp} {H : Hp} {k : Key} {d : D} {v : V} (r : RD K m H d v) {kvs : List (Key × D)} {ws : List (Key × V)} (h : kvs.map (·.1) = ws.map (·.1)) (hr : RDs K m H (kvs.map (·.2)) (ws.map (·.2))) :
    (putKD kvs k d).map (·.1) = (putK ws k v).map (·.1) ∧ RDs K m H ((putKD kvs k d).map (·.2)) ((putK ws k v).map (·.2)) := by
  unfold putKD putK
  rw [any_keys k h]
  split
  · exact repl_rd r h hr
  · rw [List.map_append, List.map_append, List.map_append, List.map_append, h]
    exact ⟨rfl, hr.append (.cons r .nil)⟩
/-- {} -/
def mDict0 : ME := fun ρ A => .ok (.ref A.length) (A ++ [.dk []])
theorem d_dict0 : DE X W (.Dict [] [] pos) mDict0 :=
  PEi pe_dnewK fun σ H Q ⟨m, A, ρ, R, E, h⟩ => fun q hq => by
    let ⟨R1, e1⟩ := R.push (H' := upd H q (.dK [])) (o := .dk []) hq (fun q' u z => by rw [upd_ne (ne_of_none z hq)]; exact z) fun e => ⟨[], ⟨upd_same, rfl⟩, .nil⟩
    exact h _ _ _ e1 R1 (.ref (by rw [← R.len]; simp))
/-- d[k] = v -/
def mDPut (mv mo mi : ME) : MS := fun ρ A => lift (mv ρ A) ρ fun v A1 => lift (mo ρ A1) ρ fun d A2 => lift (mi ρ A2) ρ fun e A3 => match d with
  | .ref n => match A3[n]?, keyOf e with
    | some (.dk kvs), some k => if kvs.length < 16777216 then .nx ρ (A3.set n (.dk (putKD kvs k v))) else .no
    | _, _ => .no
  | _ => .no
theorem s_dput (hu : X.A.units + 64 < cLine) (ho : DE X W a mo) (hi : DE X W b mb) (hv : DE X W e mv) (hs : swapsWith e (some (.Subscript a b pos')) pos.line X.env = pure false := by rfl) : DS X W (.Assign [.Subscript a b pos'] e pos) (mDPut mv mo mb) :=
  PSi (ps_dput (by omega) ho hi hv hs) fun D0 σ H ⟨m, A, ρ, R, E, h⟩ => tE.lift R E h fun m1 A1 y v H1 e1 R1 E1 ry h1 => tE.lift R1 E1 h1 fun m2 A2 d w H2 e2 R2 E2 r2 h2 => tE.lift R2 E2 h2 fun m3 A3 i u H3 e3 R3 E3 r3 h3 => by
    replace r2 := RD.mono e3 _ _ r2
    replace ry := RD.mono e3 _ _ (RD.mono e2 _ _ ry)
    split at h3
    · rename_i n
      split at h3
      · rename_i kvs k hA hk
        split at h3
        · rename_i hlen
          cases r2 with
          | ref hm =>
            rename_i q0
            obtain ⟨q, g1, ws, ⟨g2, g3⟩, g4⟩ := R3.obj _ _ hA
            rw [hm] at g1; cases g1
            have hl : ws.length < sizeLine := by
              have := congrArg List.length g3
              rw [List.length_map, List.length_map] at this
              rw [← this, sizeLine_eq]; exact hlen
            let ⟨R4, e4⟩ := R3.write (H' := upd H3 q0 (.dK (putK ws k v))) (o := .dk (putKD kvs k y)) hm (fun p u hp z => by rw [upd_ne hp]; exact z) fun ex => by
              obtain ⟨w1, w2⟩ := put_rdK (k := k) (RD.mono ex _ _ ry) g3 (RDs.mono ex _ _ g4)
              exact ⟨_, ⟨upd_same, w1⟩, w2⟩
            refine ⟨_, _, rfl, by rw [key_rd hk r3]; exact DPut.k g2 hl, h3 m3 _ _ e4 R4 (E3.mono e4)⟩
        · exact h3.elim
      · exact h3.elim
    · exact h3.elim
end
end DM
end
section
set_option maxHeartbeats 2000000
namespace DM
open PySem PySem.Spec PyProof.Rows L2
section
variable {X : Cx} {W : WX} {a b c e e2 o tg : Expr} {es elts : List Expr} {ma mb mc me mv mo : ME} {mt mu : MT} {ms : MA} {pos pos' p p2 p3 tpos apos cpos : Pos} {kk : Nat} {C f : Str} {ca : Addr}
/-! ### xs.insert(i, y), xs.remove(k) of whole numbers -/
/-! ### o.f += i -/
end
end DM
end
section
set_option maxHeartbeats 2000000
/-! own errors over KeyError: its __new__ is LookupError's -/
namespace PySem
namespace ErE
open Builtin Builtin.ObjectAttr
/-- what a line over KeyError holds and what not -/
structure OverKey (l : List Value) : Prop where
  over : l.contains (.type "LookupError") = true
  noAttr : l.contains (.type "AttributeError") = false
  noName : l.contains (.type "NameError") = false
section
variable {M : Model} {prog : Program} {w : World} {A : Around} {E : Value → Shared → Prop} {hp : Heap} {gs : Array GenState} {dr : Drawn} {tn : Nat} {os : OsState}
variable {cn cq : Str} {C N : Addr} {bs l : List Value} {hasD : Bool} {sn : List Str} {sb : List Value} {ab : Bool} {cl : Option Bool} {dd : Option Addr} {k0 k1 k2 k3 k5 : Option Value}
end
section
variable {M : Model} {A : Around} {E : Value → Shared → Prop} {hp : Heap} {gs : Array GenState} {dr : Drawn} {tn : Nat} {os : OsState}
end
end ErE
end PySem
end
section
set_option maxHeartbeats 2000000
namespace DM
open PySem PySem.Spec PyProof.Rows L2
/-! ### defs that are called where an exception is handled, and let none out -/
abbrev XNo : XK := fun _ _ _ => False
structure FnH (P : Program) (w : World) (K : PySem.W.Frag) (mg : Str → Option Value) (base : Heap) (k : Nat) (f : Addr) (fd : FuncData) (ps : List Str) (mf : List D → AH → Res D) : Prop where
  run : ∀ (A : Around) (outer : List PySem.Env) (s : Shared) (H : Hp) (args : Args) (us : List Value) (vs : List V) (Q : VK) (p : Addr × Obj), L2H.RoomH k A → A.handled = some (.ref p.1) → A.guards = some [] → L2H.PinOk outer H s p → Env0 P w K mg base A outer s H → BindsTo s fd args (ps.zip us) → Vals vs us →
    spD K ps.length mf vs H Q XNo → codeAny (model P w) A (.call (.ref f) args) (CR (L2.CX P w) outer P w H s Q XNo) s
section
variable {P : Program} {w : World} {K : PySem.W.Frag} {mg : Str → Option Value} {base : Heap}
theorem FnH.of {x qual : Str} {st : Stmt} {f : Addr} {fd : FuncData} {N ps : List Str} {k : Nat} {ms : MS} (F : Fun K x qual st f fd) (S : FnScope N ps (defScope st))
    (hb : ∀ (cdv : Value), fd.code = cdv → ∀ (A : Around) (outer : List PySem.Env) (s : Shared) (H : Hp) (p : Addr × Obj), A.handled = some (.ref p.1) → L2H.RoomH k (A.deeper (envOfC qual (defScope st) s.heap.objs.size f cdv)) → (A.deeper (envOfC qual (defScope st) s.heap.objs.size f cdv)).guards = some [] →
      DSs (L2H.cxH (L2.CX P w) P w K mg base N qual (defScope st) f cdv A outer s H XNo p) WNo (defBody st) ms) {n : Nat} (hn : N.length = n := by rfl) : FnH P w K mg base (k + 1) f fd ps (mFun n ms) := by
  subst hn
  obtain ⟨oc, od, kV, doc, pm, an, cdv, ct, osl, rfl, lk, hcd⟩ := F.ex
  refine ⟨fun A outer s H args us vs Q p room hot gd pin en bi rel hsp => ?_⟩
  obtain ⟨hlen, m, AA, ds, R, rds, post⟩ := hsp
  have kin : K.In s.heap := en.mod.kin.keeps fun b o h => (en.bs b o h).1
  have nolim : s.heap.NoLimit := en.mod.nolimit.keeps fun b o h => (en.bs b o h).1
  have kinds : ∀ y ∈ ps.zip us, (defScope st).names.lookup y.1 = some .local ∨ ((defScope st).names.lookup y.1 = some .cell ∧ ((cellsFrom (s.heap.objs.size + 1) (defScope st).names []).lookup y.1).isSome = true) := by
    rintro ⟨n, v⟩ hy
    rcases S.par n (List.of_mem_zip hy).1 with z | z
    · exact .inl z
    · exact .inr ⟨z, PySem.W.cellsFrom_some _ _ _ (.inl z)⟩
  refine codeAny_call_function room.depth (kin _ _ lk) rfl S.co S.gen rfl (PySem.W.codeRec_of kin hcd) (bi _ _ _ _ (wpAny_newFunctionEnv_cells S.kind kinds fun env henv s1 hx => ?_))
  subst henv
  refine ⟨nolim.keeps hx.toInCall.keep, codeAny_func ?_⟩
  have body := hb cdv rfl A outer s H p hot (room.deeper _) gd
  have I := L2H.inv_startH (CX := L2.CX P w) (E := XNo) S pin en hlen rel hx
  have want : tS K WNo ms { nx := fun _ H' => Q .non H', rt := Q } (L2.start N vs) H := by
    refine ⟨m, AA, _, R, start_rel (N := N) rds, ?_⟩
    unfold mFun at post
    cases hr : ms (ds.map some ++ List.replicate (N.length - ds.length) none) AA with
    | nx ρ1 A1 => rw [hr] at post; exact fun m' H' σ' e1 R1 _ => post m' H' .non e1 R1 .non
    | rt d A1 => rw [hr] at post; exact fun m' H' v e1 R1 r1 => post m' H' v e1 R1 r1
    | exc C fs ρ1 A1 => rw [hr] at post; exact fun m' H' c dx σ' e1 R1 _ hc hx => post m' H' c dx e1 R1 hc hx
    | bk ρ1 A1 => rw [hr] at post; exact post.elim
    | ct ρ1 A1 => rw [hr] at post; exact post.elim
    | no => rw [hr] at post; exact post.elim
  have back : ∀ {σ' : L2.St} {H' : Hp} {v : V} {u : Value} {s' : Shared}, Inv (L2H.cxH (L2.CX P w) P w K mg base N qual (defScope st) f cdv A outer s H XNo p) [] σ' H' s' → RelV v u → Q v H' → CE outer P w H s Q u s' :=
    fun J ru q => ⟨_, _, J.os, J.bare, J.base, J.hok, ru, q⟩
  refine wpAny_mono (body.run [] s1 (L2.start N vs) H _ I want) (fun fl s' z => ?_) fun _ _ z => z
  cases fl with
  | next =>
    obtain ⟨_, _, J, q⟩ := z
    exact back (v := V.non) (u := Value.none) J rfl q
  | ret u =>
    obtain ⟨_, _, _, J, ru, q⟩ := z
    exact back J ru q
  | brk =>
    obtain ⟨_, _, _, q⟩ := z
    exact q.elim
  | cont =>
    obtain ⟨_, _, _, q⟩ := z
    exact q.elim
end
section
variable {X : Cx} {k : Nat} {f : Addr} {fd : FuncData} {ps ks : List Str} {mf : List D → AH → Res D} {x : Str} {p pos kpos : Pos} {e : Expr} {es : List Expr} {ms mk : MA} {me : ME}
end
/-! ### built-in classes: isinstance, except -/
section
variable {K : PySem.W.Frag} {T : String} {c : Addr} {b : Bool}
end
end DM
end
section
set_option maxHeartbeats 4000000
namespace DM
open PySem PySem.Spec PyProof.Rows L2
/-! ### set(xs) of a list of whole numbers, and sorted(set(xs)) -/
abbrev freshSet (w : World) : Obj := { cls := .type "set", dict := none, data := .set #[] 0 (.fresh 0 0 (!w.params.followText "set-order")) }
abbrev listIt (l : Addr) : Obj := { cls := .type "list_iterator", data := .fields #[.ref l, .int 0 0] }
section
variable {P : Program} {w : World} {A : Around} {E : Value → Shared → Prop} {s : Shared}
/-- a fresh set takes in what a list holds -/
theorem set_takes {l a : Addr} {items : Array Value} {ns : List Int} {G : Value → Shared → Prop} (calm : A.handled = none) (hS : s.heap.get? a = some (freshSet w)) (lo : l ≠ s.heap.objs.size) (la : l ≠ a) (hl : s.heap.IsList l items) (hi : IntsAre items.toList ns) (hb : ns.length + 1 < scanBound)
    (fin : ∀ (h' : Heap) (tk c : Nat), SetR w h' a (fun j => decide (j ∈ ns)) c → c ≤ ns.length → (∀ b o, b ≠ a → s.heap.get? b = some o → h'.get? b = some o) → G .none { s with heap := h', toks := tk }) :
    codeAny (model P w) A (.call (.builtin "set.__init__") ⟨[.ref a, .ref l], []⟩) (wants G E) s := by
  have hT : s.TypeIs (.ref a) "set" := ⟨_, hS, rfl⟩
  refine codeAny_call_builtin F.called_set.init.plain F.entry_set_init (check_set_init_1 hT ?_)
  have sz : items.size = ns.length := by rw [← IntsAre.length hi, Array.length_toList]
  have told : ∀ (i : Nat) (v : Value), items[i]? = some v → ∃ k t, ns[i]? = some k ∧ v = .int k t := fun i v hv => by
    have hlt : i < ns.length := by rw [← sz]; exact (Array.getElem?_eq_some_iff.mp hv).1
    obtain ⟨t, e⟩ := PyProof.Rows.IntsAre.int_at hi i v (by rw [Array.getElem?_toList]; exact hv)
    exact ⟨ns[i], t, List.getElem?_eq_getElem hlt, by rw [e, List.getD_eq_getElem?_getD, List.getElem?_eq_getElem hlt] <;> rfl⟩
  have big : a < s.heap.objs.size := Heap.lt_size hS
  have isL := hl
  obtain ⟨⟨oc, od, odt, osl⟩, ho, e1, nl, e2⟩ := hl
  simp only at e1 e2
  subst e1 e2
  have s1 := F.sub_list_set
  have s2 := F.sub_list_frozenset
  have s3 : (Value.type "list" == Value.type "dict") = false := by decide
  unfold Builtin.«set.__init__» noKeywords Builtin.Frozenset.updateFrom
  generalize hPI : pyIter = PI
  wp_walk
  subst hPI
  refine wpAny_pyIter_list isL (wpAny_bind (wpAny_runValue ?_))
  have calm3 : A.in1.in1.handled = none := by simp [calm]
  have apart : a ∉ [s.heap.objs.size, l] := by
    simp only [List.mem_cons, List.not_mem_nil, or_false, not_or]
    exact ⟨Nat.ne_of_lt big, Ne.symm la⟩
  have g2 : (s.heap.push (listIt l)).get? a = some (freshSet w) := Heap.get?_push_of_some _ hS
  refine set_update_ints ((Walks.list calm3 _ l lo items).toS) a apart ns sz hb told (items.size - 0) 0 _ (by omega) (Nat.zero_le _) ?stand ?fresh fun s' c moved hc hR => ?_
  case stand => exact ⟨⟨_, Heap.get?_push_size _ rfl, rfl, rfl⟩, isL.push _⟩
  case fresh => exact ⟨0, Nat.le_refl 0, setR_new_at (w := w) (ns := ns) g2⟩
  obtain ⟨h', g2, d2, tk2, os2⟩ := s'
  obtain rfl : g2 = s.gens := moved.gens
  obtain rfl : d2 = s.drawn := moved.drawn
  obtain rfl : os2 = s.os := moved.os
  refine wpAny_pure ?_
  show wpAny _ _ (ret Value.none) _ _ _
  refine wpAny_pure (fin h' tk2 c hR (by rw [← sz]; exact hc) fun b o hb e => moved.heap b o ?_ (Heap.get?_push_of_some _ e))
  simp only [List.mem_cons, List.not_mem_nil, or_false, not_or]
  exact ⟨hb, Nat.ne_of_lt (Heap.lt_size e)⟩
/-- set(l) -/
theorem set_of_list {l : Addr} {items : Array Value} {ns : List Int} {Q : Value → Shared → Prop} (calm : A.handled = none) (hl : s.heap.IsList l items) (hi : IntsAre items.toList ns) (hb : ns.length + 1 < scanBound)
    (fin : ∀ (h' : Heap) (tk c : Nat), SetR w h' s.heap.objs.size (fun j => decide (j ∈ ns)) c → c ≤ ns.length → (∀ b o, s.heap.get? b = some o → h'.get? b = some o) → Q (.ref s.heap.objs.size) { s with heap := h', toks := tk }) :
    wpAny (model P w) A (call (.type "set") [.ref l]) Q E s := by
  obtain ⟨mh, ml, line⟩ := F.called_set.mro
  have f1 := F.called_set.made
  have f2 := F.called_set.sub
  have f3 := F.called_set.notType
  have f4 := F.called_set.canCreate
  have f5 := F.typeCall_set_1 (.ref l)
  have there : l < s.heap.objs.size := by
    obtain ⟨o, ho, _⟩ := hl
    exact Heap.lt_size ho
  refine wpAny_call (codeAny_of_tree ?_)
  show wpAny _ _ (callAny (.type "set") _) _ _ _
  refine wpAny_pure ⟨Code.quiet_builtin _ (by decide +kernel), codeAny_builtin F.entry_type_call ?_⟩
  rw [Around.under_plain (weight_type_call_type "set" [.ref l] []) rfl]
  repeat (any_goals (first | assumption | wp_step))
  refine codeAny_mono (code_set_led1 (.ref l) (E := E) (Q₁ := fun x s₁ => x = .ref s.heap.objs.size ∧ s₁ = { s with heap := s.heap.push (freshSet w) }) ⟨rfl, rfl⟩) fun r s₁ z => ?_
  cases r with
  | error x => exact z
  | ok fl =>
    cases fl with
    | next => exact z.elim
    | brk => exact z.elim
    | cont => exact z.elim
    | ret x =>
      obtain ⟨rfl, rfl⟩ := z
      have hS : (s.heap.push (freshSet w)).get? s.heap.objs.size = some (freshSet w) := Heap.get?_push_size _ rfl
      have hT : Shared.TypeIs { s with heap := s.heap.push (freshSet w) } (.ref s.heap.objs.size) "set" := ⟨_, hS, rfl⟩
      have g1 := F.called_set.init.lookup
      have g2 := F.called_set.init.bind (.ref s.heap.objs.size)
      repeat (any_goals (first | assumption | wp_step))
      refine codeAny_mono (set_takes (E := E) (G := fun x s₂ => x = .none ∧ ∃ h' tk c, s₂ = { s with heap := h', toks := tk } ∧ SetR w h' s.heap.objs.size (fun j => decide (j ∈ ns)) c ∧ c ≤ ns.length ∧ (∀ b o, s.heap.get? b = some o → h'.get? b = some o))
        (s := { s with heap := s.heap.push (freshSet w) }) (by simpa using calm) hS (by rw [Heap.size_push]; exact Nat.ne_of_lt (Nat.lt_succ_of_lt there)) (Nat.ne_of_lt there) (hl.push _) hi hb fun h' tk c hR hc k => ⟨rfl, h', tk, c, rfl, hR, hc, fun b o e => k b o (Nat.ne_of_lt (Heap.lt_size e)) (Heap.get?_push_of_some _ e)⟩) fun r₂ s₂ z => ?_
      cases r₂ with
      | error x => exact z
      | ok fl =>
        cases fl with
        | next => exact z.elim
        | brk => exact z.elim
        | cont => exact z.elim
        | ret x =>
          obtain ⟨rfl, h', tk, c, rfl, hR, hc, k⟩ := z
          repeat (any_goals (first | assumption | wp_step))
          exact fin _ _ _ hR hc k
end
/-! ### sorted(set(xs)) -/
def insS (k : Int) : List Int → List Int
  | [] => [k]
  | x :: r => if k < x then k :: x :: r else if k = x then x :: r else x :: insS k r
/-- what a list holds, ascending, each once -/
def sset : List Int → List Int
  | [] => []
  | k :: r => insS k (sset r)
theorem mem_insS {k j : Int} : ∀ {l : List Int}, j ∈ insS k l ↔ j = k ∨ j ∈ l
  | [] => by simp [insS]
  | x :: r => by
    unfold insS
    split
    · simp
    · split
      · rename_i h
        subst h
        simp
      · rw [List.mem_cons, mem_insS, List.mem_cons]
        constructor
        · rintro (h | h | h)
          · exact .inr (.inl h)
          · exact .inl h
          · exact .inr (.inr h)
        · rintro (h | h | h)
          · exact .inr (.inl h)
          · exact .inl h
          · exact .inr (.inr h)
theorem insS_up {k : Int} : ∀ {l : List Int}, l.Pairwise (· < ·) → (insS k l).Pairwise (· < ·)
  | [], _ => by simp [insS]
  | x :: r, h => by
    have h1 := List.pairwise_cons.mp h
    unfold insS
    split
    · rename_i hk
      refine List.pairwise_cons.mpr ⟨fun j hj => ?_, h⟩
      rcases List.mem_cons.mp hj with rfl | hj
      · exact hk
      · have := h1.1 j hj
        omega
    · split
      · exact h
      · refine List.pairwise_cons.mpr ⟨fun j hj => ?_, insS_up h1.2⟩
        rcases mem_insS.mp hj with rfl | hj
        · omega
        · exact h1.1 j hj
theorem mem_sset {j : Int} : ∀ {l : List Int}, j ∈ sset l ↔ j ∈ l
  | [] => by simp [sset]
  | k :: r => by
    unfold sset
    rw [mem_insS, mem_sset, List.mem_cons]
theorem sset_up : ∀ l : List Int, (sset l).Pairwise (· < ·)
  | [] => List.Pairwise.nil
  | _ :: r => insS_up (sset_up r)
/-- ascending lists with the same members are the same -/
theorem up_ext : ∀ {a b : List Int}, a.Pairwise (· < ·) → b.Pairwise (· < ·) → (∀ k, k ∈ a ↔ k ∈ b) → a = b
  | [], [], _, _, _ => rfl
  | [], y :: b, _, _, h => absurd ((h y).mpr List.mem_cons_self) (by simp)
  | x :: a, [], _, _, h => absurd ((h x).mp List.mem_cons_self) (by simp)
  | x :: a, y :: b, h1, h2, h => by
    obtain ⟨p1, q1⟩ := List.pairwise_cons.mp h1
    obtain ⟨p2, q2⟩ := List.pairwise_cons.mp h2
    have e : x = y := by
      rcases List.mem_cons.mp ((h x).mp List.mem_cons_self) with z | z
      · exact z
      · rcases List.mem_cons.mp ((h y).mpr List.mem_cons_self) with z2 | z2
        · exact z2.symm
        · have := p1 y z2
          have := p2 x z
          omega
    subst e
    rw [up_ext q1 q2 fun k => ⟨fun z => ?_, fun z => ?_⟩]
    · rcases List.mem_cons.mp ((h k).mp (List.mem_cons_of_mem _ z)) with rfl | z2
      · exact absurd (p1 k z) (by omega)
      · exact z2
    · rcases List.mem_cons.mp ((h k).mpr (List.mem_cons_of_mem _ z)) with rfl | z2
      · exact absurd (p2 k z) (by omega)
      · exact z2
theorem sset_eq {a l : List Int} (h : a.Pairwise (· < ·)) (hm : ∀ k, k ∈ a ↔ k ∈ l) : sset l = a := up_ext (sset_up l) h fun k => mem_sset.trans (hm k).symm
theorem insS_len {k : Int} : ∀ {l : List Int}, (insS k l).length ≤ l.length + 1
  | [] => by simp [insS]
  | x :: r => by
    unfold insS
    split
    · simp
    · split
      · simp
      · have := insS_len (k := k) (l := r)
        simp only [List.length_cons]
        omega
theorem sset_len : ∀ l : List Int, (sset l).length ≤ l.length
  | [] => Nat.le_refl _
  | k :: r => by
    have h1 := insS_len (k := k) (l := sset r)
    have h2 := sset_len r
    unfold sset
    simp only [List.length_cons]
    omega
section
variable {X : Cx} {W : WX} {e : Expr} {me : ME} {p p2 pos pos2 : Pos}
def rSetL (K : PySem.W.Frag) (w : World) : List V → Hp → VK → Prop := fun xs H Q => ∃ (l : Addr) (ns : List Int), xs = [.ref l] ∧ SqL K H l (ns.map V.int) ∧ ns.length < 64 ∧
  ∀ (a : Addr) (c : Nat), H a = none → c ≤ ns.length → Q (.ref a) (upd H a (SetO w a (fun j => decide (j ∈ ns)) c))
end
end DM
namespace DM
open PySem PySem.Spec PyProof.Rows L2
theorem units64 {k : Nat} {A : Around} (r : Room k A) : A.units + 64 < cLine := by have := r.un; omega
section
variable {X : Cx} {j k : Nat} {a f : Addr} {oe : Obj} {pn : List (Addr × Obj)} {fd : FuncData} {ps : List Str} {mf : List D → AH → Res D} {x : Str} {p pos : Pos} {e : Expr} {es : List Expr} {ms : MA}
end
end DM
end
section
set_option maxHeartbeats 2000000
namespace DM
open PySem PySem.Spec PyProof.Rows L2
/-! ### order of texts -/
abbrev sLt (a b : Str) : Prop := a.cps.toList < b.cps.toList
def sLe (a b : Str) : Bool := !decide (sLt b a)
theorem str_ext {a b : Str} (h : a.cps.toList = b.cps.toList) : a = b := by
  cases a
  cases b
  simp only at h
  congr 1
  exact Array.toList_inj.mp h
theorem sLe_total (a b : Str) : (sLe a b || sLe b a) = true := by
  unfold sLe sLt
  by_cases h : b.cps.toList < a.cps.toList
  · have : ¬ a.cps.toList < b.cps.toList := List.lt_asymm h
    simp [this]
  · simp [h]
theorem sLe_iff {a b : Str} : sLe a b = true ↔ a.cps.toList ≤ b.cps.toList := by
  unfold sLe sLt
  simp
theorem sLe_trans (a b c : Str) (h1 : sLe a b = true) (h2 : sLe b c = true) : sLe a c = true := sLe_iff.mpr (List.le_trans (sLe_iff.mp h1) (sLe_iff.mp h2))
theorem sLe_anti {a b : Str} (h1 : sLe a b = true) (h2 : sLe b a = true) : a = b := str_ext (List.le_antisymm (sLe_iff.mp h1) (sLe_iff.mp h2))
def srtS (xs : List Str) : List Str := xs.mergeSort sLe
theorem srtS_perm (xs : List Str) : (srtS xs).Perm xs := List.mergeSort_perm ..
theorem srtS_sorted (xs : List Str) : (srtS xs).Pairwise fun a b => sLe a b = true := List.pairwise_mergeSort sLe_trans sLe_total xs
theorem srtS_uniq {a b : List Str} (h1 : a.Perm b) (h2 : a.Pairwise fun x y => sLe x y = true) : a = srtS b :=
  List.Perm.eq_of_pairwise (fun x y _ _ h h' => sLe_anti h h') h2 (srtS_sorted b) (h1.trans (srtS_perm b).symm)
theorem rising_up : ∀ {r : List Str} {p : Str}, risingS p r = true → (p :: r).Pairwise fun a b => sLe a b = true
  | [], p, _ => by simp
  | x :: r, p, h => by
    unfold risingS at h
    rw [Bool.and_eq_true] at h
    have hp : sLe p x = true := by
      have := h.1
      rw [ltCps_eq] at this
      exact this
    have ih := rising_up h.2
    refine List.pairwise_cons.mpr ⟨fun y hy => ?_, ih⟩
    rcases List.mem_cons.mp hy with rfl | hy
    · exact hp
    · exact sLe_trans _ _ _ hp ((List.pairwise_cons.mp ih).1 y hy)
theorem sortedS_up {ys : List Str} (h : sortedS ys = true) : ys.Pairwise fun a b => sLe a b = true := by
  cases ys with
  | nil => exact List.Pairwise.nil
  | cons x r => exact rising_up h
/-! ### lists of texts -/
def strsOf : List D → Option (List Str)
  | [] => some []
  | .str b :: xs => (strsOf xs).map (b :: ·)
  | _ => none
theorem strs_rd {K : PySem.W.Frag} {m : Mp} {H : Hp} : ∀ {xs : List D} {bs : List Str} {vs : List V}, strsOf xs = some bs → RDs K m H xs vs → vs = bs.map V.str
  | [], bs, vs, h, r => by cases h; cases r; rfl
  | d :: xs, bs, vs, h, r => by
    cases d with
    | str b =>
      obtain ⟨c, hc, rfl⟩ := Option.map_eq_some_iff.mp h
      cases r with
      | cons r rs =>
        cases r
        rw [strs_rd hc rs]
        rfl
    | _ => exact nomatch h
theorem rds_strs {K : PySem.W.Frag} {m : Mp} {H : Hp} : ∀ bs : List Str, RDs K m H (bs.map D.str) (bs.map V.str)
  | [] => .nil
  | b :: bs => .cons (.str _) (rds_strs bs)
theorem strsOf_map : ∀ ns : List Str, strsOf (ns.map D.str) = some ns
  | [] => rfl
  | k :: r => by
    rw [List.map_cons]
    unfold strsOf
    rw [strsOf_map r]
    rfl
section
variable {X : Cx} {W : WX} {a b c e e2 o tg iter kx vx : Expr} {es ifs : List Expr} {ma mb mc me mo mk mv : ME} {mt tt : MT} {ms : MA} {mi : MI} {pos pos' p p2 apos cpos : Pos} {t : Tg} {f C : Str} {ca : Addr}
/-! ### a <= b of whole numbers and of texts -/
def fLeX : D → D → AH → Res D := fun d e A => match d, e with
  | .int i, .int j => .ok (.bl (decide (i ≤ j))) A
  | .str i, .str j => .ok (.bl (sLe i j)) A
  | _, _ => .no
def fLtX : D → D → AH → Res D := fun d e A => match d, e with
  | .int i, .int j => .ok (.bl (decide (i < j))) A
  | .str i, .str j => .ok (.bl (decide (sLt i j))) A
  | _, _ => .no
/-! ### x += y of whole numbers, texts, tuples -/
theorem iop_catA : OpR X (inplaceOp .Add) (rCatP X.K) := by
  intro pins s σ H x y v u Q I rx ry h
  obtain ⟨a, b, xs, ys, rfl, rfl, ha, hb, hz, q0, q1, q2⟩ := h
  cases rx
  cases ry
  obtain ⟨its, r1, p1, _⟩ := I.tuple ha
  obtain ⟨its2, r2, p2, _⟩ := I.tuple hb
  have e := id p1
  have e2 := id p2
  obtain ⟨⟨c1, d1, dt1, s1⟩, g1, g2, n1, g3⟩ := e
  obtain ⟨⟨c2, d2, dt2, s2⟩, k1, k2, n2, k3⟩ := e2
  simp only at g2 g3 k2 k3
  subst g2 g3 k2 k3
  have none1 : typeLookup (.type "tuple") (dunderI "add") = pure none := by rw [typeLookup_type, builtinLookup_eq_fast]; kernel_rfl
  have lz : its.toArray.size + its2.toArray.size ≤ sizeLine := by rw [List.size_toArray, List.size_toArray, ← r1.length, ← r2.length]; exact hz
  refine wpAny_inplaceOp_concat (id := "tuple.__add__") ⟨_, g1, rfl⟩ ⟨_, k1, rfl⟩ none1 noFill_tuple_add seq_tuple_add ?_
  by_cases hx : xs = []
  · subst hx
    cases r1
    exact call_meets PySem.F.slot_tuple_add ⟨_, g1, rfl⟩ PySem.F.entry_tuple_add (PySem.F.args_tuple_add_2 _ _) (tuple_addW0 a b ([] : List Value).toArray its2.toArray n1 n2 d1 d2 s1 s2 (by simp)) ⟨g1, k1, .ref b, H, I, rfl, q0 rfl⟩
  · have hi : its ≠ [] := fun z => hx (r1.nil_iff.mp z)
    by_cases hy : ys = []
    · have hj : its2 = [] := r2.nil_iff.mpr hy
      exact call_meets PySem.F.slot_tuple_add ⟨_, g1, rfl⟩ PySem.F.entry_tuple_add (PySem.F.args_tuple_add_2 _ _) (tuple_addW1 a b its.toArray its2.toArray n1 n2 d1 d2 s1 s2 (by simpa using hi) (by simp [hj])) ⟨g1, k1, .ref a, H, I, rfl, q1 hx hy⟩
    · have hj : its2 ≠ [] := fun z => hy (r2.nil_iff.mp z)
      refine call_meets PySem.F.slot_tuple_add ⟨_, g1, rfl⟩ PySem.F.entry_tuple_add (PySem.F.args_tuple_add_2 _ _) (tuple_addW2 a b its.toArray its2.toArray n1 n2 d1 d2 s1 s2 (by simpa using hi) (by simpa using hj) lz) ⟨g1, k1, ?_⟩
      have e : its.toArray ++ its2.toArray = (its ++ its2).toArray := by simp
      rw [e]
      refine ⟨.ref s.heap.objs.size, _, I.laid (t' := s.toks) (o := plH (its ++ its2) (xs ++ ys)) (fun b ob q => Heap.get?_push_of_some _ q) (Nat.le_refl _) ?_, rfl, q2 hx hy _ _ (I.hok.fresh (Nat.le_refl _))⟩
      exact plain_ok (Heap.get?_push_size _ rfl) (r1.append r2) (by rw [List.length_append]; exact hz)
def fAug : D → D → AH → Res D := fun d e A => match d, e with
  | .int i, .int j => .ok (.int (i + j)) A
  | .str x, .str y => if x.length + y.length ≤ 16777216 then .ok (.str (x ++ y)) A else .no
  | .tup xs, .tup ys => if xs.length + ys.length ≤ 16777216 then .ok (.tup (xs ++ ys)) A else .no
  | _, _ => .no
theorem fAug_ok {K : PySem.W.Frag} : OpD K fAug (fun x y H Q => (rI0 (fun i j => .int (i + j)) x y H Q ∨ (∃ i j, x = .str i ∧ y = .str j ∧ i.length + j.length ≤ sizeLine ∧ Q (.str (i ++ j)) H)) ∨ rCatP K x y H Q) := by
  intro W σ m A H x y d e Q R hx hy h
  have sz : (sizeLine : Nat) = 16777216 := sizeLine_eq
  unfold fAug at h
  split at h
  · cases hx; cases hy
    exact .inl (.inl ⟨_, _, rfl, rfl, Post.here R (.int _) h⟩)
  · cases hx; cases hy
    split at h
    · rename_i hz
      exact .inl (.inr ⟨_, _, rfl, rfl, by rw [sz]; exact hz, Post.here R (.str _) h⟩)
    · exact h.elim
  · rename_i xs ys
    cases hx with
    | tup sx rx =>
      cases hy with
      | tup sy ry =>
        rename_i a vs b ws
        split at h
        · rename_i hz
          refine .inr ⟨a, b, vs, ws, rfl, rfl, sx.sq, sy.sq, by rw [sz, ← rx.length, ← ry.length]; exact hz, fun e0 => ?_, fun _ e0 => ?_, fun _ _ => tup_new R (rx.append ry) h⟩
          · subst e0
            cases rx
            exact Post.here R (.tup sy ry) h
          · subst e0
            cases ry
            rw [List.append_nil] at h
            exact Post.here R (.tup sx rx) h
        · exact h.elim
  · exact h.elim
theorem ia_aug {i : Nat} {x : Str} (hN : X.N.Nodup) (he : DE X W e me) (hi : X.N[i]? = some x := by rfl) (hx : Loc X.env.scope x := by first | exact Or.inl rfl | exact Or.inr rfl) (hx2 : X.fn x = true ∨ X.env.scope.names.lookup x = some .local := by first | exact .inl rfl | exact .inr rfl | assumption) :
    DS X W (.AugAssign (.Name x pos') .Add e pos) (mAug i fAug me) := s_aug ((iop_add.or iop_add_str).or iop_catA) fAug_ok hN hi hx he hx2
/-! ### a.join(list), ord, what is walked -/
def mJoin (mo me : ME) : ME := fun ρ A => (mo ρ A).bind fun d A1 => match d with
  | .str a => (me ρ A1).bind fun e A2 => match seqOf A2 e with
    | some xs => match strsOf xs with
      | some ys => if (ys.map (·.length)).sum + ys.length * a.length ≤ 16777216 then .ok (.str (Txt.join a ys)) A2 else .no
      | none => .no
    | none => .no
  | _ => .no
theorem d_join (ho : DE X W o mo) (he : DE X W e me) (hs : starEach [e] X.env = [(false, eval e X.env)] := by rfl) (hbase : attributeBase o "join" X.env (eval o X.env) = eval o X.env := by rfl) (hline : (apos.endLine == pos.line) = true := by rfl) :
    DE X W (.Call (.Attribute o "join" apos) [e] [] pos) (mJoin mo me) :=
  PEi (pe_join ho he hs hbase hline) fun σ H Q ⟨m, A, ρ, R, E, h⟩ => tE.bind R E h fun m1 A1 d v H1 e1 R1 E1 r1 h1 => by
    split at h1
    · rename_i a
      cases r1
      refine ⟨⟨a, rfl⟩, tE.bind R1 E1 h1 fun m2 A2 d2 v2 H2 e2 R2 E2 r2 h2 => ?_⟩
      split at h2
      · rename_i xs hs2
        split at h2
        · rename_i ys hy
          split at h2
          · rename_i hz
            obtain ⟨q, us, rfl, sq, rs⟩ := seqOf_ok R2 r2 hs2
            have := strs_rd hy rs
            subst this
            exact ⟨a, q, ys, rfl, rfl, sq, hz, Post.here R2 (.str _) h2⟩
          · exact h2.elim
        · exact h2.elim
      · exact h2.elim
    · exact h1.elim
/-! ### sorted of texts, of a dict -/
def fSortS : List D → AH → Res D := fun ds A => match ds with
  | [d] => if isTup d = true then .no else match seqOf A d with
    | some xs => match strsOf xs with
      | some ns => if ns.length < 64 then .ok (.lst ((srtS ns).map D.str)) A else .no
      | none => .no
    | none => .no
  | _ => .no
theorem fSortS_ok {K : PySem.W.Frag} : CallD K fSortS (rSortedS K) := by
  intro W σ m A H xs ds Q R hx h
  unfold fSortS at h
  split at h
  rotate_left
  · exact h.elim
  obtain ⟨v, rfl, r⟩ := hx.one
  split at h
  · exact h.elim
  rename_i d ht
  split at h
  rotate_left
  · exact h.elim
  rename_i ys hs
  split at h
  rotate_left
  · exact h.elim
  rename_i ns hn
  split at h
  rotate_left
  · exact h.elim
  rename_i few
  obtain ⟨a, us, rfl, rs, z⟩ := seqOf_is R r hs
  have hL : SqL K H a us := by
    rcases z with ⟨rfl, _⟩ | ⟨_, z⟩
    · exact absurd rfl ht
    · exact z
  have := strs_rd hn rs
  subst this
  refine ⟨a, ns, rfl, hL, few, fun out q pm up hq => ?_⟩
  have := srtS_uniq pm (sortedS_up up)
  subst this
  exact lst_new R (rds_strs _) h q hq
theorem d_sortS (hm : X.mg "sorted" = none) (ha : DA X W [e] ms) (hg : Gl X "sorted" := by rfl) (he : starEach [e] X.env = (false, eval e X.env) :: starEach [] X.env := by rfl) (hpl : (backTo pos (starEach [] X.env)).any (·.1) = false := by rfl) :
    DE X W (.Call (.Name "sorted" p) [e] [] pos) (mCall fSortS ms) := d_callB cr_sortedS fSortS_ok hg hm (by decide +kernel) ha (by decide) (by decide) he hpl
def strKeys : List (Key × D) → Option (List Str)
  | [] => some []
  | (.inr k, _) :: r => (strKeys r).map (k :: ·)
  | _ => none
def fSortD : List D → AH → Res D := fun ds A => match ds with
  | [.ref n] => match A[n]? with
    | some (.dk kvs) => match strKeys kvs with
      | some ks => if ks.length < 64 then .ok (.lst ((srtS ks).map D.str)) A else .no
      | none => .no
    | _ => .no
  | _ => .no
/-! ### xs.extend(ys) -/
/-! ### {k: v} -/
/-! ### {k: v for ..} -/
open Classical in
noncomputable def dcGo (iv : ItV) (all : List D) (t : Tg) (tt : MT) (mk mv : ME) (ρ : DM.Env) (n : Nat) : List D → AH → Res Unit
  | [], A => if itemsOf A iv = some all then .ok () A else .no
  | x :: xs, A => if itemsOf A iv = some all then (match bindT t x ρ with
    | some ρ1 => (match tt ρ1 A with
      | .ok true A1 => (match mk ρ1 A1 with
        | .ok y A2 => (match mv ρ1 A2 with
          | .ok z A3 => (match A3[n]?, keyOf y with
            | some (.dk kvs), some key => if kvs.length < 16777216 then dcGo iv all t tt mk mv ρ n xs (A3.set n (.dk (putKD kvs key z))) else .no
            | _, _ => .no)
          | _ => .no)
        | _ => .no)
      | .ok false A1 => dcGo iv all t tt mk mv ρ n xs A1
      | _ => .no)
    | none => .no) else .no
noncomputable def mDc (mi : MI) (t : Tg) (tt : MT) (mk mv : ME) (vs : List Nat) : ME := fun ρ A => (mi ρ A).bind fun iv A1 => match itemsOf (A1 ++ [.dk []]) iv with
  | some all => (dcGo iv all t tt mk mv (wipeD ρ vs) A1.length all (A1 ++ [.dk []])).bind fun _ A2 => .ok (.ref A1.length) A2
  | none => .no
theorem dcD {K : PySem.W.Frag} {vs : List Nat} (hsl : ∀ i ∈ slots t, i ∈ vs) {σ : L2.St} {H : Hp} {Q : VK} (h : tE K W (mDc mi t tt mk mv vs) σ H Q) : tDc (tI K W mi) (gOf K t) (tTs K tt) (tE K WNo mk) (tE K WNo mv) vs σ H Q := by
  obtain ⟨m, A, ρ, R, E, h⟩ := h
  refine ⟨m, A, ρ, R, E, Post.imp (Post.bind (R := fun m' H' iv J => Iter K J m' H' iv) h) fun J H1 ⟨m1, A1, iv, e1, R1, itr, h1⟩ q hq => ?_⟩
  have E1 := E.mono e1
  split at h1
  rotate_left
  · exact h1.elim
  rename_i all hall
  let ⟨R2, e2⟩ := R1.push (H' := upd H1 q (.dK [])) (o := .dk []) hq (fun q' u z => by rw [upd_ne (ne_of_none z hq)]; exact z) fun e => ⟨[], ⟨upd_same, rfl⟩, .nil⟩
  have hq1 : (m1.1 ++ [q])[A1.length]? = some q := by rw [← R1.len]; simp
  refine ⟨fun i n H' => n = all.length - i ∧ i ≤ all.length ∧ ∃ (m' : Mp) (A' : AH), Ext m1 H1 m' H' ∧ m'.1[A1.length]? = some q ∧ Rel K m' A' H' ∧
      Post K (RD K) W σ m1 H1 ((dcGo iv all t tt mk mv (wipeD ρ vs) A1.length (all.drop i) A').bind fun _ A2 => .ok (.ref A1.length) A2) Q, ⟨all.length, by simp, Nat.zero_le _, _, _, e2, hq1, R2, by simpa using h1⟩, ?_⟩
  rintro i n H' ⟨rfl, hi, m', A', e', hm', R', h'⟩
  by_cases hlt : i < all.length
  · rw [List.drop_eq_getElem_cons hlt] at h'
    unfold dcGo at h'
    split at h'
    rotate_left
    · exact h'.elim
    rename_i hit
    have go := itr.go m' A' H' all i _ e' R' hit (List.getElem?_eq_getElem hlt)
    refine .inr ⟨go.1, fun H2 => ∃ (m' : Mp) (A' : AH), Ext m1 H1 m' H2 ∧ m'.1[A1.length]? = some q ∧ Rel K m' A' H2 ∧
      Post K (RD K) W σ m1 H1 ((dcGo iv all t tt mk mv (wipeD ρ vs) A1.length (all.drop (i + 1)) A').bind fun _ A2 => .ok (.ref A1.length) A2) Q,
      fun H2 h2 => ⟨all.length - (i + 1), by omega, rfl, hlt, h2⟩, fun x H2 hy => ?_⟩
    obtain ⟨R3, e3, rx⟩ := go.2 x H2 hy
    split at h'
    rotate_left
    · exact h'.elim
    rename_i ρ1 hb1
    refine gOf_ok (sl := slots t) t (fun _ h => h) m' H2 _ _ _ x _ ρ1 ((E1.wipe vs).mono (e'.trans e3)) rx hb1 fun σ3 E3 o3 => ⟨wipe_same o3 hsl, m', A', ρ1, R3, E3, ?_⟩
    split at h'
    · rename_i A2 htt
      rw [htt]
      intro m3 H3 k e4 R4 hk
      subst hk
      rw [if_pos rfl]
      refine ⟨m3, A2, ρ1, R4, E3.mono e4, ?_⟩
      split at h'
      rotate_left
      · exact h'.elim
      rename_i y A3 hmk
      rw [hmk]
      intro m4 H4 v e5 R5 r5
      refine ⟨m4, A3, ρ1, R5, (E3.mono e4).mono e5, ?_⟩
      split at h'
      rotate_left
      · exact h'.elim
      rename_i z A4 hmv
      rw [hmv]
      intro m5 H5 w e6 R6 r6
      split at h'
      rotate_left
      · exact h'.elim
      rename_i kvs key hA hkey
      split at h'
      rotate_left
      · exact h'.elim
      rename_i hlen
      have hm5 := e6.get (e5.get (e4.get (e3.get hm')))
      obtain ⟨q', g1, ws, ⟨g2, g3⟩, g4⟩ := R6.obj _ _ hA
      rw [hm5] at g1; cases g1
      have hl : ws.length < sizeLine := by
        have := congrArg List.length g3
        rw [List.length_map, List.length_map] at this
        rw [← this, sizeLine_eq]; exact hlen
      let ⟨R7, e7⟩ := R6.write (H' := upd H5 q (.dK (putK ws key w))) (o := .dk (putKD kvs key z)) hm5 (fun p u hp z => by rw [upd_ne hp]; exact z) fun ex => by
        obtain ⟨w1, w2⟩ := put_rdK (k := key) (RD.mono ex _ _ r6) g3 (RDs.mono ex _ _ g4)
        exact ⟨_, ⟨upd_same, w1⟩, w2⟩
      exact ⟨ws, key, by rw [key_rd hkey r5], g2, hl, m5, _, (((e'.trans e3).trans (e4.trans e5)).trans e6).trans e7, e7.get hm5, R7, h'⟩
    · rename_i A2 htt
      rw [htt]
      intro m3 H3 k e4 R4 hk
      subst hk
      rw [if_neg (by decide)]
      exact ⟨m3, A2, (e'.trans e3).trans e4, e4.get (e3.get hm'), R4, h'⟩
    · exact h'.elim
  · have hnil : all.drop i = [] := List.drop_eq_nil_of_le (by omega)
    rw [hnil] at h'
    unfold dcGo at h'
    split at h'
    rotate_left
    · exact h'.elim
    rename_i hit
    refine .inl ⟨itr.stop m' A' H' all i e' R' hit (by omega), ?_⟩
    rw [bind_ok] at h'
    exact h' m' H' _ e' R' (.ref hm')
end
end DM
end
section
set_option maxHeartbeats 2000000
namespace DM
open PySem PySem.Spec PyProof.Rows L2
/-! ### dict(t), t a tuple of pairs that is known as a plain object -/
section
variable {X : Cx} {W : WX} {e o a b kx vx : Expr} {es : List Expr} {ms : MA} {me mo ma mb mv : ME} {pos p pos' apos cpos : Pos}
/-! ### len of a dict -/
/-! ### texts of the written part -/
/-! ### o.f, o.g = t -/
inductive AtF (X : Cx) (W : WX) (C : Str) (ca : Addr) (mo : ME) : List Expr → List Str → Prop
  | nil : AtF X W C ca mo [] []
  | cons {o : Expr} {f : Str} {pos : Pos} {es : List Expr} {fs : List Str} (ho : DE X W o mo) (nf : NoAttr X.K ca f) (r : AtF X W C ca mo es fs)
      (hs : (assignEach (.Attribute o f pos :: es) X.env).map (·.2) = assign (.Attribute o f pos) X.env :: (assignEach es X.env).map (·.2) := by rfl) : AtF X W C ca mo (.Attribute o f pos :: es) (f :: fs)
end
end DM
end
section
set_option maxHeartbeats 2000000
namespace DM
open PySem PySem.Spec PyProof.Rows L2
/-! ### C(k = v, ..) -/
section
variable {X : Cx} {W : WX} {pos p : Pos} {kws : List Keyword} {mk : MA} {C : Str} {ca g : Addr} {fd : FuncData} {ps ks : List Str} {pm : List Nat} {mf : List D → AH → Res D} {k : Nat}
end
end DM
namespace DM
open PySem PySem.Spec PyProof.Rows L2
/-! ### k in d, k perhaps None -/
section
variable {X : Cx} {W : WX} {a b : Expr} {ma mb : ME} {pos : Pos}
end
end DM
end
section
set_option maxHeartbeats 2000000
namespace DM
open PySem PySem.Spec PyProof.Rows L2
section
variable {X : Cx} {W : WX} {a b : Expr} {ma mb : ME} {pos : Pos}
end
end DM
end
section
set_option maxHeartbeats 1000000
namespace DM
open PySem PySem.Spec PyProof.Rows L2
section
variable {X : Cx} {W : WX} {e e2 : Expr} {ms : MA} {pos p : Pos}
/-! ### max of two -/
end
end DM
end
section
set_option maxHeartbeats 2000000
namespace DM
open PySem PySem.Spec PyProof.Rows L2
section
variable {X : Cx} {W : WX} {a b c : Expr} {ma mb : ME} {ms : MA} {pos p p2 p3 : Pos}
/-! ### list(range(i, j)) -/
/-! ### list(range(i, j, k)) -/
end
end DM
end
section
set_option maxHeartbeats 1000000
namespace DM
open PySem PySem.Spec PyProof.Rows L2
/-! ### numbers as data -/
theorem toPys_ints : ∀ L : List Int, toPys (L.map D.int) = some (L.map PyData.int)
  | [] => rfl
  | x :: L => by
    simp only [List.map_cons, toPys, toPy, toPys_ints L]
theorem toPysG_ints (g : Nat → Option PyData) : ∀ L : List Int, toPysG g (L.map D.int) = some (L.map PyData.int)
  | [] => rfl
  | x :: L => by
    simp only [List.map_cons, toPysG, toPyG, toPysG_ints g L]
theorem canLays_ints : ∀ L : List Int, PyData.canLayAll0 (L.map PyData.int) = true
  | [] => rfl
  | x :: L => by simp only [List.map_cons, PyData.canLayAll0, PyData.canLay0, canLays_ints L, Bool.and_self]
theorem depths_ints : ∀ L : List Int, PyData.depthAll (L.map PyData.int) ≤ 1
  | [] => by decide
  | x :: L => by
    have h := depths_ints L
    simp only [List.map_cons, PyData.depthAll, PyData.depth] at h ⊢
    omega
theorem shaped_lints (L : List Int) : SeqAt.shaped (.list (L.map PyData.int)) = true := by
  have h := depths_ints L
  have h1 : PyData.canLay0 (.list (L.map PyData.int)) = true := by simp only [PyData.canLay0, canLays_ints]
  have h2 : PyData.depth (.list (L.map PyData.int)) ≤ 64 := by
    simp only [PyData.depth]
    omega
  unfold SeqAt.shaped
  rw [h1, decide_eq_true h2]
  rfl
theorem eqvAll_nil (xs : List PyData) : PyData.eqvAll xs [] = xs.isEmpty := by
  cases xs <;> rfl
/-- the drawing object: at h the pair of the list at q and the number -/
def HS (h q : Nat) (A : AH) : Prop := h ≠ q ∧ ∃ (L : List Int) (s : Int), A[h]? = some (.lst [.ref q, .int s]) ∧ A[q]? = some (.lst (L.map D.int)) ∧ L.length ≤ 63 ∧ 0 ≤ s ∧ s < 2147483647
def Drawn (h q : Nat) (A A' : AH) : Prop := A'.length = A.length ∧ HS h q A' ∧ ∀ n, n ≠ h → n ≠ q → A'[n]? = A[n]?
theorem Drawn.trans {h q : Nat} {A B C : AH} (a : Drawn h q A B) (b : Drawn h q B C) : Drawn h q A C := ⟨b.1.trans a.1, b.2.1, fun n h1 h2 => (b.2.2 n h1 h2).trans (a.2.2 n h1 h2)⟩
/-- one object changed -/
def Put (q : Nat) (o : AO) (A A' : AH) : Prop := A'.length = A.length ∧ A'[q]? = some o ∧ ∀ n, n ≠ q → A'[n]? = A[n]?
theorem Put.set {q : Nat} {o u : AO} {A : AH} (h : A[q]? = some u) : Put q o A (A.set q o) := by
  refine ⟨List.length_set .., List.getElem?_set_self (List.getElem?_eq_some_iff.mp h).1, fun n hn => List.getElem?_set_ne (Ne.symm hn)⟩
theorem Put.trans {q : Nat} {o u : AO} {A B C : AH} (a : Put q o A B) (b : Put q u B C) : Put q u A C := ⟨b.1.trans a.1, b.2.1, fun n h => (b.2.2 n h).trans (a.2.2 n h)⟩
theorem at_ref0 {q : Nat} {s : Int} : atI [D.ref q, D.int s] 0 = some (D.ref q) := rfl
theorem at_ref1 {q : Nat} {s : Int} : atI [D.ref q, D.int s] 1 = some (D.int s) := rfl
theorem seqOf_ref {A : AH} {n : Nat} {xs : List D} (h : A[n]? = some (.lst xs)) : seqOf A (.ref n) = some xs := by
  simp only [seqOf, h]
theorem ix_ref {A : AH} {n : Nat} {xs : List D} {i : Int} {v : D} (h : A[n]? = some (.lst xs)) (hv : atI xs i = some v) : fIx (.ref n) (.int i) A = .ok v A := by
  unfold fIx
  simp only [seqOf_ref h, hv]
theorem ix_lst {A : AH} {xs : List D} {i : Int} {v : D} (hv : atI xs i = some v) : fIx (.lst xs) (.int i) A = .ok v A := by
  unfold fIx
  simp only [seqOf, hv]
theorem ix_tup {A : AH} {xs : List D} {i : Int} {v : D} (hv : atI xs i = some v) : fIx (.tup xs) (.int i) A = .ok v A := by
  unfold fIx
  simp only [seqOf, hv]
theorem eq_ints {A : AH} {i j : Int} {neg : Bool} : fEq neg (.int i) (.int j) A = .ok (.bl (if neg then !decide (i = j) else decide (i = j))) A := rfl
theorem eq_refnil {A : AH} {n : Nat} {L : List Int} (h : A[n]? = some (.lst (L.map D.int))) {neg : Bool} : fEq neg (.ref n) (.lst []) A = .ok (.bl (if neg then !L.isEmpty else L.isEmpty)) A := by
  have hz : SeqAt.shaped (.list []) = true := by decide +kernel
  have e : cEq A (.ref n) (.lst []) = some L.isEmpty := by
    unfold cEq
    simp only [toPyA, refPy, toPyG, h, toPysG_ints, toPys_ints, toPy, toPys, Option.map_some, shaped_lints, hz, and_self, if_true, PyData.eqv, eqvAll_nil]
    cases L <;> rfl
  unfold fEq
  rw [e]
noncomputable def pickM (c : List D → AH → Res D) : List D → AH → Res D := mFun 2 (mRet (mOp fIx (mVar 1) (mCallF 2 c (mCons (mVar 0) (mCons (mCall fLen (mCons (mVar 1)
    (mNil))) (mNil))))))
def tstM : MT := mAnd (mTst (mOp (fEq true) (mOp fIx (mVar 0) (mK (.int 0))) (mLst (mNil)))) (mTst (mOp (fEq false) (mOp fIx (mOp fIx (mVar 0) (mK (.int 0))) (mNeg (mK (.int 1)))) (mK (.int 0))))
def popM : MS := mDrop (mPop (mOp fIx (mVar 0) (mK (.int 0))))
theorem zeros_go {h q : Nat} {s k : Int} (hq : h ≠ q) : ∀ (n : Nat) (L : List Int) (A : AH), L.length = n → A[h]? = some (.lst [.ref q, .int s]) → A[q]? = some (.lst (L.map D.int)) →
    ∃ (L' : List Int) (A' : AH), L'.length ≤ L.length ∧ Put q (.lst (L'.map D.int)) A A' ∧ iterW tstM popM (n + 1) [some (.ref h), some (.int k), none] A = .nx [some (.ref h), some (.int k), none] A'
  | n, L, A, hn, h1, h2 => by
    cases hL : L with
    | nil =>
      subst hL
      refine ⟨[], A, Nat.le_refl _, ⟨rfl, h2, fun _ _ => rfl⟩, ?_⟩
      simp [iterW, tstM, mAnd, mTst, mOp, mVar, mK, mLst, mNil, ix_ref h1 at_ref0, eq_refnil h2]
    | cons x0 R =>
      obtain ⟨M, x, e⟩ : ∃ M x, L = M ++ [x] := ⟨L.dropLast, L.getLast (by rw [hL]; simp), (List.dropLast_concat_getLast (by rw [hL]; simp)).symm⟩
      rw [← hL]
      have hlast : atI (L.map D.int) (-1) = some (D.int x) := by
        rw [e, List.map_append]; exact atI_last _ _
      have hne : L.isEmpty = false := by rw [hL]; rfl
      have t1 : tstM [some (.ref h), some (.int k), none] A = .ok (decide (x = 0)) A := by
        simp [tstM, mAnd, mTst, mOp, mVar, mK, mLst, mNil, mNeg, ix_ref h1 at_ref0, eq_refnil h2, hne, ix_ref h2 hlast, eq_ints]
      by_cases hx : x = 0
      · have hlen : M.length + 1 = n := by rw [← hn, e]; simp
        obtain ⟨m, rfl⟩ : ∃ m, n = m + 1 := ⟨M.length, hlen.symm⟩
        have hg : (L.map D.int)[(L.map D.int).length - 1]? = some (D.int x) := by
          rw [e]; simp
        have hd : (L.map D.int).dropLast = M.map D.int := by
          rw [e]; simp
        have p1 : popM [some (.ref h), some (.int k), none] A = .nx [some (.ref h), some (.int k), none] (A.set q (.lst (M.map D.int))) := by
          simp only [popM, mDrop, mPop, mOp, mVar, mK, List.getElem?_cons_zero, bind_ok, ix_ref h1 at_ref0, h2, hg, hd, lift_ok]
        have P := Put.set (o := .lst (M.map D.int)) h2
        obtain ⟨L', A', l1, P', w⟩ := zeros_go hq m M (A.set q (.lst (M.map D.int))) (by omega) ((P.2.2 h hq).trans h1) P.2.1
        refine ⟨L', A', by rw [e]; simp; omega, P.trans P', ?_⟩
        unfold iterW
        rw [t1, decide_eq_true hx]
        simp only [p1]
        exact w
      · refine ⟨L, A, Nat.le_refl _, ⟨rfl, h2, fun _ _ => rfl⟩, ?_⟩
        unfold iterW
        rw [t1, decide_eq_false hx]
end DM
end
section
set_option maxHeartbeats 1000000
namespace DM
open PySem PySem.Spec PyProof.Rows L2
/-- a comprehension whose parts change nothing -/
theorem comp_pure {iv : ItV} {all : List D} {t : Tg} {tt : MT} {me : ME} {ρ : DM.Env} {A : AH} {p : D → Bool} {f : D → D} (hit : itemsOf A iv = some all) : ∀ (xs acc : List D), (∀ x ∈ xs, ∃ ρ1, bindT t x ρ = some ρ1 ∧ tt ρ1 A = .ok (p x) A ∧ (p x = true → me ρ1 A = .ok (f x) A)) →
    compGo iv all t tt me ρ xs acc A = .ok (acc ++ (xs.filter p).map f) A
  | [], acc, _ => by
    unfold compGo
    rw [if_pos hit]
    simp
  | x :: xs, acc, h => by
    obtain ⟨ρ1, h1, h2, h3⟩ := h x List.mem_cons_self
    have ih := comp_pure (t := t) (tt := tt) (me := me) (ρ := ρ) (p := p) (f := f) hit xs
    unfold compGo
    rw [if_pos hit, h1]
    simp only [h2]
    cases hp : p x with
    | true =>
      simp only [h3 hp]
      rw [ih _ fun y hy => h y (List.mem_cons_of_mem _ hy), List.filter_cons, if_pos hp, List.map_cons, List.append_assoc]
      rfl
    | false =>
      simp only
      rw [ih _ fun y hy => h y (List.mem_cons_of_mem _ hy), List.filter_cons, if_neg (by rw [hp]; decide)]
theorem cut_take (xs : List D) (k : Nat) : cutD xs none (some (k : Int)) = xs.take k := by
  unfold cutD
  rw [HT.sIx_none, HT.sIx_nat, List.drop_zero, Nat.sub_zero]
  rcases Nat.le_total k xs.length with h | h
  · rw [Nat.min_eq_left h]
  · rw [Nat.min_eq_right h, List.take_of_length_le (Nat.le_refl _), List.take_of_length_le h]
theorem filter_true {α : Type} (xs : List α) : xs.filter (fun _ => true) = xs := List.filter_eq_self.mpr fun _ _ => rfl
end DM
end
section
set_option maxHeartbeats 1000000
namespace DM
open PySem PySem.Spec PyProof.Rows L2
/-- octets as data -/
def dI (os : List Nat) : List D := os.map fun n : Nat => D.int (n : Int)
theorem dI_length (os : List Nat) : (dI os).length = os.length := by simp [dI]
theorem dI_append (a b : List Nat) : dI (a ++ b) = dI a ++ dI b := by simp [dI]
theorem Drawn.refl {h q : Nat} {A : AH} (hs : HS h q A) : Drawn h q A A := ⟨rfl, hs, fun _ _ _ => rfl⟩
/-- a comprehension whose parts draw -/
theorem comp_draw {iv : ItV} {all : List D} {t : Tg} {tt : MT} {me : ME} {ρ : DM.Env} {h q : Nat} {Pd : D → Prop} {G : AH → Prop} (hit : ∀ A, itemsOf A iv = some all) (hG : ∀ A A', G A → Drawn h q A A' → G A') : ∀ (xs acc : List D) (A : AH), HS h q A → G A →
    (∀ x ∈ xs, ∀ A, HS h q A → G A → ∃ ρ1 y A1, bindT t x ρ = some ρ1 ∧ tt ρ1 A = .ok true A ∧ me ρ1 A = .ok y A1 ∧ Pd y ∧ Drawn h q A A1) →
    ∃ ys A', compGo iv all t tt me ρ xs acc A = .ok (acc ++ ys) A' ∧ ys.length = xs.length ∧ (∀ y ∈ ys, Pd y) ∧ Drawn h q A A'
  | [], acc, A, hs, g, _ => ⟨[], A, by unfold compGo; rw [if_pos (hit A)]; simp, rfl, by simp, Drawn.refl hs⟩
  | x :: xs, acc, A, hs, g, st => by
    obtain ⟨ρ1, y, A1, e1, e2, e3, p, d⟩ := st x List.mem_cons_self A hs g
    obtain ⟨ys, A', w, l, ps, d'⟩ := comp_draw (t := t) (tt := tt) (me := me) (ρ := ρ) (Pd := Pd) (G := G) hit hG xs (acc ++ [y]) A1 d.2.1 (hG _ _ g d) fun z hz => st z (List.mem_cons_of_mem _ hz)
    refine ⟨y :: ys, A', ?_, by simp [l], ?_, d.trans d'⟩
    · unfold compGo
      rw [if_pos (hit A), e1]
      simp only [e2, e3]
      rw [w]
      simp
    · intro z hz
      rcases List.mem_cons.mp hz with rfl | hz
      · exact p
      · exact ps z hz
end DM
end
section
set_option maxHeartbeats 1000000
namespace DM
open PySem PySem.Spec PyProof.Rows L2
/-! ### the other way to draw -/
end DM
end
section
set_option maxHeartbeats 1000000
namespace DM
open PySem PySem.Spec PyProof.Rows L2
noncomputable def checkM : List D → AH → Res D := mFun 3 (mSeq (mSet 1 (mK (.int 1))) (mSeq (mFor (mSq (mVar 0)) (.nm 2) (mSet 1 (mOp fMod (mOp fAdd (mOp fMulA (mVar 1) (mK (.int 256))) (mVar 2))
    (mK (.int 4294967291))))) (mRet (mVar 1))))
noncomputable def pairM : List D → AH → Res D := mFun 1 (mRet (mTup (mCons (mOp fShr (mVar 0) (mK (.int 8))) (mCons (mOp fAnd (mVar 0) (mK (.int 255))) (mNil)))))
noncomputable def sumM (c_check_sum : List D → AH → Res D) (c_pair_of : List D → AH → Res D) : List D → AH → Res D := mFun 2 (mSeq (mSet 1 (mCallF 1 c_check_sum (mCons (mVar 0) (mNil)))) (mRet
    (mOp fAdd (mCallF 1 c_pair_of (mCons (mOp fShr (mVar 1) (mK (.int 16))) (mNil))) (mCallF 1 c_pair_of (mCons (mOp fAnd (mVar 1) (mK (.int 65535))) (mNil))))))
noncomputable def putM (c_sum_octets : List D → AH → Res D) (c_pair_of : List D → AH → Res D) : List D → AH → Res D := mFun 2 (mSeq (mIfS (mTst (mOp fGt (mCall fLen (mCons (mVar 0) (mNil))) (mK
    (.int 65535)))) (mRaise "InvalidSize" "word" (mK (.str "body"))) (mNext)) (mSeq (mSet 1 (mOp fAdd (mOp fAdd (mCallF 1 c_pair_of (mCons (mCall fLen (mCons (mVar 0) (mNil))) (mNil))) (mCallF 1 c_pair_of (mCons (mOp fSub (mK (.int 65535))
    (mCall fLen (mCons (mVar 0) (mNil)))) (mNil)))) (mCall fTup (mCons (mVar 0) (mNil))))) (mRet (mOp fAdd (mVar 1) (mCallF 1 c_sum_octets (mCons (mVar 1) (mNil)))))))
/-! ### the sum -/
def cs (os : List Nat) : Nat := os.foldl (fun t o => (t * 256 + o) % 4294967291) 1
theorem cs_step {x : Option D} {i j : Int} {A : AH} (cm : CMul i 256) : mSet 1 (mOp fMod (mOp fAdd (mOp fMulA (mVar 1) (mK (.int 256))) (mVar 2)) (mK (.int 4294967291))) [x, some (.int i), some (.int j)] A = .nx [x, some (.int ((i * 256 + j) % 4294967291)), some (.int j)] A := by
  simp only [EVa, List.getElem?_cons_zero, List.getElem?_cons_succ, List.set_cons_zero, List.set_cons_succ, bind_ok, lift_ok, List.length_cons, List.length_nil, Nat.reduceAdd, Nat.reduceLeDiff, ↓reduceIte, if_true, if_false, Bool.false_eq_true, fMulA, fI, cm, fAdd, fMod, show (0 : Int) < 4294967291 by decide]
theorem cs_go {x : Option D} {all : List D} {A : AH} (hx : x = some (.tup all)) : ∀ (os : List Nat) (t : Nat) (d : Option D), t < 4294967291 → ∃ d',
    forGo (.sq (.tup all)) all (.nm 2) (mSet 1 (mOp fMod (mOp fAdd (mOp fMulA (mVar 1) (mK (.int 256))) (mVar 2)) (mK (.int 4294967291)))) (dI os) [x, some (.int (t : Int)), d] A
      = .nx [x, some (.int ((os.foldl (fun t o => (t * 256 + o) % 4294967291) t : Nat) : Int)), d'] A
  | [], t, d, _ => ⟨d, for_nil rfl⟩
  | o :: os, t, d, ht => by
    obtain ⟨d', e⟩ := cs_go (x := x) (all := all) (A := A) hx os ((t * 256 + o) % 4294967291) (some (.int o)) (Nat.mod_lt _ (by decide))
    refine ⟨d', ?_⟩
    rw [List.foldl_cons, show dI (o :: os) = .int o :: dI os from rfl]
    have cm : CMul (t : Int) 256 := .inl ⟨by omega, by omega⟩
    have e1 : ((t : Int) * 256 + o) % 4294967291 = (((t * 256 + o) % 4294967291 : Nat) : Int) := by omega
    have st := cs_step (x := x) (A := A) (i := t) (j := o) cm
    rw [e1] at st
    exact (for_nx rfl rfl st).trans e
theorem check_ok {os : List Nat} {A : AH} : checkM [.tup (dI os)] A = .ok (.int (cs os : Nat)) A := by
  obtain ⟨d', e⟩ := cs_go (x := some (.tup (dI os))) (all := dI os) (A := A) rfl os 1 none (by decide)
  unfold checkM
  refine fun_rt ?_
  refine (seq_nx (ρ1 := [some (.tup (dI os)), some (.int (1 : Nat)), none]) (A1 := A) rfl).trans ?_
  refine (seq_nx (ρ1 := [some (.tup (dI os)), some (.int ((cs os : Nat) : Int)), d']) (A1 := A) ?_).trans ?_
  · simp only [EVa, List.getElem?_cons_zero, List.getElem?_cons_succ, List.set_cons_zero, List.set_cons_succ, bind_ok, lift_ok, List.length_cons, List.length_nil, Nat.reduceAdd, Nat.reduceLeDiff, ↓reduceIte, if_true, if_false, Bool.false_eq_true, ev_for, itemsOf, seqOf]
    exact e
  · simp only [EVa, List.getElem?_cons_zero, List.getElem?_cons_succ, List.set_cons_zero, List.set_cons_succ, bind_ok, lift_ok, List.length_cons, List.length_nil, Nat.reduceAdd, Nat.reduceLeDiff, ↓reduceIte, if_true, if_false, Bool.false_eq_true]
theorem pair_ok {n : Nat} {A : AH} : pairM [.int n] A = .ok (.tup (dI [n / 256, n % 256])) A := by
  have e1 : (n : Int) / 2 ^ (Int.toNat 8) = ((n / 256 : Nat) : Int) := by
    show (n : Int) / 256 = _
    omega
  have e2 : Builtin.bitAnd (n : Int) 255 = ((n % 256 : Nat) : Int) := by
    have h := Bits.bitAnd_mask (x := (n : Int)) 8 (by omega)
    have h2 : ((2 : Int) ^ 8 - 1) = 255 := rfl
    rw [h2] at h
    rw [h]
    show (n : Int) % 256 = _
    omega
  unfold pairM
  refine fun_rt ?_
  simp only [EVa, List.getElem?_cons_zero, List.getElem?_cons_succ, List.set_cons_zero, List.set_cons_succ, bind_ok, lift_ok, List.length_cons, List.length_nil, Nat.reduceAdd, Nat.reduceLeDiff, ↓reduceIte, if_true, if_false, Bool.false_eq_true, fShr, fAnd, fI, fI0, show (0 : Int) ≤ 8 by decide, List.map_cons, List.map_nil, List.replicate, List.cons_append, List.nil_append, e1, e2]
  rfl
theorem and_word {n : Nat} : Builtin.bitAnd (n : Int) 65535 = ((n % 65536 : Nat) : Int) := by
  have h := Bits.bitAnd_mask (x := (n : Int)) 16 (by omega)
  have h2 : ((2 : Int) ^ 16 - 1) = 65535 := rfl
  rw [h2] at h
  rw [h]
  show (n : Int) % 65536 = _
  omega
def s4 (os : List Nat) : List Nat := [cs os / 65536 / 256, cs os / 65536 % 256, cs os % 65536 / 256, cs os % 65536 % 256]
theorem add_tup {xs ys : List D} {A : AH} (h : xs.length + ys.length ≤ 16777216) : fAdd (.tup xs) (.tup ys) A = .ok (.tup (xs ++ ys)) A := if_pos h
theorem sum_ok {os : List Nat} {A : AH} : sumM checkM pairM [.tup (dI os)] A = .ok (.tup (dI (s4 os))) A := by
  have e1 : (cs os : Int) / 2 ^ (Int.toNat 16) = ((cs os / 65536 : Nat) : Int) := by
    show (cs os : Int) / 65536 = _
    omega
  unfold sumM
  refine fun_rt ?_
  refine (seq_nx (ρ1 := [some (.tup (dI os)), some (.int (cs os : Nat))]) (A1 := A) ?_).trans ?_
  · simp only [EVa, List.getElem?_cons_zero, List.getElem?_cons_succ, List.set_cons_zero, List.set_cons_succ, bind_ok, lift_ok, List.length_cons, List.length_nil, Nat.reduceAdd, Nat.reduceLeDiff, ↓reduceIte, if_true, if_false, Bool.false_eq_true, List.map_cons, List.map_nil, List.replicate, List.cons_append, List.nil_append, Nat.reduceSub, check_ok]
  simp only [EVa, List.getElem?_cons_zero, List.getElem?_cons_succ, List.set_cons_zero, List.set_cons_succ, bind_ok, lift_ok, List.length_cons, List.length_nil, Nat.reduceAdd, Nat.reduceLeDiff, ↓reduceIte, if_true, if_false, Bool.false_eq_true, fShr, fAnd, fI, fI0, show (0 : Int) ≤ 16 by decide, e1, and_word, pair_ok]
  rw [add_tup (by simp [dI])]
  rfl
/-! ### a frame -/
def hd4 (b : List Nat) : List Nat := [b.length / 256, b.length % 256, (65535 - b.length) / 256, (65535 - b.length) % 256]
def pf (b : List Nat) : List Nat := hd4 b ++ b ++ s4 (hd4 b ++ b)
theorem len_tup {os : List Nat} {A : AH} : fLen [.tup (dI os)] A = .ok (.int (os.length : Nat)) A := by
  simp only [fLen, seqOf, dI_length]
theorem tup_tup {xs : List D} {A : AH} : fTup [.tup xs] A = .ok (.tup xs) A := rfl
theorem put_ok {b : List Nat} {A : AH} (hb : b.length ≤ 65535) : putM (sumM checkM pairM) pairM [.tup (dI b)] A = .ok (.tup (dI (pf b))) A := by
  have e0 : decide ((b.length : Int) > 65535) = false := decide_eq_false (by omega)
  have e1 : (65535 : Int) - (b.length : Int) = ((65535 - b.length : Nat) : Int) := by omega
  unfold putM
  refine fun_rt ?_
  refine (seq_nx (ρ1 := [some (.tup (dI b)), none]) (A1 := A) ?_).trans ?_
  · simp only [EVa, List.getElem?_cons_zero, List.getElem?_cons_succ, List.set_cons_zero, List.set_cons_succ, bind_ok, lift_ok, List.length_cons, List.length_nil, Nat.reduceAdd, Nat.reduceLeDiff, ↓reduceIte, if_true, if_false, Bool.false_eq_true, List.map_cons, List.map_nil, List.replicate, List.cons_append, List.nil_append, Nat.reduceSub, len_tup, fGt, fI0, e0]
  refine (seq_nx (ρ1 := [some (.tup (dI b)), some (.tup (dI (hd4 b ++ b)))]) (A1 := A) ?_).trans ?_
  · simp only [EVa, List.getElem?_cons_zero, List.getElem?_cons_succ, List.set_cons_zero, List.set_cons_succ, bind_ok, lift_ok, List.length_cons, List.length_nil, Nat.reduceAdd, Nat.reduceLeDiff, ↓reduceIte, if_true, if_false, Bool.false_eq_true, len_tup, fSub, fI0, e1, pair_ok, tup_tup]
    rw [add_tup (by simp [dI])]
    simp only [bind_ok, ↓reduceIte]
    rw [add_tup (by simp [dI]; omega)]
    simp only [lift_ok, ← dI_append, List.set_cons_zero, List.set_cons_succ]
    rfl
  · simp only [EVa, List.getElem?_cons_zero, List.getElem?_cons_succ, List.set_cons_zero, List.set_cons_succ, bind_ok, lift_ok, List.length_cons, List.length_nil, Nat.reduceAdd, Nat.reduceLeDiff, ↓reduceIte, if_true, if_false, Bool.false_eq_true, sum_ok]
    rw [add_tup (by simp [dI, s4, hd4]; omega), ← dI_append]
    rfl
end DM
end
section
set_option maxHeartbeats 1000000
namespace DM
open PySem PySem.Spec PyProof.Rows L2
section
variable {S : List D → AH → Res D} {T : D} {A : AH} {p n ia ib ic id : Int}
end
/-! ### what is told of the octets from a place on -/
end DM
end
section
set_option maxHeartbeats 1000000
namespace DM
open PySem PySem.Spec PyProof.Rows L2
section
variable {F G : List D → AH → Res D} {T U U' : D} {A : AH} {p n ia ib ic id : Int}
end
/-! ### frames told and read -/
end DM
end
section
set_option maxHeartbeats 1000000
namespace DM
open PySem PySem.Spec PyProof.Rows L2
/-- data of few and small parts -/
structure Few (k w : Nat) (d : PyData) : Prop where
  lay : d.canLay0 = true
  short : d.leavesShort 13 = true
  sh : d.showable = true
  dep : d.depth ≤ k
  wt : d.weight ≤ w
theorem Few.mono {k w k' w' : Nat} {d : PyData} (h : Few k w d) (hk : k ≤ k') (hw : w ≤ w') : Few k' w' d := ⟨h.lay, h.short, h.sh, Nat.le_trans h.dep hk, Nat.le_trans h.wt hw⟩
mutual
theorem eqv_self : ∀ d : PyData, d.canLay0 = true → PyData.eqv d d = true
  | .none, _ => rfl
  | .bool b, _ => by cases b <;> rfl
  | .int i, _ => by simp [PyData.eqv]
  | .str x, _ => by simp [PyData.eqv]
  | .list xs, h => by
    simp only [PyData.eqv]
    exact eqvAll_self xs (by simpa only [PyData.canLay0] using h)
  | .tuple xs, h => by
    simp only [PyData.eqv]
    exact eqvAll_self xs (by simpa only [PyData.canLay0] using h)
  | .dict kvs, h => by simp [PyData.canLay0] at h
theorem eqvAll_self : ∀ xs : List PyData, PyData.canLayAll0 xs = true → PyData.eqvAll xs xs = true
  | [], _ => rfl
  | x :: xs, h => by
    simp only [PyData.canLayAll0, Bool.and_eq_true] at h
    simp only [PyData.eqvAll, eqv_self x h.1, eqvAll_self xs h.2, Bool.and_self]
end
theorem Few.shaped {k w : Nat} {d : PyData} (h : Few k w d) (hk : k ≤ 64) : SeqAt.shaped d = true := by
  unfold SeqAt.shaped
  rw [h.lay, decide_eq_true (Nat.le_trans h.dep hk)]
  rfl
theorem toPyA_of {d : D} {q : PyData} {A : AH} (h : toPy d = some q) : toPyA A d = some q := by unfold toPyA; rw [h]
/-! ### octets and bodies -/
end DM
end
section
set_option maxHeartbeats 1000000
namespace DM
open PySem PySem.Spec PyProof.Rows L2
/-- data of small parts; B: how long a leaf is shown -/
structure FewB (B k w : Nat) (d : PyData) : Prop where
  lay : d.canLay0 = true
  short : d.leavesShort B = true
  sh : d.showable = true
  dep : d.depth ≤ k
  wt : d.weight ≤ w
theorem FewB.mono {B k w k' w' : Nat} {d : PyData} (h : FewB B k w d) (hk : k ≤ k') (hw : w ≤ w') : FewB B k' w' d := ⟨h.lay, h.short, h.sh, Nat.le_trans h.dep hk, Nat.le_trans h.wt hw⟩
theorem fewB_int {B : Nat} {i : Int} (hB : 20 ≤ B) (h : i.natAbs < 10 ^ 19) : FewB B 0 64 (.int i) := by
  have hl : i.natAbs.log2 < 64 := by
    by_cases h0 : i.natAbs = 0
    · rw [h0]; decide
    · exact (Nat.log2_lt h0).mpr (Nat.lt_trans h (by decide))
  refine ⟨rfl, ?_, ?_, Nat.le_refl _, ?_⟩
  · simp only [PyData.leavesShort]
    have e := int_text_length_le10 (k := 19) (by decide) h
    refine decide_eq_true ?_
    show (Str.ofString (toString i)).length ≤ B
    rw [PySem.ofString_length]
    omega
  · simp only [PyData.showable]
    exact decide_eq_true (by omega)
  · simp only [PyData.weight]
    split <;> omega
theorem fewB_all {B k w : Nat} : ∀ xs : List PyData, (∀ x ∈ xs, FewB B k w x) → PyData.canLayAll0 xs = true ∧ PyData.leavesShortAll B xs = true ∧ PyData.showableAll xs = true ∧ PyData.depthAll xs ≤ k ∧ PyData.weightAll xs ≤ xs.length * (w + 1)
  | [], _ => ⟨rfl, rfl, rfl, Nat.zero_le _, by simp [PyData.weightAll]⟩
  | x :: xs, h => by
    obtain ⟨a, b, c, d, e⟩ := fewB_all xs fun y hy => h y (List.mem_cons_of_mem _ hy)
    have f := h x List.mem_cons_self
    refine ⟨?_, ?_, ?_, ?_, ?_⟩
    · simp only [PyData.canLayAll0, f.lay, a, Bool.and_self]
    · simp only [PyData.leavesShortAll, f.short, b, Bool.and_self]
    · simp only [PyData.showableAll, f.sh, c, Bool.and_self]
    · simp only [PyData.depthAll]
      exact Nat.max_le.mpr ⟨f.dep, d⟩
    · simp only [PyData.weightAll, List.length_cons, Nat.add_mul, Nat.one_mul]
      have := f.wt
      omega
theorem fewB_tuple {B k w : Nat} {xs : List PyData} (h : ∀ x ∈ xs, FewB B k w x) : FewB B (k + 1) (xs.length * (w + 1)) (.tuple xs) := by
  obtain ⟨a, b, c, d, e⟩ := fewB_all xs h
  exact ⟨by simpa only [PyData.canLay0] using a, by simpa only [PyData.leavesShort] using b, by simpa only [PyData.showable] using c, by simp only [PyData.depth]; omega, by simpa only [PyData.weight] using e⟩
theorem FewB.shaped {B k w : Nat} {d : PyData} (h : FewB B k w d) (hk : k ≤ 64) : SeqAt.shaped d = true := by
  unfold SeqAt.shaped
  rw [h.lay, decide_eq_true (Nat.le_trans h.dep hk)]
  rfl
theorem repr_fewB {B : Nat} {d : D} {q : PyData} {k w : Nat} {A : AH} (h : toPyA A d = some q) (f : FewB B k w q) (hk : k ≤ 32) (hB : 8 ≤ B) (hw : (B + 2) * w + B ≤ 16777216) : fRepr [d] A = .ok (.str q.shown) A := by
  have hs := PyData.shown_le B hB q f.short
  have h2 : (B + 2) * q.weight ≤ (B + 2) * w := Nat.mul_le_mul_left _ f.wt
  unfold fRepr
  simp only [h]
  exact if_pos ⟨f.sh, by omega, Nat.le_trans f.dep hk⟩
theorem cut_from (xs : List D) (e : Nat) : DM.cutD xs (some (e : Int)) none = xs.drop e := by
  unfold DM.cutD
  rw [HT.sIx_nat, HT.sIx_none]
  rcases Nat.le_total e xs.length with h | h
  · rw [Nat.min_eq_left h, List.take_of_length_le (by rw [List.length_drop]; exact Nat.le_refl _)]
  · rw [Nat.min_eq_right h, List.drop_of_length_le (Nat.le_refl _), List.drop_of_length_le h]
    simp
theorem ev_aug {i : Nat} {f : D → D → AH → Res D} {me : ME} {ρ : DM.Env} {A : AH} : mAug i f me ρ A = (match ρ[i]? with
  | some (some x) => lift ((me ρ A).bind fun y A1 => f x y A1) ρ fun z A2 => .nx (ρ.set i (some z)) A2
  | _ => .no) := id rfl
end DM
end
section
set_option maxHeartbeats 1000000
namespace DM
open PySem PySem.Spec PyProof.Rows L2
/-! ### running rules: fields, methods, instances, dicts, lists that change, try -/
section
variable {ρ ρ1 : DM.Env} {A A1 A2 A3 : AH} {i j l n m k : Nat} {C f mname : Str} {d e x y : D} {xs ds es : List D} {fs : List (Str × D)} {kvs : List (Key × D)} {mf : List D → AH → Res D} {ma mb mc me mo mi mv : ME} {ms mk : MA} {sa sb : MS} {pm : List Nat} {key : Key}
theorem dput_run (hv : mv ρ A = .ok y A1) (ho : mo ρ A1 = .ok (.ref k) A2) (hi : mi ρ A2 = .ok e A3) (hk : A3[k]? = some (.dk kvs)) (he : keyOf e = some key) (hl : kvs.length < 16777216) : mDPut mv mo mi ρ A = .nx ρ (A3.set k (.dk (putKD kvs key y))) := by
  unfold mDPut
  rw [hv]
  simp only [lift_ok, ho, hi, hk, he, hl, if_true]
theorem dget_run (h0 : A[k]? = some (.dk kvs)) (hk : keyOf e = some key) (hv : valD kvs key = some x) : fDGet (.ref k) e A = .ok x A := by
  simp only [fDGet, h0, hk, hv]
theorem intsOf_map : ∀ ns : List Int, intsOf (ns.map D.int) = some ns
  | [] => rfl
  | k :: r => by
    rw [List.map_cons]
    unfold intsOf
    rw [intsOf_map r]
    rfl
theorem comp_nil {iv : ItV} {all acc : List D} {t : Tg} {tt : MT} (hit : itemsOf A iv = some all) : compGo iv all t tt me ρ [] acc A = .ok acc A := by
  unfold compGo; rw [if_pos hit]
theorem comp_step {iv : ItV} {all acc xs : List D} {t : Tg} {tt : MT} (hit : itemsOf A iv = some all) (hb : bindT t x ρ = some ρ1) (ht : tt ρ1 A = .ok true A1) (hm : me ρ1 A1 = .ok y A2) :
    compGo iv all t tt me ρ (x :: xs) acc A = compGo iv all t tt me ρ xs (acc ++ [y]) A2 := by
  conv => lhs; unfold compGo
  rw [if_pos hit, hb]
  simp only [ht, hm]
end
theorem add_ii {a b : Int} {A : AH} : fAdd (.int a) (.int b) A = .ok (.int (a + b)) A := rfl
theorem sub_ii {a b : Int} {A : AH} : fSub (.int a) (.int b) A = .ok (.int (a - b)) A := rfl
theorem lt_ii {a b : Int} {A : AH} : fLt (.int a) (.int b) A = .ok (.bl (decide (a < b))) A := rfl
theorem le_ii {a b : Int} {A : AH} : fLe (.int a) (.int b) A = .ok (.bl (decide (a ≤ b))) A := rfl
theorem ge_ii {a b : Int} {A : AH} : fGe (.int a) (.int b) A = .ok (.bl (decide (b ≤ a))) A := rfl
theorem div_ii {a b : Int} {A : AH} (h : CDiv a b) : fDiv (.int a) (.int b) A = .ok (.int (a / b)) A := by simp only [fDiv, fI, cdw_of h, if_true]
theorem eq_ii {a b : Int} {A : AH} : fEq false (.int a) (.int b) A = .ok (.bl (decide (a = b))) A := rfl
theorem ne_ii {a b : Int} {A : AH} : fEq true (.int a) (.int b) A = .ok (.bl (!decide (a = b))) A := rfl
/-! ### a dict by its keys -/
theorem valD_nil (k : Key) : valD [] k = none := rfl
theorem valD_cons {a : Key} {x : D} {kvs : List (Key × D)} {k : Key} : valD ((a, x) :: kvs) k = if a = k then some x else valD kvs k := by
  unfold valD
  rw [List.find?_cons]
  by_cases h : a = k
  · simp [h]
  · simp [h]
theorem valD_append {xs ys : List (Key × D)} {k : Key} : valD (xs ++ ys) k = (valD xs k).or (valD ys k) := by
  induction xs with
  | nil => simp [valD_nil]
  | cons p xs ih =>
    obtain ⟨a, x⟩ := p
    rw [List.cons_append, valD_cons, valD_cons, ih]
    split <;> simp
theorem any_valD {kvs : List (Key × D)} {k : Key} : (kvs.any fun kv => decide (kv.1 = k)) = (valD kvs k).isSome := (valD_any k kvs).symm
theorem valD_put {kvs : List (Key × D)} {a k : Key} {x : D} : valD (putKD kvs a x) k = if a = k then some x else valD kvs k := by
  unfold putKD
  split
  · rename_i h
    rw [any_valD] at h
    induction kvs with
    | nil => simp [valD_nil] at h
    | cons p kvs ih =>
      obtain ⟨b, y⟩ := p
      rw [valD_cons] at h
      rw [List.map_cons]
      by_cases e : b = a
      · rw [if_pos e, valD_cons, valD_cons]
        subst e
        split
        · rfl
        · rename_i n
          by_cases hz : (valD kvs b).isSome = true
          · rw [ih hz, if_neg n]
          · have : ∀ kv ∈ kvs, kv.1 ≠ b := fun kv hkv z => hz (by
              rw [← any_valD]
              exact List.any_eq_true.mpr ⟨kv, hkv, by simp [z]⟩)
            rw [show (kvs.map fun kv => if kv.1 = b then (kv.1, x) else kv) = kvs from (List.map_congr_left (g := fun kv => kv) fun kv hkv => if_neg (this kv hkv)).trans (List.map_id' kvs)]
      · rw [if_neg e] at h ⊢
        rw [valD_cons, valD_cons, ih h]
        by_cases hbk : b = k
        · have : ¬ a = k := fun z => e (hbk.trans z.symm)
          simp [hbk, this]
        · simp [hbk]
  · rename_i h
    rw [any_valD] at h
    have hn : valD kvs a = none := by simpa using h
    rw [valD_append, valD_cons, valD_nil]
    by_cases e : a = k
    · subst e
      simp [hn]
    · simp [e]
theorem putKD_len {kvs : List (Key × D)} {a : Key} {x : D} : (putKD kvs a x).length ≤ kvs.length + 1 := by
  unfold putKD
  split <;> simp
end DM
end
section
set_option maxHeartbeats 1000000
namespace DM
open PySem PySem.Spec PyProof.Rows L2
/-! ### a module's own dict with text keys that nobody changes -/
inductive TabE (P : Params) : List DictEntry → List (Str × Value) → Prop
  | nil : TabE P [] []
  | cons {e : DictEntry} {r : List DictEntry} {x : Str} {u : Value} {l : List (Str × Value)} (t : Tok) : e.key = .str x t → e.hash = PyData.keyHash P x → e.val = u → TabE P r l → TabE P (e :: r) ((x, u) :: l)
inductive TabD (K : PySem.W.Frag) : List (Str × Value) → List (Str × D) → Prop
  | nil : TabD K [] []
  | fn {x C : Str} {a : Addr} {l : List (Str × Value)} {t : List (Str × D)} : clsV K C = some (.ref a) → TabD K l t → TabD K ((x, .ref a) :: l) ((x, .cl C) :: t)
  | int {x : Str} {i : Int} {tk : Tok} {l : List (Str × Value)} {t : List (Str × D)} : TabD K l t → TabD K ((x, .int i tk) :: l) ((x, .int i) :: t)
  | str {x y : Str} {tk : Tok} {l : List (Str × Value)} {t : List (Str × D)} : TabD K l t → TabD K ((x, .str y tk) :: l) ((x, .str y) :: t)
structure TabC (K : PySem.W.Frag) (P : Params) (mg : Str → Option Value) (nm : Str) (tbl : List (Str × D)) : Prop where
  ex : ∃ (a : Addr) (es : Array DictEntry) (n : Nat) (l : List (Str × Value)), mg nm = some (.ref a) ∧ clsV K nm = some (.ref a) ∧ K.lookup a = some { cls := .type "dict", data := .dict es n } ∧ (a == sysModules) = false ∧ TabE P es.toList l ∧ TabD K l tbl
theorem TabE.noref {P : Params} : ∀ {es : List DictEntry} {l : List (Str × Value)}, TabE P es l → (es.any fun x => x.refKey) = false
  | _, _, .nil => rfl
  | _, _, .cons t a b c r => by
    rw [List.any_cons, r.noref, Bool.or_false]
    unfold DictEntry.refKey
    rw [a]
theorem TabE.find {P : Params} (z : Str) : ∀ {es : List DictEntry} {l : List (Str × Value)}, TabE P es l → (match es.find? (fun x => x.key.isStr z) with | some e => some e.val | none => none) = l.lookup z
  | _, _, .nil => rfl
  | _, _, .cons (e := e) (x := x) (u := u) (l := l) t a b c r => by
    have ih := r.find z
    rw [List.find?_cons, List.lookup_cons, a]
    show (match (match (x == z) with | true => some e | false => _) with | some e => some e.val | none => none) = (match z == x with | true => some u | false => _)
    by_cases h : x = z
    · subst h
      rw [beq_self_eq_true]
      exact congrArg some c
    · rw [beq_eq_false_iff_ne.mpr h, beq_eq_false_iff_ne.mpr (Ne.symm h)]
      exact ih
theorem TabE.ns {P : Params} {K : PySem.W.Frag} {a : Addr} {es : Array DictEntry} {n : Nat} {l : List (Str × Value)} (h : K.lookup a = some { cls := .type "dict", data := .dict es n }) (T : TabE P es.toList l) (z : Str) : PySem.W.nsIn K a z = some (l.lookup z) := by
  unfold PySem.W.nsIn
  rw [h]
  have f := T.find z
  show (match es.toList.find? (fun x => x.key.isStr z) with | some e => some (some e.val) | none => if (es.toList.any fun x => x.refKey) = true then none else some none) = _
  rw [T.noref]
  cases hf : es.toList.find? (fun x => x.key.isStr z) with
  | none => rw [hf] at f; rw [← f]; rfl
  | some e => rw [hf] at f; rw [← f]
theorem TabD.at {K : PySem.W.Frag} {z : Str} : ∀ {l : List (Str × Value)} {t : List (Str × D)}, TabD K l t → (l.lookup z).isSome = (t.lookup z).isSome ∧ ∀ d, t.lookup z = some d → ∃ u v, l.lookup z = some u ∧ RelV v u ∧ ∀ m H, RD K m H d v
  | _, _, .nil => ⟨rfl, fun _ h => by cases h⟩
  | _, _, .fn (x := x) (a := a) h r => by
    rw [List.lookup_cons, List.lookup_cons]
    cases z == x with
    | true => exact ⟨rfl, fun d e => by cases e; exact ⟨_, .ref a, rfl, rfl, fun _ _ => .cl h⟩⟩
    | false => exact r.at
  | _, _, .int (x := x) (i := i) (tk := tk) r => by
    rw [List.lookup_cons, List.lookup_cons]
    cases z == x with
    | true => exact ⟨rfl, fun d e => by cases e; exact ⟨_, .int i, rfl, ⟨tk, rfl⟩, fun _ _ => .int i⟩⟩
    | false => exact r.at
  | _, _, .str (x := x) (y := y) (tk := tk) r => by
    rw [List.lookup_cons, List.lookup_cons]
    cases z == x with
    | true => exact ⟨rfl, fun d e => by cases e; exact ⟨_, .str y, rfl, ⟨tk, rfl⟩, fun _ _ => .str y⟩⟩
    | false => exact r.at
section
variable {X : Cx} {W : WX} {a b c e : Expr} {es : List Expr} {ma mb me : ME} {ms : MA} {pos p p2 : Pos} {nm : Str} {tbl : List (Str × D)}
/-! ### a local that is one of some defs -/
abbrev FnL := List (Str × (List D → AH → Res D))
inductive CalL (X : Cx) (n : Nat) : FnL → Prop
  | nil : CalL X n []
  | cons {z : Str} {f : Addr} {fd : FuncData} {k : Nat} {ps : List Str} {g : List D → AH → Res D} {l : FnL} : clsV X.K z = some (.ref f) → FnD X.prog X.w X.K X.mg X.base k f fd ps g → Room k X.A → PySem.W.keepIn X.K (.ref f) = true → Binds X.K fd ps [] → ps.length = n → CalL X n l → CalL X n ((z, g) :: l)
theorem CalL.at {n : Nat} {z : Str} {g : List D → AH → Res D} : ∀ {l : FnL}, CalL X n l → l.lookup z = some g → ∃ f fd k ps, clsV X.K z = some (.ref f) ∧ FnD X.prog X.w X.K X.mg X.base k f fd ps g ∧ Room k X.A ∧ PySem.W.keepIn X.K (.ref f) = true ∧ Binds X.K fd ps [] ∧ ps.length = n
  | _, .nil, h => by cases h
  | _, .cons (z := z') h1 h2 h3 h4 h5 h6 r, h => by
    rw [List.lookup_cons] at h
    by_cases e : z = z'
    · subst e
      rw [beq_self_eq_true] at h
      cases h
      exact ⟨_, _, _, _, h1, h2, h3, h4, h5, h6⟩
    · rw [beq_eq_false_iff_ne.mpr e] at h
      exact r.at h
end
end DM
end
section
set_option maxHeartbeats 2000000
namespace DM
open PySem PySem.Spec PyProof.Rows L2
section
variable {X : Cx} {W : WX} {a b c e e2 o tg : Expr} {es elts : List Expr} {ma mb mc me mv mo : ME} {mt mu : MT} {ms : MA} {pos pos' p p2 p3 tpos apos cpos : Pos} {kk : Nat} {C f : Str} {ca : Addr}
/-! ### xs.index(x), data of any depth -/
/-! ### a < b of whole numbers and of texts -/
end
end DM
end
section
set_option maxHeartbeats 1000000
namespace DM
open PySem PySem.Spec PyProof.Rows L2
/-! ### a module's own tuple, of tuples, whole numbers, texts -/
mutual
inductive ConD (K : PySem.W.Frag) : D → V → Prop
  | non : ConD K .non .non
  | int (i : Int) : ConD K (.int i) (.int i)
  | str (x : Str) : ConD K (.str x) (.str x)
  | tup {a : Addr} {o : Obj} {its : Array Value} {n : Nat} {vs : List V} {ds : List D} : K.lookup a = some o → o.cls = .type "tuple" → o.dict = none → o.data = .seq its n → its.size ≤ sizeLine → Vals vs its.toList → ConDs K ds vs → ConD K (.tup ds) (.ref a)
inductive ConDs (K : PySem.W.Frag) : List D → List V → Prop
  | nil : ConDs K [] []
  | cons {d : D} {v : V} {ds : List D} {vs : List V} : ConD K d v → ConDs K ds vs → ConDs K (d :: ds) (v :: vs)
end
section
variable {K : PySem.W.Frag}
mutual
theorem ConD.rd : ∀ {d : D} {v : V}, ConD K d v → ∀ (m : Mp) (H : Hp), RD K m H d v
  | _, _, .non, m, H => .non
  | _, _, .int i, m, H => .int i
  | _, _, .str x, m, H => .str x
  | _, _, .tup h1 h2 h3 h4 h5 h6 h7, m, H => .tup (.inr ⟨_, _, _, h1, h2, h3, h4, h5, h6⟩) (ConDs.rd h7 m H)
theorem ConDs.rd : ∀ {ds : List D} {vs : List V}, ConDs K ds vs → ∀ (m : Mp) (H : Hp), RDs K m H ds vs
  | _, _, .nil, m, H => .nil
  | _, _, .cons h1 h2, m, H => .cons (ConD.rd h1 m H) (ConDs.rd h2 m H)
end
structure ConC (K : PySem.W.Frag) (mg : Str → Option Value) (nm : Str) (d : D) : Prop where
  ex : ∃ (v : V) (u : Value), mg nm = some u ∧ RelV v u ∧ ConD K d v
end
section
variable {X : Cx} {W : WX} {nm : Str} {d : D} {pos : Pos}
end
end DM
end
section
set_option maxHeartbeats 1000000
namespace DM
open PySem PySem.Spec PyProof.Rows L2
section
variable {X : Cx} {W : WX} {o i : Expr} {mo mi : ME} {pos tpos : Pos}
/-! ### del d[k], d a dict of whole numbers or texts -/
/-! ### d.pop(k, x) -/
/-! ### str(i) -/
def fStrI : List D → AH → Res D := fun ds A => match ds with
  | [.int i] => if i.natAbs.log2 < 1920 then .ok (.str (toString i)) A else .no
  | _ => .no
theorem fStrI_ok {K : PySem.W.Frag} : CallD K fStrI (fun xs H Q => ∃ i, xs = [.int i] ∧ i.natAbs.log2 < 1920 ∧ Q (.str (toString i)) H) := by
  intro W σ m A H xs ds Q R hx h
  unfold fStrI at h
  split at h
  · obtain ⟨v, rfl, r⟩ := hx.one
    cases r
    split at h
    · rename_i hi
      exact ⟨_, rfl, hi, Post.here R (.str _) h⟩
    · exact h.elim
  · exact h.elim
theorem d_strf {e : Expr} {ms : MA} {p : Pos} (hm : X.mg "str" = none) (ha : DA X W [e] ms) (hg : Gl X "str" := by rfl) (he : starEach [e] X.env = (false, eval e X.env) :: starEach [] X.env := by rfl) (hpl : (backTo pos (starEach [] X.env)).any (·.1) = false := by rfl) :
    DE X W (.Call (.Name "str" p) [e] [] pos) (mCall fStrI ms) := d_callTy call_str_int fStrI_ok hg hm (by decide +kernel) ha (by decide) (by decide) he hpl
end
end DM
end
section
set_option maxHeartbeats 2000000
namespace DM
open PySem PySem.Spec PyProof.Rows L2 LamX NdefX
/-! ### a lambda that captures nothing, as a value -/
theorem lamO_at {P : Program} {w : World} {H : Hp} {h : Heap} {f c : Addr} {F : LF} (hok : HOk P w H h) (e : H f = some (LamO f c F)) : ∃ (pm ctv : Value), h.get? f = some (PySem.W.kla_obj "<lambda>" F.qual F.params F.body F.scope [] pm c ctv) := by
  obtain ⟨z, _, _⟩ := hok f _ e
  exact z
section
variable {X : Cx} {pins : List (Addr × Obj)} {σ : L2.St} {H : Hp} {s : Shared} {m : Mp} {A : AH}
end
open Classical in
noncomputable def mLamV (n : Nat) (P : Addr) (F : LF) : ME := fun _ A => match A[n]? with
  | some (.tab P' q') => if P' = P ∧ q' = F.qual then .ok (.fno F) A else .no
  | _ => .no
/-! ### its promise -/
structure LmD (P : Program) (w : World) (K : PySem.W.Frag) (mg : Str → Option Value) (base : Heap) (k : Nat) (F : LF) (n : Nat) (g : List D → AH → Res D) : Prop where
  run : ∀ (A : Around) (outer : List PySem.Env) (s : Shared) (H : Hp) (f c : Addr) (us : List Value) (vs : List V) (Q : VK) (E : XK), Room k A → A.guards = some [] → Env0 P w K mg base A outer s H → H f = some (LamO f c F) → H c = some (CodeO c F.qual) → Vals vs us →
    spD K n g vs H Q E → codeAny (model P w) A (.call (.ref f) ⟨us, []⟩) (CR (L2.CX P w) outer P w H s Q E) s
def mLb (me : ME) : List D → AH → Res D := fun ds A => me (ds.map some) A
section
variable {P : Program} {w : World} {K : PySem.W.Frag} {mg : Str → Option Value} {base : Heap} {F : LF} {ps : List Str} {k : Nat} {me : ME}
theorem LmD.of (S : NScope ps ps [] F.scope) (hb : ∀ (pm cv ctv : Value) (us : List Value), us.length = ps.length → bindArgs (PySem.W.kla_fn "<lambda>" F.qual F.params F.body F.scope [] pm cv ctv) ⟨us, []⟩ = pure (ps.zip us))
    (hbody : ∀ (A : Around) (outer : List PySem.Env) (s : Shared) (H : Hp) (E : XK) (f c : Addr), Room k (A.deeper (envF (F.nf c) f s.heap.objs.size)) → (A.deeper (envF (F.nf c) f s.heap.objs.size)).guards = some [] → Takes (ncx (L2.CX P w) P w K mg base ps (F.nf c) f A outer s H E) (fun c d _ H' => E c d H') →
      DE (ncx (L2.CX P w) P w K mg base ps (F.nf c) f A outer s H E) (fun c d _ H' => E c d H') F.body me) {n : Nat} (hn : ps.length = n := by rfl) : LmD P w K mg base (k + 1) F n (mLb me) := by
  subst hn
  refine ⟨fun A outer s H f c us vs Q E hr gd e0 hf hc r hsp => ?_⟩
  obtain ⟨hl, m, AA, ds, R, rds, post⟩ := hsp
  have lim : s.heap.NoLimit := e0.mod.nolimit.keeps fun b o e => (e0.bs b o e).1
  obtain ⟨pm, ctv, ho⟩ := lamO_at e0.hok hf
  refine PySem.W.kla_callFunE hr.depth ho rfl S.co S.gen rfl (codeO_at e0.hok hc) ?_
  rw [hb pm _ ctv us (by rw [← r.length]; exact hl)]
  refine wpAny_pure (wpAny_newFunctionEnv S.nocell (fun ⟨n, _⟩ hy => S.par n (List.of_mem_zip hy).1) (fun h₁ hns hsb => ⟨lim.fresh _ hsb, ?_⟩) S.kind)
  show codeAny _ _ (.expr F.body (envF (F.nf c) f s.heap.objs.size)) _ _
  have kp : ∀ b o, s.heap.get? b = some o → h₁.get? b = some o := fun b o e => hsb.extBut b o (Nat.ne_of_lt (Heap.lt_size e)) (Heap.get?_push_of_some _ e)
  have C : CellsAt (F.nf c).cl [] [] s.heap H := ⟨rfl, fun y c e => (nomatch e), fun x y c e => (nomatch e), fun i y e => (nomatch e)⟩
  have I : Inv (ncx (L2.CX P w) P w K mg base ps (F.nf c) f A outer s H E) [] (startF ps vs []) H { s with heap := h₁, toks := s.toks + (ps.zip us).length } := inv_startN S hr.hd e0 hl r C hns kp
  have body := hbody A outer s H E f c (hr.deeper _) gd (takes_of rfl rfl rfl rfl)
  have es : startF ps vs [] = vs.map some := by
    unfold startF
    rw [hl, Nat.sub_self]
    simp
  have want : tE K (fun c d _ H' => E c d H') me (startF ps vs []) H Q := by
    refine ⟨m, AA, ds.map some, R, ?_, ?_⟩
    · have q := start_rel (N := ps) rds
      have e1 : L2.start ps vs = vs.map some := by
        unfold L2.start
        rw [hl, Nat.sub_self]
        simp
      rw [e1, rds.length, hl, Nat.sub_self] at q
      rw [es]
      simpa using q
    · unfold mLb at post
      cases hr2 : me (ds.map some) AA with
      | ok d A1 => rw [hr2] at post; exact post
      | exc C fs A1 => rw [hr2] at post; exact post
      | no => rw [hr2] at post; exact post
  refine PySem.W.kla_codeExpr (wpAny_mono (body.run [] _ _ H Q I want) (fun v s' hq => ?_) fun e s' hq => hq)
  obtain ⟨w', H', J', rv, q⟩ := hq
  exact ⟨w', H', J'.os, J'.bare, J'.base, J'.hok, rv, q⟩
theorem LmD.up {j n : Nat} {g : List D → AH → Res D} (L : LmD P w K mg base j F n g) (h : j ≤ k) : LmD P w K mg base k F n g := ⟨fun A outer s H f c us vs Q E hr => L.run A outer s H f c us vs Q E (hr.mono h)⟩
end
/-! ### a local that is one of some lambdas -/
abbrev LmT := List (LF × (List D → AH → Res D))
open Classical in
noncomputable def lookF : LmT → LF → Option (List D → AH → Res D)
  | [], _ => none
  | (G, g) :: l, F => if F = G then some g else lookF l F
theorem lookF_hit {F : LF} {g : List D → AH → Res D} {l : LmT} : lookF ((F, g) :: l) F = some g := if_pos rfl
inductive LmL (X : Cx) (n : Nat) : LmT → Prop
  | nil : LmL X n []
  | cons {F : LF} {k : Nat} {g : List D → AH → Res D} {l : LmT} : LmD X.prog X.w X.K X.mg X.base k F n g → Room k X.A → LmL X n l → LmL X n ((F, g) :: l)
theorem LmL.at {X : Cx} {n : Nat} {F : LF} {g : List D → AH → Res D} : ∀ {l : LmT}, LmL X n l → lookF l F = some g → ∃ k, LmD X.prog X.w X.K X.mg X.base k F n g ∧ Room k X.A
  | _, .nil, h => by cases h
  | _, .cons (F := G) h1 h2 r, h => by
    by_cases e : F = G
    · subst e
      rw [lookF_hit] at h
      cases h
      exact ⟨_, h1, h2⟩
    · unfold lookF at h
      rw [if_neg e] at h
      exact r.at h
section
variable {X : Cx} {W : WX} {e : Expr} {es : List Expr} {ms : MA} {p pos : Pos}
/-! ### a def's name as a value -/
end
/-- a def of which nothing is told -/
theorem FnD.none {P : Program} {w : World} {K : PySem.W.Frag} {mg : Str → Option Value} {base : Heap} {k : Nat} {f : Addr} {fd : FuncData} {ps : List Str} : FnD P w K mg base k f fd ps (fun _ _ => .no) :=
  ⟨fun A outer s H args us vs Q E hr gd en bi rel hsp => by
    obtain ⟨_, m, A1, ds, R, r, h⟩ := hsp
    exact h.elim⟩
/-! ### where a lambda stands in the text -/
end DM
end
section
set_option maxHeartbeats 2000000
/-! ### sorted of tuples of ints of any lengths -/
namespace SrtO
open PySem PyProof.Rows TS
section
variable {prog : Program} {w : World} {A : Around} {E : Value → Shared → Prop} {s : Shared} {Q : Bool → Shared → Prop}
end
end SrtO
namespace DM
open PySem PySem.Spec PyProof.Rows L2 SrtO
section
variable {X : Cx}
end
/-! ### as a mirror -/
section
variable {X : Cx} {W : WX} {e : Expr} {ms : MA} {p pos : Pos}
end
end DM
end
section
set_option maxHeartbeats 2000000
namespace DM
open PySem PySem.Spec PyProof.Rows L2
/-! ### enumerate(text) -/
section
variable {X : Cx} {W : WX} {e : Expr} {ms : MA} {p pos : Pos}
/-! ### text > text -/
/-! ### what is not a bool, as a test -/
/-! ### a if c else b, as a test -/
/-! ### a sign in a text -/
end
end DM
end
section
set_option maxHeartbeats 2000000
namespace DM
open PySem PySem.Spec PyProof.Rows L2
/-! ### text[lo:hi] -/
section
variable {X : Cx} {W : WX} {e : Expr} {me : ME} {pos p2 : Pos}
def fSlX : D → Option Int → Option Int → AH → Res D := fun d lo hi A => match d with
  | .str z => if z.length ≤ 16777216 then .ok (.str (cutS z lo hi)) A else .no
  | _ => .no
def mSlX (me : ME) (ml mh : MO) : ME := fun ρ A => (me ρ A).bind fun d A1 => (ml ρ A1).bind fun lo A2 => (mh ρ A2).bind fun hi A3 => fSlX d lo hi A3
theorem d_slx {lo hi : Option Expr} {ml mh : MO} (he : DE X W e me) (hl : DO X W lo ml) (hh : DO X W hi mh) : DE X W (.Subscript e (.Slice lo hi none p2) pos) (mSlX me ml mh) :=
  PEi (pe_slice sl_str he hl.go hh.go) fun σ H Q ⟨m, A, ρ, R, E, h⟩ => tE.bind R E h fun m1 A1 d v H1 e1 R1 E1 r1 h1 => tO.bind R1 E1 h1 fun m2 A2 l H2 e2 R2 E2 h2 => tO.bind R2 E2 h2 fun m3 A3 u H3 e3 R3 E3 h3 => by
    have r3 := RD.mono (e2.trans e3) _ _ r1
    unfold fSlX at h3
    split at h3
    · rename_i z
      cases r3
      split at h3
      · rename_i hz
        exact ⟨z, rfl, hz, Post.here R3 (.str _) h3⟩
      · exact h3.elim
    · exact h3.elim
end
end DM
end
section
set_option maxHeartbeats 2000000
namespace DM
open PySem PySem.Spec PyProof.Rows L2 PySem.W
/-! ### a < b of data -/
def isNoneP : PyData → Bool
  | .none => true
  | _ => false
theorem isNoneP_no {p : PyData} (h : isNoneP p = false) : p ≠ .none := fun z => by rw [z] at h; cases h
def fLtD : D → D → AH → Res D := fun d e A => match toPyA A d, toPyA A e with
  | some p, some q => if alike p q = true ∧ isNoneP p = false ∧ p.depth ≤ 32 then .ok (.bl (dataLt p q)) A else .no
  | _, _ => .no
def rLtD (K : PySem.W.Frag) : R2 := fun x y H Q => ∃ p q, Dp K H x p ∧ Dp K H y q ∧ alike p q = true ∧ p ≠ .none ∧ p.depth ≤ 32 ∧ Q (.bl (dataLt p q)) H
theorem op_ltD {X : Cx} (hu : X.A.units + 64 < cLine) : OpR X (compareOp .Lt) (rLtD X.K) := by
  intro pins s σ H x y v u Q I rx ry h
  obtain ⟨p, q, hp, hq, ha, hn, hd, hQ⟩ := h
  obtain ⟨as, r1⟩ := Dp.reads I p x v hp rx
  obtain ⟨bs, r2⟩ := Dp.reads I q y u hq ry
  refine lt_data r1 r2 ha hn ?_ (fin_bl I hQ rfl)
  have : min p.depth q.depth ≤ p.depth := Nat.min_le_left _ _
  omega
theorem fLtD_ok {K : PySem.W.Frag} : OpD K fLtD (rLtD K) := by
  intro W σ m A H x y d e Q R hx hy h
  unfold fLtD at h
  split at h
  · rename_i p q hp hq
    split at h
    · rename_i hz
      exact ⟨p, q, RD.dpA R hx hp, RD.dpA R hy hq, hz.1, isNoneP_no hz.2.1, hz.2.2, Post.here R (.bl _) h⟩
    · exact h.elim
  · exact h.elim
/-! ### min of a list of data -/
def alikes (ps : List PyData) : Bool := ps.all fun p => !isNoneP p && ps.all fun q => alike p q
theorem alikes_ok {ps : List PyData} (h : alikes ps = true) : AlikeAll ps := by
  unfold alikes at h
  rw [List.all_eq_true] at h
  refine ⟨fun x hx y hy => ?_, fun x hx => ?_⟩
  · have := h x hx
    rw [Bool.and_eq_true, List.all_eq_true] at this
    exact this.2 y hy
  · have := h x hx
    rw [Bool.and_eq_true] at this
    exact isNoneP_no (by simpa using this.1)
def ltAt (ps : List PyData) (i j : Nat) : Bool := dataLt (ps.getD i .none) (ps.getD j .none)
def fMinD : List D → AH → Res D := fun ds A => match ds with
  | [d] => if isTup d = true then .no else match seqOf A d with
    | some xs => match toPys xs with
      | some ps => if alikes ps = true ∧ PyData.depthAll ps ≤ 32 then (match xs[argBest (ltAt ps) (xs.length - 1)]? with
        | some x => .ok x A
        | none => .no) else .no
      | none => .no
    | none => .no
  | _ => .no
def rMinD (K : PySem.W.Frag) : List V → Hp → VK → Prop := fun vs H Q => ∃ (a : Addr) (xs : List V) (ps : List PyData) (x : V), vs = [V.ref a] ∧ SqL K H a xs ∧ DpAll K H xs ps ∧ AlikeAll ps ∧ PyData.depthAll ps ≤ 32 ∧ xs[argBest (ltAt ps) (xs.length - 1)]? = some x ∧ Q x H
section
variable {prog : Program} {w : World} {A : Around} {E : Value → Shared → Prop} {s : Shared}
theorem min_list_at {l : Addr} {vs : Array Value} {ps : List PyData} {as : List Addr} {Q : Value → Shared → Prop} (hh : A.handled = none) (hl : s.heap.IsList l vs) (h0 : 0 < vs.size) (hr : ReadsAll s.heap vs.toList ps as) (ha : AlikeAll ps) (hu : A.units + 1 + PyData.depthAll ps < cLine)
    (h : ∀ v h' tk, vs[argBest (ltAt ps) (vs.size - 1)]? = some v → (∀ b o, s.heap.get? b = some o → h'.get? b = some o) → Q v { s with heap := h', toks := tk }) :
    wpAny (model prog w) A (call (.builtin "min") [.ref l]) Q E s := by
  refine call_min_walkH (iter_listW (A := A.in1) hh hl fun s₂ e W st hfp hw hk => ?_)
  refine ⟨_, _, _, _, _, _, _, s.heap, _, rfl, W, st, hfp, h0, hw, hk, cmpIn_lt (A := A.in1) hr ha (by show A.units + 1 + _ < _; exact hu), fun v s' hP m => ?_⟩
  obtain ⟨h', tk, rfl, hk'⟩ := moved_old e rfl m
  exact h v h' tk hP hk'
end
theorem cr_minD {X : Cx} (hc : X.calm = true) (hu : X.A.units + 64 < cLine) : CallR X (.builtin "min") (rMinD X.K) := by
  intro pins s σ H vs us Q I r h
  obtain ⟨a, xs, ps, x, rfl, hs, hp, hal, hd, hx, q⟩ := h
  obtain ⟨its, rv, hl, _⟩ := I.list hs
  rw [Vals.ref1 r]
  obtain ⟨as, hr⟩ := Dp.readsAll I ps xs its hp rv
  have hlen : its.length = xs.length := rv.length.symm
  refine min_list_at (I.ok.hd hc) hl.isList (by
    have := (List.getElem?_eq_some_iff.mp hx).1
    rw [List.size_toArray]
    omega) (by simpa using hr) hal (by omega) fun v h' tk hv hk => ?_
  rw [List.size_toArray, hlen, List.getElem?_toArray] at hv
  obtain ⟨u, hu2, rel⟩ := rv.get hx
  rw [hv] at hu2
  cases hu2
  exact ⟨x, H, I.kept hk, rel, q⟩
theorem fMinD_ok {K : PySem.W.Frag} : CallD K fMinD (rMinD K) := by
  intro W σ m A H xs ds Q R hx h
  unfold fMinD at h
  split at h
  rotate_left
  · exact h.elim
  obtain ⟨v, rfl, r⟩ := hx.one
  split at h
  · exact h.elim
  rename_i d ht
  split at h
  rotate_left
  · exact h.elim
  rename_i ys hs
  split at h
  rotate_left
  · exact h.elim
  rename_i ps hps
  split at h
  rotate_left
  · exact h.elim
  rename_i hz
  split at h
  rotate_left
  · exact h.elim
  rename_i y hy
  obtain ⟨a, us, rfl, rs, z⟩ := seqOf_is R r hs
  have hL : SqL K H a us := by
    rcases z with ⟨rfl, _⟩ | ⟨_, z⟩
    · exact absurd rfl ht
    · exact z
  obtain ⟨u, hu, ru⟩ := rs.get hy
  refine ⟨a, us, ps, u, rfl, hL, RDs.dp _ _ _ rs hps, alikes_ok hz.1, hz.2, ?_, Post.here R ru h⟩
  rw [← rs.length]
  exact hu
section
variable {X : Cx} {W : WX} {a b e : Expr} {ma mb : ME} {ms : MA} {pos p : Pos}
theorem t_ltD (hu : X.A.units + 64 < cLine) (ha : DE X W a ma) (hb : DE X W b mb) (hm : behindInMarks .Lt b = false := by first | exact nomark _ | rfl) : DT X W (.Compare a [.Lt] [b] pos) (mTst (mOp fLtD ma mb)) := t_cmp (op_ltD hu) fLtD_ok ha hb hm
theorem d_minD (hc : X.calm = true) (hu : X.A.units + 64 < cLine) (hm : X.mg "min" = none) (ha : DA X W [e] ms) (hg : Gl X "min" := by rfl) (he : starEach [e] X.env = (false, eval e X.env) :: starEach [] X.env := by rfl) (hpl : (backTo pos (starEach [] X.env)).any (·.1) = false := by rfl) :
    DE X W (.Call (.Name "min" p) [e] [] pos) (mCall fMinD ms) := d_callB (cr_minD hc hu) fMinD_ok hg hm (by decide +kernel) ha (by decide) (by decide) he hpl
/-! ### text * int, int | int -/
theorem rep_size : ∀ (k : Nat) (c a : Array Nat), ((List.replicate k c).foldl (· ++ ·) a).size = a.size + k * c.size
  | 0, c, a => by simp
  | k + 1, c, a => by
    rw [List.replicate_succ, List.foldl_cons, rep_size k, Array.size_append, Nat.add_mul]
    omega
def fMulS : D → D → AH → Res D := fun d e A => match d, e with
  | .str x, .int n => if 1 < n ∧ n ≤ 64 ∧ 0 < x.length ∧ x.length ≤ 1000 then .ok (.str ⟨(List.replicate n.toNat x.cps).foldl (· ++ ·) #[]⟩) A else .no
  | _, _ => .no
theorem op_mulS : OpR X (binaryOp .Mult) (fun x y H Q => ∃ (z : Str) (n : Int), x = .str z ∧ y = .int n ∧ 1 < n ∧ n ≤ 64 ∧ 0 < z.length ∧ z.length ≤ 1000 ∧ Q (.str ⟨(List.replicate n.toNat z.cps).foldl (· ++ ·) #[]⟩) H) := by
  intro pins s σ H x y v u Q I rx ry h
  obtain ⟨z, n, rfl, rfl, h1, h2, h3, h4, q⟩ := h
  obtain ⟨t, rfl⟩ := rx
  obtain ⟨t', rfl⟩ := ry
  have hb : (n == 1 || z.length == 0) = false := by
    rw [Bool.or_eq_false_iff]
    exact ⟨beq_eq_false_iff_ne.mpr (by omega), beq_eq_false_iff_ne.mpr (by omega)⟩
  refine PySem.P.mul_str ?_ (fun _ _ => ?_) (fun _ _ => ?_) ?_
  · rw [decide_eq_false (show ¬ n < -(2 ^ 63 : Int) by omega), decide_eq_false (show ¬ n ≥ 2 ^ 63 by omega)]
    rfl
  · have hm : (z.length : Int) * n ≤ 1000 * 64 := Int.mul_le_mul (by omega) h2 (by omega) (by decide)
    have := Int.le_ediv_of_mul_le (a := (z.length : Int)) (b := 2 ^ 63 - 1) (c := n) (by omega) (by omega)
    omega
  · have hm : z.length * n.toNat ≤ 1000 * 64 := Nat.mul_le_mul h4 (by omega)
    unfold Builtin.Str.tooLong
    exact decide_eq_false (by rw [sizeLine_eq]; omega)
  · rw [if_neg (by omega), if_neg (by rw [hb]; decide)]
    refine ⟨?_, .str _, H, I.tok _, ⟨_, rfl⟩, q⟩
    show ((List.replicate n.toNat z.cps).foldl (· ++ ·) #[]).size ≤ sizeLine
    rw [rep_size, sizeLine_eq]
    have hm : n.toNat * z.cps.size ≤ 64 * 1000 := Nat.mul_le_mul (by omega) h4
    simp only [List.size_toArray, List.length_nil]
    omega
theorem fMulS_ok {K : PySem.W.Frag} : OpD K fMulS (fun x y H Q => ∃ (z : Str) (n : Int), x = .str z ∧ y = .int n ∧ 1 < n ∧ n ≤ 64 ∧ 0 < z.length ∧ z.length ≤ 1000 ∧ Q (.str ⟨(List.replicate n.toNat z.cps).foldl (· ++ ·) #[]⟩) H) := by
  intro W σ m A H x y d e Q R hx hy h
  unfold fMulS at h
  split at h
  · cases hx; cases hy
    split at h
    · rename_i hz
      exact ⟨_, _, rfl, rfl, hz.1, hz.2.1, hz.2.2.1, hz.2.2.2, Post.here R (.str _) h⟩
    · exact h.elim
  · exact h.elim
theorem d_mulS (ha : DE X W a ma) (hb : DE X W b mb) : DE X W (.BinOp a .Mult b pos) (mOp fMulS ma mb) := d_op op_mulS fMulS_ok ha hb
def fOr : D → D → AH → Res D := fI0 fun i j => .int (Builtin.bitOr i j)
theorem d_or (ha : DE X W a ma) (hb : DE X W b mb) : DE X W (.BinOp a .BitOr b pos) (mOp fOr ma mb) := d_op op_or (fI0_ok fun _ _ _ _ => .int _) ha hb
end
end DM
end
section
set_option maxHeartbeats 2000000
namespace DM
open PySem PySem.Spec PyProof.Rows L2 PySem.W
/-! ### name = {k: v for ..} on one line, the name a local -/
section
variable {X : Cx} {W : WX} {tg iter kx vx : Expr} {ifs : List Expr} {tt : MT} {mk mv : ME} {mi : MI} {pos : Pos} {t : Tg}
theorem ps_setDc {i : Nat} {y : Str} {py : Pos} {scope : Scope} {own : List (Str × Nat)} {spos : Pos} {wi : TI} {g : TG} {tt : TT} {tk tv : TE} (hc : X.calm = true) (hN : X.N.Nodup) (hy : X.N[i]? = some y) (hyl : X.env.scope.names.lookup y = some .local)
    (hsw : swapsWith (.DictComp kx vx [⟨tg, iter, ifs, 0⟩] scope pos) (some (.Name y py)) spos.line X.env = pure true) (hi : PI X tg iter wi) (ok : BlkOk X.N X.env.scope scope own)
    (hg : ∀ (s : Shared) (H : Hp) (C : Addr) (cl : List (Str × Addr)) (fp : List Addr), PG (X.blk s H scope (compEnvC scope cl C X.env) fp) tg g) (ht : ∀ (s : Shared) (H : Hp) (C : Addr) (cl : List (Str × Addr)) (fp : List Addr), PTs (X.blk s H scope (compEnvC scope cl C X.env) fp) ifs tt)
    (hk : ∀ (s : Shared) (H : Hp) (C : Addr) (cl : List (Str × Addr)) (fp : List Addr), PE (X.blk s H scope (compEnvC scope cl C X.env) fp) kx tk)
    (he : ∀ (s : Shared) (H : Hp) (C : Addr) (cl : List (Str × Addr)) (fp : List Addr), PE (X.blk s H scope (compEnvC scope cl C X.env) fp) vx tv) (hs : ∀ x, foldedSetIterable iter X.env x = pure x := by intro _; rfl) :
    PS X (.Assign [.Name y py] (.DictComp kx vx [⟨tg, iter, ifs, 0⟩] scope pos) spos) (tAsg (tDc wi g tt tk tv (own.map (·.2))) (gName i)) := by
  refine ⟨fun pins s σ H D I h => ?_⟩
  rw [exec_Assign_Name_used _ _ _ _ hsw]
  refine wpAny_bind (wpAny_standAt (wpAny_bind ?_))
  show wpAny _ X.A (do let _ ← comprehension (.DictComp kx vx [⟨tg, iter, ifs, 0⟩] scope pos) scope X.env (firstIterPos [⟨tg, iter, ifs, 0⟩] pos) newDict false (eval iter X.env) (some (assign (.Name y py) X.env))) _ _ s
  have h : tDc wi g tt tk tv (own.map (·.2)) σ H (fun x H1 => gName i x σ H1 D.nx) := h
  refine wpAny_bind (thn (dc_core (Qf := fun _ s' => SP X pins D .next s') hc hN I hi ok hg ht hk he hs h fun L C s' m H' I' q hn f => ?_) fun _ s' hq => wpAny_pure (wpAny_pure hq))
  show wpAny _ _ (assign (.Name y py) X.env (.ref L)) _ _ _
  refine wpAny_assign_Name (store_ok2 (v := V.ref L) I' hN hy (.inl hyl) rfl (fun s2 I2 ⟨a, sb, ha⟩ => ?_) (.inr hyl))
  obtain ⟨f0, f1, f2, f3, f4, f5⟩ := f
  have haC : C ≠ a := by
    rcases ha with z | z
    · rw [z]; exact f1
    · exact fun e => f4 y a z e.symm
  refine ⟨m, hn.sameBut sb haC, fun h3 sb3 => ?_⟩
  exact ⟨_, H', I2.turned (t' := s2.toks) (fun b o hb e => (sb3.2 b hb).trans e) f0 f1 f3 f4 f5, q⟩
theorem sw_trueD {gs : List Comprehension} {scope : Scope} {py : Pos} {y : Str} {l : Nat} {env : PySem.Env} (hk : env.scope.kind = .function) (hy : env.scope.names.lookup y = some .local) (hl : (py.line == pos.line) = true)
    (ha : (scope.names.any fun (n, k) => n == y && (k == .local || k == .cell)) = false) : swapsWith (.DictComp kx vx gs scope pos) (some (.Name y py)) l env = pure true := by
  have ky : env.kindOf y = some .local := hy
  have hb : env.blockKind = .function := by unfold PySem.Env.blockKind; rw [hk]; rfl
  unfold swapsWith
  simp only [hb, ky, ha, Expr.pos, hl]
  rfl
theorem s_setDc {i : Nat} {y : Str} {py spos : Pos} {scope : Scope} (own : List (Str × Nat)) (hc : X.calm = true) (hN : X.N.Nodup) (hy : X.N[i]? = some y) (hyl : X.env.scope.names.lookup y = some .local)
    (hsw : swapsWith (.DictComp kx vx [⟨tg, iter, ifs, 0⟩] scope pos) (some (.Name y py)) spos.line X.env = pure true) (hi : DI X W tg iter mi) (ok : BlkOk X.N X.env.scope scope own)
    (hg : ∀ (s : Shared) (H : Hp) (C : Addr) (cl : List (Str × Addr)) (fp : List Addr), DG (X.blk s H scope (compEnvC scope cl C X.env) fp) tg t)
    (ht : ∀ (s : Shared) (H : Hp) (C : Addr) (cl : List (Str × Addr)) (fp : List Addr), PTs (X.blk s H scope (compEnvC scope cl C X.env) fp) ifs (tTs X.K tt))
    (hk : ∀ (s : Shared) (H : Hp) (C : Addr) (cl : List (Str × Addr)) (fp : List Addr), DE (X.blk s H scope (compEnvC scope cl C X.env) fp) WNo kx mk)
    (he : ∀ (s : Shared) (H : Hp) (C : Addr) (cl : List (Str × Addr)) (fp : List Addr), DE (X.blk s H scope (compEnvC scope cl C X.env) fp) WNo vx mv)
    {sl : List Nat} (hsl : ∀ i ∈ slots t, i ∈ sl) (ho : own.map (·.2) = sl := by rfl) (hs : ∀ x, foldedSetIterable iter X.env x = pure x := by intro _; rfl) : DS X W (.Assign [.Name y py] (.DictComp kx vx [⟨tg, iter, ifs, 0⟩] scope pos) spos) (mSet i (mDc mi t tt mk mv sl)) := by
  subst ho
  exact PSi (ps_setDc hc hN hy hyl hsw hi ok hg ht hk he hs) fun _ _ _ h => setD (fun _ q => dcD hsl q) h
end
end DM
end
section
set_option maxHeartbeats 2000000
namespace PySem
open Sem (wp)
open AutoSeq1 (wpAny_loadPart')
/-! ### enumerate(tuple) -/
theorem meets_enumerate_newT (l : Addr) (items : Array Value) (n : Nat) (dct : Option Addr) (sl : Array (Option Value)) :
    Meets (Builtin.«enumerate.__new__» ⟨[.type "enumerate", .ref l], []⟩) (fun _ R s => s.heap.get? l = some { cls := .type "tuple", dict := dct, data := .seq items n, slots := sl } ∧
      R (.ok (.ret (.ref (s.heap.push { cls := .type "tuple_iterator", data := .fields #[.ref l, .int 0 0] }).objs.size)))
        { s with heap := (s.heap.push { cls := .type "tuple_iterator", data := .fields #[.ref l, .int 0 0] }).push { cls := .type "enumerate", data := .fields #[.none, .bool false, .ref s.heap.objs.size, rawInt 0, .none, .none] } }) :=
  .of_wp fun prog w A R s h => by
    obtain ⟨hp, g, d, tk, os⟩ := s; obtain ⟨hl, h⟩ := h
    have hsub := sub_enumerate
    have hL : Heap.IsTuple (Shared.heap ⟨hp, g, d, tk, os⟩) l items := ⟨_, hl, rfl, n, rfl⟩
    wp_walk using wpAny_loadPart' hl
    refine wpAny_stack_any fun st => wpAny_pure ?_
    split
    · rename_i c _ _ _ _ _
      cases (c == Value.type "enumerate")
      · wp_walk using wpAny_loadPart' hl, wpAny_pyIter_tuple hL
        exact ⟨_, rfl, h⟩
      · wp_walk using wpAny_loadPart' hl, wpAny_pyIter_tuple hL
        exact ⟨_, rfl, h⟩
    · wp_walk using wpAny_loadPart' hl, wpAny_pyIter_tuple hL
      exact ⟨_, rfl, h⟩
theorem call_enumerate_tuple {prog : Program} {w : World} {A : Around} {E : Value → Shared → Prop} {s : Shared} {l : Addr} {items : Array Value} {Q : Value → Shared → Prop} (hL : s.heap.IsTuple l items)
    (h : ∀ h', IsEnum h' (s.heap.objs.size + 1) s.heap.objs.size 0 .none → h'.IsTupleIter s.heap.objs.size l 0 → h'.objs.size = s.heap.objs.size + 2 →
      (∀ b o, s.heap.get? b = some o → h'.get? b = some o) → Q (.ref (s.heap.objs.size + 1)) { s with heap := h' }) :
    wpAny (model prog w) A (call (.type "enumerate") [.ref l]) Q E s := by
  obtain ⟨⟨c, dct, dt, sl⟩, hl, hc, n, hd⟩ := hL
  replace hc : c = .type "tuple" := hc
  replace hd : dt = .seq items n := hd
  subst hc hd
  refine callType_new F.called_enumerate (by decide) (F.typeCall_enumerate_1 _) (F.newCall_enumerate_1 _) (fun obj => F.args_object_init_2 obj _) F.entry_enumerate_new
    (meets_enumerate_newT l items n dct sl) ⟨hl, ?_⟩
  have hz : (s.heap.push { cls := .type "tuple_iterator", data := .fields #[.ref l, .int 0 0] }).objs.size = s.heap.objs.size + 1 := Heap.size_push ..
  show _ ∧ _
  rw [hz]
  have he : IsEnum ((s.heap.push { cls := .type "tuple_iterator", data := .fields #[.ref l, .int 0 0] }).push
      { cls := .type "enumerate", data := .fields #[.none, .bool false, .ref s.heap.objs.size, rawInt 0, .none, .none] }) (s.heap.objs.size + 1) s.heap.objs.size 0 .none := by
    have := Heap.get?_push_size (s.heap.push { cls := .type "tuple_iterator", data := .fields #[.ref l, .int 0 0] })
      (o := { cls := .type "enumerate", data := .fields #[.none, .bool false, .ref s.heap.objs.size, rawInt 0, .none, .none] }) rfl
    rw [hz] at this; exact this
  refine ⟨⟨_, he, rfl⟩, h _ he ⟨_, Heap.get?_push_of_some _ (Heap.get?_push_size _ rfl), rfl, rfl⟩ (by rw [Heap.size_push, hz]) fun b o x => Heap.get?_push_of_some _ (Heap.get?_push_of_some _ x)⟩
end PySem
namespace DM
open PySem PySem.Spec PyProof.Rows L2
def Iten (K : PySem.W.Frag) (a : Addr) (n : Nat) : It :=
  ⟨fun i H => ∃ (xs : List V) (x : V), SqT K H a xs ∧ xs.length = n ∧ xs[i]? = some x, fun i H v H' => ∃ T x, v = .ref T ∧ H T = none ∧ H' = upd H T (.tup [.int (i : Nat), x]) ∧ ∀ xs, SqT K H a xs → xs[i]? = some x, fun i H => ∃ xs : List V, SqT K H a xs ∧ xs.length = n ∧ n ≤ i⟩
theorem turn_enumT {P : Program} {w : World} {K : PySem.W.Frag} {elts : List Expr} {kk : Nat} {tpos : Pos} (a : Addr) (n : Nat) (e it : Addr) :
    Turn P w K (.Tuple elts kk tpos) (Iten K a n) [e, it] e (fun i h => (∃ old, IsEnum h e it ((i : Nat) : Int) old) ∧ h.IsTupleIter it a i ∧ e ≠ it ∧ i ≤ n ∧ a ≠ it ∧ a ≠ e) where
  mem := by simp
  obj := fun i h st b hb => by
    obtain ⟨⟨old, he⟩, ⟨o, ho, hc, hd⟩, _, _, _⟩ := st
    have e' : b = e ∨ b = it := by simpa using hb
    rcases e' with z | z
    · rw [z]; exact ⟨_, he, fun v q => nomatch q⟩
    · rw [z]; exact ⟨o, ho, fun v q => by rw [hd] at q; cases q⟩
  keep := fun i h h' st k => let ⟨⟨old, he⟩, hi, hne, hle, hat⟩ := st; ⟨⟨old, k e (by simp) _ he⟩, hi.at fun o q => k it (by simp) o q, hne, hle, hat⟩
  item := by
    intro X hP hw hK hc i pins s σ H E I hf st hg
    subst hP hw hK
    obtain ⟨⟨old, he⟩, hit, hne, hle, hai, hae⟩ := st
    obtain ⟨xs, x, hq, hn, hx⟩ := hg
    obtain ⟨its, rv, p, hz⟩ := I.tuple hq
    have ht : s.heap.IsTuple a its.toArray := p
    obtain ⟨u, hu, ru⟩ := rv.get hx
    have hlx : i < xs.length := (List.getElem?_eq_some_iff.mp hx).1
    have hli : its.length = xs.length := rv.length.symm
    have D : Draws X.prog X.w X.A.in1 it [it, a] its.toArray.size (fun i v => its.toArray[i]? = some v) (fun i h => h.IsTupleIter it a i ∧ h.IsTuple a its.toArray) :=
      Draws.tuple (A := X.A.in1) (show X.A.in1.handled = none from I.ok.hd hc) it a hai its.toArray
    have hel : e < s.heap.objs.size := Heap.lt_size he
    have hil : it < s.heap.objs.size := by obtain ⟨_, q, _⟩ := hit; exact Heap.lt_size q
    refine wpAny_pyNext_enum_itemD D he ⟨hit, ht⟩ (by rw [List.size_toArray]; omega) hne (by simp [hne, Ne.symm hae]) fun v h' tk hv ho hit' hT hsz hk => ?_
    have hvu : v = u := by
      rw [List.getElem?_toArray, hu] at hv
      exact (Option.some.inj hv).symm
    subst hvu
    refine ⟨_, rfl, wpAny_letOwnedTupleGo_enum (s := { s with heap := h', toks := tk + 1 }) ho fun h'' he' sb => ?_⟩
    have hT2 : h''.get? s.heap.objs.size = some { cls := .type "tuple", data := .seq #[.int i tk, v] } := (sb.2 _ (Nat.ne_of_gt hel)).trans hT
    have new : ObjOk X.prog X.w (upd H s.heap.objs.size (.tup [.int (i : Nat), x])) h'' s.heap.objs.size (.tup [.int (i : Nat), x]) :=
      ⟨by show 2 ≤ sizeLine; decide, [.int i tk, v], .cons ⟨_, rfl⟩ (.cons ru .nil), ⟨_, hT2, rfl, _, rfl⟩⟩
    have I1 : Inv X pins σ (upd H s.heap.objs.size (.tup [.int (i : Nat), x])) { s with heap := h'', toks := tk + 1 } :=
      I.turnedNew (ch := [e, it]) (fun b ob hb q => (sb.2 b (fun z => hb (by simp [z]))).trans (hk b ob (fun z => hb (by simp [z])) (fun z => hb (by simp [z])) q)) hf (Nat.le_refl _) new
    refine ⟨.ref s.heap.objs.size, _, I1, rfl, ⟨_, x, rfl, I.hok.fresh (Nat.le_refl _), rfl, fun ys hy => by rw [I.tuple_inj hy hq]; exact hx⟩, ⟨⟨v, ?_⟩, hit'.1.at fun o q => (sb.2 it (Ne.symm hne)).trans q, hne, by omega, hai, hae⟩, fun b hb => ?_⟩
    · have e1 : ((i + 1 : Nat) : Int) = (i : Int) + 1 := by omega
      rw [e1]; exact he'
    · have hb' : b < s.heap.objs.size := by
        have e' : b = e ∨ b = it := by simpa using hb
        rcases e' with z | z
        · rw [z]; exact hel
        · rw [z]; exact hil
      rw [upd_ne (Nat.ne_of_lt hb')]
      exact (hf b hb).1
  done := by
    intro X hP hw hK hc i pins s σ H E I hf st hg
    subst hP hw hK
    obtain ⟨⟨old, he⟩, hit, hne, hle, hai, hae⟩ := st
    obtain ⟨xs, hq, hn, hx⟩ := hg
    obtain ⟨its, rv, p, hz⟩ := I.tuple hq
    have ht : s.heap.IsTuple a its.toArray := p
    have hli : its.length = xs.length := rv.length.symm
    have D : Draws X.prog X.w X.A.in1 it [it, a] its.toArray.size (fun i v => its.toArray[i]? = some v) (fun i h => h.IsTupleIter it a i ∧ h.IsTuple a its.toArray) :=
      Draws.tuple (A := X.A.in1) (show X.A.in1.handled = none from I.ok.hd hc) it a hai its.toArray
    obtain ⟨f0, f1, f2, f3, f4, f5⟩ := hf it (by simp)
    have hi : i = its.toArray.size := by rw [List.size_toArray]; omega
    subst hi
    exact wpAny_pyNext_enum_endD D he ⟨hit, ht⟩ fun h' eb => ⟨rfl, I.turned (t' := s.toks) (fun b o hb q => eb b o hb q) f0 f1 f3 f4 f5⟩
  self := fun A i s Q E st h => let ⟨⟨_, he⟩, _⟩ := st; wpAny_pyIter_enum he h
def iEnumT (K : PySem.W.Frag) (ta : TA) : TI := fun σ H R => ta σ H fun vs H1 => ∃ a xs, vs = [.ref a] ∧ SqT K H1 a xs ∧ R (Iten K a xs.length) H1
theorem pi_enumT {X : Cx} {e : Expr} {ta : TA} {p pos tpos : Pos} {elts : List Expr} {kk : Nat} (hg : Gl X "enumerate") (hm : X.mg "enumerate" = none) (ha : PA X [e] ta) (hs : starEach [e] X.env = [(false, eval e X.env)] := by rfl) :
    PI X (.Tuple elts kk tpos) (.Call (.Name "enumerate" p) [e] [] pos) (iEnumT X.K ta) := by
  refine ⟨fun pins s σ H R I h => ?_⟩
  refine Call_ (ld_blt I hg hm boot_enumerate (PyProof.Rows.callWith_type1 (thn (ha.run pos pins s σ H _ I h) fun us s1 ⟨vs, H1, I1, r1, q1⟩ => ?_) hs rfl))
  obtain ⟨a, xs, ex, hq, q⟩ := q1
  subst ex
  cases r1 with
  | cons r rr =>
    cases rr
    cases r
    obtain ⟨its, rv, p', hz⟩ := I1.tuple hq
    have ht : s1.heap.IsTuple a its.toArray := p'
    have hal : a < s1.heap.objs.size := by
      obtain ⟨o, ho, _⟩ := id ht
      exact Heap.lt_size ho
    refine call_enumerate_tuple ht fun h' he hit hsz hk => wpAny_pyIter_enum he ?_
    have I2 : Inv X pins σ H1 { s1 with heap := h' } := I1.kept (t' := s1.toks) hk
    refine ⟨s1.heap.objs.size + 1, [s1.heap.objs.size + 1, s1.heap.objs.size], _, _, H1, rfl, I2, turn_enumT a xs.length (s1.heap.objs.size + 1) s1.heap.objs.size, ⟨⟨.none, he⟩, hit, Nat.succ_ne_self _, Nat.zero_le _, Nat.ne_of_lt hal, Nat.ne_of_lt (Nat.lt_succ_of_lt hal)⟩, fun b hb => ?_, q⟩
    have e' : b = s1.heap.objs.size + 1 ∨ b = s1.heap.objs.size := by simpa using hb
    have hle : s1.heap.objs.size ≤ b := by
      rcases e' with z | z
      · rw [z]; exact Nat.le_add_right _ _
      · rw [z]; exact Nat.le_refl _
    exact I1.fpOk hle (I1.hok.fresh hle)
theorem iter_enumT {K : PySem.W.Frag} {m : Mp} {H : Hp} {xs : List D} {q : Addr} (r : RD K m H (.tup xs) (.ref q)) : Iter K (Iten K q xs.length) m H (.en (.tup xs)) := by
  refine ⟨fun m' A' H' all i x e R hs hi => ?_, fun m' A' H' all i e R hs hl => ?_⟩
  · have hs : some (enumD 0 xs) = some all := hs
    cases hs
    have hs0 : seqOf A' (.tup xs) = some xs := rfl
    obtain ⟨q', vs, hq, rs, sq⟩ := seqOf_is R (RD.mono e _ _ r) hs0
    cases hq
    rcases sq with ⟨_, sq⟩ | ⟨hd, _⟩
    · rw [enum_at] at hi
      obtain ⟨x0, hx0, rfl⟩ := Option.map_eq_some_iff.mp hi
      obtain ⟨v, h1, h2⟩ := rs.get hx0
      refine ⟨⟨vs, v, sq, rs.length.symm, h1⟩, fun y H'' hy => ?_⟩
      obtain ⟨T, v', rfl, hT, rfl, hy⟩ := hy
      have := hy vs sq
      rw [h1] at this; cases this
      obtain ⟨R1, e1⟩ := R.new hT (.tup [.int (i : Nat), v])
      refine ⟨R1, e1, ?_⟩
      rw [Nat.zero_add]
      exact .qtup (.inl upd_same) (R.out hT) (.cons (.int _) (.cons (RD.mono e1 _ _ h2) .nil))
    · cases hd
  · have hs : some (enumD 0 xs) = some all := hs
    cases hs
    have hs0 : seqOf A' (.tup xs) = some xs := rfl
    obtain ⟨q', vs, hq, rs, sq⟩ := seqOf_is R (RD.mono e _ _ r) hs0
    cases hq
    rw [enum_length] at hl
    rcases sq with ⟨_, sq⟩ | ⟨hd, _⟩
    · exact ⟨vs, sq, rs.length.symm, hl⟩
    · cases hd
def mEnT (ms : MA) : MI := fun ρ A => (ms ρ A).bind fun ds A1 => match ds with
  | [.tup xs] => .ok (.en (.tup xs)) A1
  | _ => .no
section
variable {X : Cx} {W : WX} {e : Expr} {ms : MA} {p pos : Pos}
theorem i_enT {elts : List Expr} {kk : Nat} {tpos : Pos} (hm : X.mg "enumerate" = none) (ha : DA X W [e] ms) (hg : Gl X "enumerate" := by rfl) (hs : starEach [e] X.env = [(false, eval e X.env)] := by rfl) : DI X W (.Tuple elts kk tpos) (.Call (.Name "enumerate" p) [e] [] pos) (mEnT ms) :=
  PIi (pi_enumT hg hm ha hs) fun σ H Q ⟨m, A, ρ, R, E, h⟩ => tA.bind R E h fun m1 A1 ds vs H1 e1 R1 E1 r1 h1 => by
    split at h1
    · rename_i xs
      obtain ⟨v, rfl, r⟩ := r1.one
      obtain ⟨q, ws, rfl, rs, sq⟩ := seqOf_is (xs := xs) R1 r rfl
      rcases sq with ⟨_, sq⟩ | ⟨hd, _⟩
      · refine ⟨q, ws, rfl, sq, Post.here R1 ?_ h1⟩
        rw [← rs.length]
        exact iter_enumT r
      · cases hd
    · exact h1.elim
end
end DM
end
section
set_option maxHeartbeats 2000000
namespace DM
open PySem PySem.Spec PyProof.Rows L2
section
variable {X : Cx} {W : WX} {e e2 e3 : Expr} {ms : MA} {pos p : Pos}
/-! ### max of three -/
/-! ### max of a dict with int keys -/
end
/-! ### {"a": v, "b": w, ..} -/
section
variable {X : Cx} {W : WX} {pos p : Pos}
/-! ### running rules -/
end
end DM
end
section
set_option maxHeartbeats 4000000
namespace DM
open PySem PySem.Spec PyProof.Rows L2
/-! ### sorted(set(xs)) of longer lists with few members -/
theorem setR_few {w : World} {h : Heap} {a : Addr} {ns : List Int} {c : Nat} (R : SetR w h a (fun j => decide (j ∈ ns)) c) : c ≤ (sset ns).length := by
  obtain ⟨o, es, ep, t, _, _, _, _, nd, hm, _, _, hn, _⟩ := R
  have := List.Nodup.length_le_of_subset nd (l₂ := sset ns) fun k hk => by
    have := (hm k).mpr hk
    exact mem_sset.mpr (by simpa using this)
  rw [List.length_map, Array.length_toList, hn] at this
  exact this
section
variable {X : Cx} {W : WX} {e : Expr} {me : ME} {p p2 pos pos2 : Pos}
def rSetL2 (K : PySem.W.Frag) (w : World) : List V → Hp → VK → Prop := fun xs H Q => ∃ (l : Addr) (ns : List Int), xs = [.ref l] ∧ SqL K H l (ns.map V.int) ∧ ns.length < 4000 ∧
  ∀ (a : Addr) (c : Nat), H a = none → c ≤ (sset ns).length → Q (.ref a) (upd H a (SetO w a (fun j => decide (j ∈ ns)) c))
theorem cr_setL2 (hc : X.calm = true) : CallR X (.type "set") (rSetL2 X.K X.w) := by
  intro pins s σ H xs us Q I r h
  obtain ⟨l, ns, rfl, sq, few, q⟩ := h
  rw [Vals.ref1 r]
  obtain ⟨its, rv, pl, hz⟩ := I.list sq
  refine set_of_list (I.ok.hd hc) pl.isList (ns := ns) (by simpa using rv.ints) (by have z : (4001 : Nat) < scanBound := (by decide +kernel); omega) fun h' tk c R hcn k => ?_
  exact ⟨.ref _, upd H s.heap.objs.size (SetO X.w s.heap.objs.size (fun j => decide (j ∈ ns)) c), I.laid (t' := tk) k (Nat.le_refl _) (setO_new R), rfl, q _ c (I.hok.fresh (Nat.le_refl _)) (setR_few R)⟩
def fSortSet2 : List D → AH → Res D := fun ds A => match ds with
  | [d] => if isTup d = true then .no else match seqOf A d with
    | some xs => match intsOf xs with
      | some ns => if ns.length < 4000 ∧ (sset ns).length < 64 then .ok (.lst ((sset ns).map D.int)) A else .no
      | none => .no
    | none => .no
  | _ => .no
theorem sortSetD2 {σ : L2.St} {H : Hp} {Q : VK} {ms : MA} (h : tE X.K W (mCall fSortSet2 ms) σ H Q) : tA X.K W ms σ H fun vs H1 => rSetL2 X.K X.w vs H1 fun x H2 => rSortedSet X.w [x] H2 Q := by
  obtain ⟨m, A, ρ, R, E, h⟩ := h
  refine tA.bind R E h fun m1 A1 ds vs H1 e1 R1 E1 r1 h1 => ?_
  unfold fSortSet2 at h1
  split at h1
  rotate_left
  · exact h1.elim
  obtain ⟨v, rfl, rv⟩ := r1.one
  split at h1
  · exact h1.elim
  rename_i d ht
  split at h1
  rotate_left
  · exact h1.elim
  rename_i xs hs
  split at h1
  rotate_left
  · exact h1.elim
  rename_i ns hn
  split at h1
  rotate_left
  · exact h1.elim
  rename_i few
  obtain ⟨a, us, rfl, rs, z⟩ := seqOf_is R1 rv hs
  have hL : SqL X.K H1 a us := by
    rcases z with ⟨rfl, _⟩ | ⟨_, z⟩
    · exact absurd rfl ht
    · exact z
  have := ints_rd hn rs
  subst this
  refine ⟨a, ns, rfl, hL, few.1, fun b c hb hc => ⟨b, _, c, rfl, upd_same, by omega, fun out q up mem len hq => ?_⟩⟩
  let ⟨R2, e2⟩ := R1.new hb (SetO X.w b (fun j => decide (j ∈ ns)) c)
  have eo : sset ns = out := sset_eq up fun k => by rw [mem k]; simp
  rw [eo] at h1
  exact lst_new R2 (rds_ints _) (Post.mono e2 h1) q hq
theorem d_sortSet2 (hc : X.calm = true) (hm : X.mg "sorted" = none) (hm2 : X.mg "set" = none) (ha : DE X W e me) (hg : Gl X "sorted" := by rfl) (hg2 : Gl X "set" := by rfl)
    (he1 : starEach [e] X.env = (false, eval e X.env) :: starEach [] X.env := by rfl) (he2 : starEach [.Call (.Name "set" p2) [e] [] pos2] X.env = (false, eval (.Call (.Name "set" p2) [e] [] pos2) X.env) :: starEach [] X.env := by rfl) (hpl : (backTo pos2 (starEach [] X.env)).any (·.1) = false := by rfl) (hpl2 : (backTo pos (starEach [] X.env)).any (·.1) = false := by rfl) :
    DE X W (.Call (.Name "sorted" p) [.Call (.Name "set" p2) [e] [] pos2] [] pos) (mCall fSortSet2 (mCons me mNil)) :=
  PEi (pe_callB (cr_sortedSet hc) hg hm (by decide +kernel) (pa_cons (pe_callTy (cr_setL2 hc) hg2 hm2 PyProof.Rows.boot_set (a_cons ha a_nil he1) (by decide) (by decide) he1 hpl) pa_nil he2) (by decide) (by decide) he2 hpl2) fun _ _ _ h => sortSetD2 h
end
end DM
end
section

end
section
set_option maxHeartbeats 4000000
namespace K67
open PySem PySem.Spec PyProof.Rows L2 DM NdefX
/-! ### the text -/
def stAt (i : Nat) : Stmt := PySem.Challenge.pw_spelledways_k67_whole_which_stamps_to_ke.main.body.getD i (.Pass ⟨0, 0, 0, 0⟩)
abbrev x_is_integer : Stmt := stAt 4
abbrev nm_is_integer : List Str := ["value"]
theorem sc_is_integer : FnScope nm_is_integer ["value"] (defScope x_is_integer) := ⟨rfl, rfl, rfl, by decide +kernel, rfl, by decide +kernel, by decide +kernel⟩
abbrev x_spans : Stmt := stAt 6
abbrev nm_spans : List Str := ["row", "lasts", "version", "last"]
theorem sc_spans : FnScope nm_spans ["row"] (defScope x_spans) := ⟨rfl, rfl, rfl, by decide +kernel, rfl, by decide +kernel, by decide +kernel⟩
abbrev x_sees : Stmt := stAt 8
abbrev nm_sees : List Str := ["stamp", "span"]
theorem sc_sees : FnScope nm_sees ["stamp", "span"] (defScope x_sees) := ⟨rfl, rfl, rfl, by decide +kernel, rfl, by decide +kernel, by decide +kernel⟩
abbrev x_values_kept : Stmt := stAt 9
abbrev nm_values_kept : List Str := ["rows", "stamps", "now", "found", "before", "stamp"]
theorem sc_values_kept : FnScope nm_values_kept ["rows", "stamps", "now"] (defScope x_values_kept) := ⟨rfl, rfl, rfl, by decide +kernel, rfl, by decide +kernel, by decide +kernel⟩
abbrev x_new_values : Stmt := stAt 10
abbrev nm_new_values : List Str := ["rows", "before", "stamp", "found", "key", "row", "version", "span"]
theorem sc_new_values : FnScope nm_new_values ["rows", "before", "stamp"] (defScope x_new_values) := ⟨rfl, rfl, rfl, by decide +kernel, rfl, by decide +kernel, by decide +kernel⟩
abbrev x_thinned : Stmt := stAt 11
abbrev nm_thinned : List Str := ["rows", "stamps", "now", "many", "size", "best", "chosen", "later", "before", "told", "ways", "at", "values", "rest"]
theorem sc_thinned : FnScope nm_thinned ["rows", "stamps", "now", "many"] (defScope x_thinned) := ⟨rfl, rfl, rfl, by decide +kernel, rfl, by decide +kernel, by decide +kernel⟩
abbrev x__law_deal : Stmt := stAt 13
abbrev nm__law_deal : List Str := ["_law_script", "_law_base", "_law_cells", "_law_mix", "_law_cell"]
theorem sc__law_deal : FnScope nm__law_deal ["_law_script", "_law_base"] (defScope x__law_deal) := ⟨rfl, rfl, rfl, by decide +kernel, rfl, by decide +kernel, by decide +kernel⟩
abbrev x__law_any : Stmt := stAt 14
abbrev nm__law_any : List Str := ["_law_deal_here", "_law_bound", "_law_rest"]
theorem sc__law_any : FnScope nm__law_any ["_law_deal_here", "_law_bound"] (defScope x__law_any) := ⟨rfl, rfl, rfl, by decide +kernel, rfl, by decide +kernel, by decide +kernel⟩
abbrev x__law_of : Stmt := stAt 15
abbrev nm__law_of : List Str := ["_law_deal_here", "_law_some"]
theorem sc__law_of : FnScope nm__law_of ["_law_deal_here", "_law_some"] (defScope x__law_of) := ⟨rfl, rfl, rfl, by decide +kernel, rfl, by decide +kernel, by decide +kernel⟩
abbrev x__law_keys : Stmt := stAt 16
abbrev nm__law_keys : List Str := ["_law_deal_here", "_law_many", "_law_signs", "_law_found", "_law_stem", "_law_turn", "_law_size", "_law_key", "_law_at"]
theorem sc__law_keys : FnScope nm__law_keys ["_law_deal_here", "_law_many"] (defScope x__law_keys) := ⟨rfl, rfl, rfl, by decide +kernel, rfl, by decide +kernel, by decide +kernel⟩
abbrev x__law_value : Stmt := stAt 17
abbrev nm__law_value : List Str := ["_law_deal_here", "_law_number"]
theorem sc__law_value : FnScope nm__law_value ["_law_deal_here"] (defScope x__law_value) := ⟨rfl, rfl, rfl, by decide +kernel, rfl, by decide +kernel, by decide +kernel⟩
abbrev x__law_row : Stmt := stAt 18
abbrev nm__law_row : List Str := ["_law_deal_here", "_law_now", "_law_stamps", "_law_stamp", "_law_turn"]
theorem sc__law_row : FnScope nm__law_row ["_law_deal_here", "_law_now"] (defScope x__law_row) := ⟨rfl, rfl, rfl, by decide +kernel, rfl, by decide +kernel, by decide +kernel⟩
abbrev x__law_masks : Stmt := stAt 19
abbrev nm__law_masks : List Str := ["_law_rows", "_law_stamps", "_law_now", "_law_found", "_law_key", "_law_row_here", "_law_at", "_law_version", "_law_last", "_law_see", "_law_place", "_law_stamp"]
theorem sc__law_masks : FnScope nm__law_masks ["_law_rows", "_law_stamps", "_law_now"] (defScope x__law_masks) := ⟨rfl, rfl, rfl, by decide +kernel, rfl, by decide +kernel, by decide +kernel⟩
abbrev x__law_best : Stmt := stAt 20
abbrev nm__law_best : List Str := ["_law_masks_here", "_law_stamps", "_law_many", "_law_best_here", "_law_size", "_law_bits", "_law_chosen", "_law_worth", "_law_place", "_law_stamp", "_law_mask"]
theorem sc__law_best : FnScope nm__law_best ["_law_masks_here", "_law_stamps", "_law_many"] (defScope x__law_best) := ⟨rfl, rfl, rfl, by decide +kernel, rfl, by decide +kernel, by decide +kernel⟩
abbrev x__law_heard : Stmt := stAt 21
abbrev nm__law_heard : List Str := ["_law_rows", "_law_stamps", "_law_now", "_law_many", "e"]
theorem sc__law_heard : FnScope nm__law_heard ["_law_rows", "_law_stamps", "_law_now", "_law_many"] (defScope x__law_heard) := ⟨rfl, rfl, rfl, by decide +kernel, rfl, by decide +kernel, by decide +kernel⟩
abbrev x_law : Stmt := stAt 22
abbrev nm_law : List Str := ["_law_script", "_law_deal_here", "_law_now", "_law_rows", "_law_stamps", "_law_masks_here", "_law_size", "_law_some", "_law_bits", "_law_due", "_law_many", "_law_best_here", "_law_told", "_law_key", "_law_stamp", "_law_mask", "_law_place", "_law_turn"]
theorem sc_law : FnScope nm_law ["_law_script"] (defScope x_law) := ⟨rfl, rfl, rfl, by decide +kernel, rfl, by decide +kernel, by decide +kernel⟩
abbrev x_InvalidSize : Stmt := stAt 2
/-! ### what the top has written -/
structure Tx (P : Program) (w : World) (K : PySem.W.Frag) (mg : Str → Option Value) (ad : Nat → Addr) (fd : Nat → FuncData) (tb : Nat → Addr × Addr) : Prop where
  g_is_integer : mg "is_integer" = some (.ref (ad 0))
  F_is_integer : Fun K "is_integer" "is_integer" x_is_integer (ad 0) (fd 0)
  b_is_integer : Binds K (fd 0) ["value"] []
  g_spans : mg "spans" = some (.ref (ad 1))
  F_spans : Fun K "spans" "spans" x_spans (ad 1) (fd 1)
  b_spans : Binds K (fd 1) ["row"] []
  g_sees : mg "sees" = some (.ref (ad 2))
  F_sees : Fun K "sees" "sees" x_sees (ad 2) (fd 2)
  b_sees : Binds K (fd 2) ["stamp", "span"] []
  g_values_kept : mg "values_kept" = some (.ref (ad 3))
  F_values_kept : Fun K "values_kept" "values_kept" x_values_kept (ad 3) (fd 3)
  b_values_kept : Binds K (fd 3) ["rows", "stamps", "now"] []
  g_new_values : mg "new_values" = some (.ref (ad 4))
  F_new_values : Fun K "new_values" "new_values" x_new_values (ad 4) (fd 4)
  b_new_values : Binds K (fd 4) ["rows", "before", "stamp"] []
  g_thinned : mg "thinned" = some (.ref (ad 5))
  F_thinned : Fun K "thinned" "thinned" x_thinned (ad 5) (fd 5)
  b_thinned : Binds K (fd 5) ["rows", "stamps", "now", "many"] []
  g__law_deal : mg "_law_deal" = some (.ref (ad 6))
  F__law_deal : Fun K "_law_deal" "_law_deal" x__law_deal (ad 6) (fd 6)
  b__law_deal : Binds K (fd 6) ["_law_script", "_law_base"] []
  g__law_any : mg "_law_any" = some (.ref (ad 7))
  F__law_any : Fun K "_law_any" "_law_any" x__law_any (ad 7) (fd 7)
  b__law_any : Binds K (fd 7) ["_law_deal_here", "_law_bound"] []
  g__law_of : mg "_law_of" = some (.ref (ad 8))
  F__law_of : Fun K "_law_of" "_law_of" x__law_of (ad 8) (fd 8)
  b__law_of : Binds K (fd 8) ["_law_deal_here", "_law_some"] []
  g__law_keys : mg "_law_keys" = some (.ref (ad 9))
  F__law_keys : Fun K "_law_keys" "_law_keys" x__law_keys (ad 9) (fd 9)
  b__law_keys : Binds K (fd 9) ["_law_deal_here", "_law_many"] []
  g__law_value : mg "_law_value" = some (.ref (ad 10))
  F__law_value : Fun K "_law_value" "_law_value" x__law_value (ad 10) (fd 10)
  b__law_value : Binds K (fd 10) ["_law_deal_here"] []
  g__law_row : mg "_law_row" = some (.ref (ad 11))
  F__law_row : Fun K "_law_row" "_law_row" x__law_row (ad 11) (fd 11)
  b__law_row : Binds K (fd 11) ["_law_deal_here", "_law_now"] []
  g__law_masks : mg "_law_masks" = some (.ref (ad 12))
  F__law_masks : Fun K "_law_masks" "_law_masks" x__law_masks (ad 12) (fd 12)
  b__law_masks : Binds K (fd 12) ["_law_rows", "_law_stamps", "_law_now"] []
  g__law_best : mg "_law_best" = some (.ref (ad 13))
  F__law_best : Fun K "_law_best" "_law_best" x__law_best (ad 13) (fd 13)
  b__law_best : Binds K (fd 13) ["_law_masks_here", "_law_stamps", "_law_many"] []
  g__law_heard : mg "_law_heard" = some (.ref (ad 14))
  F__law_heard : Fun K "_law_heard" "_law_heard" x__law_heard (ad 14) (fd 14)
  b__law_heard : Binds K (fd 14) ["_law_rows", "_law_stamps", "_law_now", "_law_many"] []
  g_law : mg "law" = some (.ref (ad 15))
  F_law : Fun K "law" "law" x_law (ad 15) (fd 15)
  b_law : Binds K (fd 15) ["_law_script"] []
  g_StoreError : mg "StoreError" = some (.ref (ad 16))
  K_StoreError : ExcK K "StoreError" (ad 16)
  g_InvalidSize : mg "InvalidSize" = some (.ref (ad 17))
  K_InvalidSize : ExcK K "InvalidSize" (ad 17)
  E_InvalidSize : ErE.ErrC P K "Exception" "Exception.__new__" "Exception.__init__" [.type "Exception", .type "BaseException", .type "object"] (ad 17) (ad 19) "word"
  n_InvalidSize_word : PySem.W.findIn K (.ref (ad 17)) "word" = some none
  u_InvalidSize_InvalidSize : PySem.W.subIn K (.ref (ad 17)) (.ref (ad 17)) = some true
  k_thinned_many_now_stamps_rows : KB K (fd 5) ["rows", "stamps", "now", "many"] 0 ["many", "now", "stamps", "rows"] [3, 2, 1, 0]
  k_values_kept_now_stamps_rows : KB K (fd 3) ["rows", "stamps", "now"] 0 ["now", "stamps", "rows"] [2, 1, 0]
  z_abs : mg "abs" = none
  z_bool : mg "bool" = none
  z_enumerate : mg "enumerate" = none
  z_int : mg "int" = none
  z_isinstance : mg "isinstance" = none
  z_len : mg "len" = none
  z_min : mg "min" = none
  z_range : mg "range" = none
  z_repr : mg "repr" = none
  z_set : mg "set" = none
  z_sorted : mg "sorted" = none
  z_str : mg "str" = none
  z_sum : mg "sum" = none
  z_super : mg "super" = none
  z_tuple : mg "tuple" = none
  z_zip : mg "zip" = none
/-! ### the defs -/
noncomputable def m_is_integer : List D → AH → Res D := mFun 1 (mRet (mAndV (mCall fIsi (mCons (mVar 0) (mCons (mK (.ty "int")) (mNil)))) (mNotV (mCall fIsi (mCons (mVar 0) (mCons (mK (.ty "bool"))
    (mNil)))))))
theorem w_is_integer {P : Program} {w : World} {K : PySem.W.Frag} {mg : Str → Option Value} {base : Heap} {ad : Nat → Addr} {fd : Nat → FuncData} {tb : Nat → Addr × Addr} (T : Tx P w K mg ad fd tb) :
    FnD P w K mg base 1 (ad 0) (fd 0) ["value"] (m_is_integer) :=
  have nd := sc_is_integer.nd
FnD.of T.F_is_integer sc_is_integer fun cdv hcd A outer s H E hr gd tk hp => s_one (s_ret (d_andV (d_isi T.z_isinstance (a_cons (d_var 0) (a_cons (d_ty T.z_int PyProof.Rows.Boot.«int») (a_nil))))
    (d_one (d_notV (d_isi T.z_isinstance (a_cons (d_var 0) (a_cons (d_ty T.z_bool PyProof.Rows.Boot.«bool») (a_nil))))))))
noncomputable def m_spans : List D → AH → Res D := mFun 4 (mSeq (mSet 1 (mOp fAdd (mLc false (mSq (mSl (mVar 0) (mSome (mK (.int 1))) (mNone))) (.nm 2) (mYes) (mOp fSub (mOp fIx (mVar 2) (mK (.int 0)))
    (mK (.int 1))) [2]) (mLst (mCons (mK .non) (mNil))))) (mRet (mCall fTup (mCons (mLc false (mZipR (mCons (mVar 0) (mCons (mVar 1) (mNil)))) (.tp [.nm 2, .nm 3]) (mYes) (mTup (mCons (mOp fIx (mVar 2)
    (mK (.int 0))) (mCons (mVar 3) (mNil)))) [2, 3]) (mNil)))))
theorem w_spans {P : Program} {w : World} {K : PySem.W.Frag} {mg : Str → Option Value} {base : Heap} {ad : Nat → Addr} {fd : Nat → FuncData} {tb : Nat → Addr × Addr} (T : Tx P w K mg ad fd tb) :
    FnD P w K mg base 1 (ad 1) (fd 1) ["row"] (m_spans) :=
  have nd := sc_spans.nd
FnD.of T.F_spans sc_spans fun cdv hcd A outer s H E hr gd tk hp => s_cons (s_set (i := 1) nd (d_add (d_lc (t := .nm 2) false [("version", 2)] rfl nd (i_sq (d_sl (d_var 0) (o_some (d_int)) (o_none)))
    (blkOk_by (N := nm_spans) (sc := defScope x_spans) (by decide +kernel)) (fun _ _ _ _ _ => tg_nm (i := 2) nd) (fun _ _ _ _ _ => l_nil) (fun _ _ _ _ _ => d_sub (d_ix (d_var 2) (d_int)) (d_int)) (sl
    := [2]) (by decide)) (d_lst (a_cons (d_non) (a_nil))))) (s_one (s_ret (d_tuple T.z_tuple (a_cons (d_lc (t := .tp [.nm 2, .nm 3]) false [("version", 2), ("last", 3)] rfl nd (i_zipR T.z_zip (a_cons
    (d_var 0) (a_cons (d_var 1) (a_nil)))) (blkOk_by (N := nm_spans) (sc := defScope x_spans) (by decide +kernel)) (fun _ _ _ _ _ => tg_tp (ts := [.nm 2, .nm 3]) rfl (tgs_cons (tg_nm (i := 2) nd)
    (tgs_cons (tg_nm (i := 3) nd) (tgs_nil)))) (fun _ _ _ _ _ => l_nil) (fun _ _ _ _ _ => d_tup (a_cons (d_ix (d_var 2) (d_int)) (a_cons (d_var 3) (a_nil)))) (sl := [2, 3]) (by decide)) (a_nil)))))
noncomputable def m_sees : List D → AH → Res D := mFun 2 (mRet (mAndV (mOp fLe (mOp fIx (mVar 1) (mK (.int 0))) (mVar 0)) (mOrV (mOp (fIsN false) (mOp fIx (mVar 1) (mK (.int 1))) (mK .non)) (mOp fLe
    (mVar 0) (mOp fIx (mVar 1) (mK (.int 1)))))))
theorem w_sees {P : Program} {w : World} {K : PySem.W.Frag} {mg : Str → Option Value} {base : Heap} {ad : Nat → Addr} {fd : Nat → FuncData} {tb : Nat → Addr × Addr} (T : Tx P w K mg ad fd tb) :
    FnD P w K mg base 1 (ad 2) (fd 2) ["stamp", "span"] (m_sees) :=
  have nd := sc_sees.nd
FnD.of T.F_sees sc_sees fun cdv hcd A outer s H E hr gd tk hp => s_one (s_ret (d_andV (d_le (d_ix (d_var 1) (d_int)) (d_var 0)) (d_one (d_orV (d_is (d_ix (d_var 1) (d_int)) (d_non)) (d_one (d_le (d_var
    0) (d_ix (d_var 1) (d_int))))))))
noncomputable def m_values_kept (c_new_values : List D → AH → Res D) : List D → AH → Res D := mFun 6 (mSeq (mAsg (.tp [.nm 3, .nm 4]) (mTup (mCons (mK (.int 0)) (mCons (mK .non) (mNil))))) (mSeq (mFor
    (mSq (mOp fAdd (mVar 1) (mTup (mCons (mVar 2) (mNil))))) (.nm 5) (mSeq (mAug 3 fAug (mCallF 3 c_new_values (mCons (mVar 0) (mCons (mVar 4) (mCons (mVar 5) (mNil)))))) (mSet 4 (mVar 5)))) (mRet
    (mVar 3))))
theorem w_values_kept {P : Program} {w : World} {K : PySem.W.Frag} {mg : Str → Option Value} {base : Heap} {ad : Nat → Addr} {fd : Nat → FuncData} {tb : Nat → Addr × Addr} (T : Tx P w K mg ad fd tb)
    {c_new_values : List D → AH → Res D} (G_new_values : FnD P w K mg base 2 (ad 4) (fd 4) ["rows", "before", "stamp"] c_new_values) :
    FnD P w K mg base 3 (ad 3) (fd 3) ["rows", "stamps", "now"] (m_values_kept c_new_values) :=
  have nd := sc_values_kept.nd
FnD.of T.F_values_kept sc_values_kept fun cdv hcd A outer s H E hr gd tk hp => s_cons (s_asg (t := .tp [.nm 3, .nm 4]) (d_tup (a_cons (d_int) (a_cons (d_non) (a_nil)))) (tg_tp (ts := [.nm 3, .nm 4])
    rfl (tgs_cons (tg_nm (i := 3) nd) (tgs_cons (tg_nm (i := 4) nd) (tgs_nil))))) (s_cons (s_for hp rfl (i_sq (d_add (d_var 1) (d_tup (a_cons (d_var 2) (a_nil))))) (tg_nm (i := 5) nd) (s_cons (ia_aug
    (i := 3) nd (d_call G_new_values (hr.mono (by decide)) gd tk T.g_new_values T.F_new_values.kp T.b_new_values (a_cons (d_var 0) (a_cons (d_var 4) (a_cons (d_var 5) (a_nil)))))) (s_one (s_set (i :=
    4) nd (d_var 5))))) (s_one (s_ret (d_var 3))))
noncomputable def m_new_values (c_spans : List D → AH → Res D) (c_sees : List D → AH → Res D) : List D → AH → Res D := mFun 8 (mSeq (mSet 3 (mK (.int 0))) (mSeq (mFor (mSq (mVar 0)) (.tp [.nm 4, .nm
    5]) (mFor (mZipR (mCons (mVar 5) (mCons (mCallF 1 c_spans (mCons (mVar 5) (mNil))) (mNil)))) (.tp [.nm 6, .nm 7]) (mIfS (mAnd (mTst (mOp (fIsN true) (mOp fIx (mVar 6) (mK (.int 1))) (mK .non)))
    (mAnd (mTst (mCallF 2 c_sees (mCons (mVar 2) (mCons (mVar 7) (mNil))))) (mOr (mTst (mOp (fIsN false) (mVar 1) (mK .non))) (mTst (mOp fLt (mVar 1) (mOp fIx (mVar 7) (mK (.int 0)))))))) (mAug 3 fAug
    (mK (.int 1))) (mNext)))) (mRet (mVar 3))))
theorem w_new_values {P : Program} {w : World} {K : PySem.W.Frag} {mg : Str → Option Value} {base : Heap} {ad : Nat → Addr} {fd : Nat → FuncData} {tb : Nat → Addr × Addr} (T : Tx P w K mg ad fd tb)
    {c_spans : List D → AH → Res D} (G_spans : FnD P w K mg base 1 (ad 1) (fd 1) ["row"] c_spans) {c_sees : List D → AH → Res D} (G_sees : FnD P w K mg base 1 (ad 2) (fd 2) ["stamp", "span"] c_sees) :
    FnD P w K mg base 2 (ad 4) (fd 4) ["rows", "before", "stamp"] (m_new_values c_spans c_sees) :=
  have nd := sc_new_values.nd
FnD.of T.F_new_values sc_new_values fun cdv hcd A outer s H E hr gd tk hp => s_cons (s_set (i := 3) nd (d_int)) (s_cons (s_for hp rfl (i_sq (d_var 0)) (tg_tp (ts := [.nm 4, .nm 5]) rfl (tgs_cons (tg_nm
    (i := 4) nd) (tgs_cons (tg_nm (i := 5) nd) (tgs_nil)))) (s_one (s_for hp rfl (i_zipR T.z_zip (a_cons (d_var 5) (a_cons (d_call G_spans (hr.mono (by decide)) gd tk T.g_spans T.F_spans.kp T.b_spans
    (a_cons (d_var 5) (a_nil))) (a_nil)))) (tg_tp (ts := [.nm 6, .nm 7]) rfl (tgs_cons (tg_nm (i := 6) nd) (tgs_cons (tg_nm (i := 7) nd) (tgs_nil)))) (s_one (s_if (PW.pt (w_and (t_isnt (d_ix (d_var 6)
    (d_int)) (d_non)) (w_and (t_val (d_call G_sees (hr.mono (by decide)) gd tk T.g_sees T.F_sees.kp T.b_sees (a_cons (d_var 2) (a_cons (d_var 7) (a_nil))))) (w_and1 (PW.pt (w_or (t_is (d_var 1)
    (d_non)) (w_or1 (t_lt (d_var 1) (d_ix (d_var 7) (d_int)))))))))) (s_one (ia_aug (i := 3) nd (d_int))) (s_nil)))))) (s_one (s_ret (d_var 3))))
noncomputable def m_thinned (c_is_integer : List D → AH → Res D) (c_new_values : List D → AH → Res D) : List D → AH → Res D := mFun 14 (mSeq (mIfS (mOr (mNot (mTst (mCallF 1 c_is_integer (mCons (mVar
    3) (mNil))))) (mNot (mTst (mChn fLe fLe (mK (.int 0)) (mVar 3) (mCall fLen (mCons (mVar 1) (mNil))))))) (mRaise "InvalidSize" "word" (mK (.str "many"))) (mNext)) (mSeq (mSet 4 (mCall fLen (mCons
    (mVar 1) (mNil)))) (mSeq (mSet 5 (mDc (mR2 (mCons (mNeg (mK (.int 1))) (mCons (mVar 4) (mNil)))) (.nm 8) (mYes) (mVar 8) (mTup (mCons (mCallF 3 c_new_values (mCons (mVar 0) (mCons (mIf (mTst (mOp
    fLt (mVar 8) (mK (.int 0)))) (mK .non) (mOp fIx (mVar 1) (mVar 8))) (mCons (mVar 2) (mNil))))) (mCons (mTup (mNil)) (mNil)))) [8])) (mSeq (mFor (mR2 (mCons (mK (.int 1)) (mCons (mOp fAdd (mVar 3)
    (mK (.int 1))) (mNil)))) (.nm 6) (mSeq (mSet 7 (mDict0)) (mSeq (mFor (mR2 (mCons (mNeg (mK (.int 1))) (mCons (mOp fSub (mVar 4) (mVar 6)) (mNil)))) (.nm 8) (mSeq (mSet 9 (mIf (mTst (mOp fLt (mVar
    8) (mK (.int 0)))) (mK .non) (mOp fIx (mVar 1) (mVar 8)))) (mSeq (mSet 10 (mNew (mNil))) (mSeq (mFor (mR2 (mCons (mOp fAdd (mVar 8) (mK (.int 1))) (mCons (mOp fAdd (mOp fSub (mVar 4) (mVar 6)) (mK
    (.int 1))) (mNil)))) (.nm 11) (mSeq (mAsg (.tp [.nm 12, .nm 13]) (mOp fDGet (mVar 5) (mVar 11))) (mDrop (mMet fApp (mVar 10) (mCons (mTup (mCons (mOp fAdd (mCallF 3 c_new_values (mCons (mVar 0)
    (mCons (mVar 9) (mCons (mOp fIx (mVar 1) (mVar 11)) (mNil))))) (mVar 12)) (mCons (mOp fAdd (mTup (mCons (mOp fIx (mVar 1) (mVar 11)) (mNil))) (mVar 13)) (mNil)))) (mNil)))))) (mDPut (mCall fMinD
    (mCons (mVar 10) (mNil))) (mVar 7) (mVar 8)))))) (mSet 5 (mVar 7))))) (mRet (mOp fIx (mOp fDGet (mVar 5) (mNeg (mK (.int 1)))) (mK (.int 1))))))))
theorem w_thinned {P : Program} {w : World} {K : PySem.W.Frag} {mg : Str → Option Value} {base : Heap} {ad : Nat → Addr} {fd : Nat → FuncData} {tb : Nat → Addr × Addr} (T : Tx P w K mg ad fd tb)
    {c_is_integer : List D → AH → Res D} (G_is_integer : FnD P w K mg base 1 (ad 0) (fd 0) ["value"] c_is_integer) {c_new_values : List D → AH → Res D} (G_new_values : FnD P w K mg base 2 (ad 4) (fd 4)
    ["rows", "before", "stamp"] c_new_values) :
    FnD P w K mg base 3 (ad 5) (fd 5) ["rows", "stamps", "now", "many"] (m_thinned c_is_integer c_new_values) :=
  have nd := sc_thinned.nd
FnD.of T.F_thinned sc_thinned fun cdv hcd A outer s H E hr gd tk hp => s_cons (s_if (PW.pt (w_or (t_not (t_val (d_call G_is_integer (hr.mono (by decide)) gd tk T.g_is_integer T.F_is_integer.kp
    T.b_is_integer (a_cons (d_var 3) (a_nil))))) (w_or1 (t_not (t_chn op_le op_le fCmp_ok fCmp_ok (d_int) (d_var 3) (d_len T.z_len (a_cons (d_var 1) (a_nil)))))))) (s_one (s_raise rfl tk
    T.E_InvalidSize (hr.mono (by decide)) T.g_InvalidSize T.K_InvalidSize.nm T.K_InvalidSize.kp T.K_InvalidSize.ec.hs T.K_InvalidSize.ty T.z_super (d_str))) (s_nil)) (s_cons (s_set (i := 4) nd (d_len
    T.z_len (a_cons (d_var 1) (a_nil)))) (s_cons (s_setDc (i := 5) (t := .nm 8) [("before", 8)] rfl nd rfl rfl (sw_trueD rfl rfl rfl (by decide +kernel)) (i_r2 T.z_range (a_cons (d_neg (d_int)) (a_cons
    (d_var 4) (a_nil)))) (blkOk_by (N := nm_thinned) (sc := defScope x_thinned) (by decide +kernel)) (fun _ _ _ _ _ => tg_nm (i := 8) nd) (fun _ _ _ _ _ => l_nil) (fun _ _ _ _ _ => d_var 8) (fun _ _ _
    _ _ => d_tup (a_cons (d_call G_new_values (hr.mono (by decide)) gd takes0 T.g_new_values T.F_new_values.kp T.b_new_values (a_cons (d_var 0) (a_cons (d_if (t_lt (d_var 8) (d_int)) (d_non) (d_ix
    (d_var 1) (d_var 8))) (a_cons (d_var 2) (a_nil))))) (a_cons (d_tup (a_nil)) (a_nil)))) (sl := [8]) (by decide)) (s_cons (s_for hp rfl (i_r2 T.z_range (a_cons (d_int) (a_cons (d_add (d_var 3)
    (d_int)) (a_nil)))) (tg_nm (i := 6) nd) (s_cons (s_set (i := 7) nd (d_dict0)) (s_cons (s_for hp rfl (i_r2 T.z_range (a_cons (d_neg (d_int)) (a_cons (d_sub (d_var 4) (d_var 6)) (a_nil)))) (tg_nm (i
    := 8) nd) (s_cons (s_set (i := 9) nd (d_if (t_lt (d_var 8) (d_int)) (d_non) (d_ix (d_var 1) (d_var 8)))) (s_cons (s_set (i := 10) nd (d_new (a_nil))) (s_cons (s_for hp rfl (i_r2 T.z_range (a_cons
    (d_add (d_var 8) (d_int)) (a_cons (d_add (d_sub (d_var 4) (d_var 6)) (d_int)) (a_nil)))) (tg_nm (i := 11) nd) (s_cons (s_asg (t := .tp [.nm 12, .nm 13]) (d_dget hr.units (d_var 5) (d_var 11))
    (tg_tp (ts := [.nm 12, .nm 13]) rfl (tgs_cons (tg_nm (i := 12) nd) (tgs_cons (tg_nm (i := 13) nd) (tgs_nil))))) (s_one (s_expr (d_app (d_var 10) (a_cons (d_tup (a_cons (d_add (d_call G_new_values
    (hr.mono (by decide)) gd tk T.g_new_values T.F_new_values.kp T.b_new_values (a_cons (d_var 0) (a_cons (d_var 9) (a_cons (d_ix (d_var 1) (d_var 11)) (a_nil))))) (d_var 12)) (a_cons (d_add (d_tup
    (a_cons (d_ix (d_var 1) (d_var 11)) (a_nil))) (d_var 13)) (a_nil)))) (a_nil))))))) (s_one (s_dput (units64 hr) (d_var 7) (d_var 8) (d_minD rfl (units64 hr) T.z_min (a_cons (d_var 10)
    (a_nil))))))))) (s_one (s_set (i := 5) nd (d_var 7)))))) (s_one (s_ret (d_ix (d_dget hr.units (d_var 5) (d_neg (d_int))) (d_int)))))))
noncomputable def m__law_deal : List D → AH → Res D := mFun 5 (mSeq (mSet 2 (mLc false (mSq (mSl (mVar 0) (mNone) (mSome (mK (.int 63))))) (.nm 4) (mYes) (mCall fAbs (mCons (mCall fInt (mCons (mVar 4)
    (mNil))) (mNil))) [4])) (mSeq (mSet 3 (mOp fAdd (mOp fMulA (mK (.int 40127)) (mVar 1)) (mK (.int 863)))) (mSeq (mFor (mSq (mVar 2)) (.nm 4) (mSet 3 (mOp fMod (mCall fInt (mCons (mOp fAdd (mOp fAdd
    (mOp fMulA (mVar 3) (mK (.int 48271))) (mOp fMod (mVar 4) (mK (.int 2147483579)))) (mK (.int 61))) (mNil))) (mK (.int 2147483647))))) (mRet (mNew (mCons (mRev true (mLc false (mSq (mVar 2)) (.nm 4)
    (mTst (mOp fGe (mVar 4) (mOp fPow (mK (.int 10)) (mK (.int 18))))) (mVar 4) [4])) (mCons (mVar 3) (mNil))))))))
theorem w__law_deal {P : Program} {w : World} {K : PySem.W.Frag} {mg : Str → Option Value} {base : Heap} {ad : Nat → Addr} {fd : Nat → FuncData} {tb : Nat → Addr × Addr} (T : Tx P w K mg ad fd tb) :
    FnD P w K mg base 1 (ad 6) (fd 6) ["_law_script", "_law_base"] (m__law_deal) :=
  have nd := sc__law_deal.nd
FnD.of T.F__law_deal sc__law_deal fun cdv hcd A outer s H E hr gd tk hp => s_cons (s_setLc (i := 2) (t := .nm 4) false [("_law_cell", 4)] rfl nd rfl rfl (sw_true rfl rfl rfl (by decide +kernel)) (i_sq
    (d_sl (d_var 0) (o_none) (o_some (d_int)))) (blkOk_by (N := nm__law_deal) (sc := defScope x__law_deal) (by decide +kernel)) (fun _ _ _ _ _ => tg_nm (i := 4) nd) (fun _ _ _ _ _ => l_nil) (fun _ _ _
    _ _ => d_abs T.z_abs (a_cons (d_intf T.z_int (a_cons (d_var 4) (a_nil))) (a_nil))) (sl := [4]) (by decide)) (s_cons (s_set (i := 3) nd (d_add (d_mulA (d_int) (d_var 1)) (d_int))) (s_cons (s_for hp
    rfl (i_sq (d_var 2)) (tg_nm (i := 4) nd) (s_one (s_set (i := 3) nd (d_mod (d_intf T.z_int (a_cons (d_add (d_add (d_mulA (d_var 3) (d_int)) (d_mod (d_var 4) (d_int))) (d_int)) (a_nil))) (d_int)))))
    (s_one (s_ret (d_new (a_cons (d_rev true (d_lc (t := .nm 4) false [("_law_cell", 4)] rfl nd (i_sq (d_var 2)) (blkOk_by (N := nm__law_deal) (sc := defScope x__law_deal) (by decide +kernel)) (fun _ _
    _ _ _ => tg_nm (i := 4) nd) (fun _ _ _ _ _ => l_one (t_ge (d_var 4) (d_pow (d_int) (d_int)))) (fun _ _ _ _ _ => d_var 4) (sl := [4]) (by decide))) (a_cons (d_var 3) (a_nil))))))))
noncomputable def m__law_any : List D → AH → Res D := mFun 3 (mSeq (mWhile (mAnd (mTst (mOp (fEq true) (mOp fIx (mVar 0) (mK (.int 0))) (mLst (mNil)))) (mTst (mOp (fEq false) (mOp fIx (mOp fIx (mVar 0)
    (mK (.int 0))) (mNeg (mK (.int 1)))) (mK (.int 0))))) (mDrop (mPop (mOp fIx (mVar 0) (mK (.int 0)))))) (mSeq (mIfS (mTst (mOp (fEq true) (mOp fIx (mVar 0) (mK (.int 0))) (mLst (mNil)))) (mSeq (mSet
    2 (mCall fInt (mCons (mPop (mOp fIx (mVar 0) (mK (.int 0)))) (mNil)))) (mSeq (mDrop (mMet fApp (mOp fIx (mVar 0) (mK (.int 0))) (mCons (mOp fDiv (mVar 2) (mVar 1)) (mNil)))) (mRet (mOp fMod (mVar
    2) (mVar 1))))) (mNext)) (mSeq (mSto (mOp fMod (mCall fInt (mCons (mOp fAdd (mOp fMulA (mOp fIx (mVar 0) (mK (.int 1))) (mK (.int 48271))) (mK (.int 83))) (mNil))) (mK (.int 2147483647))) (mVar 0)
    (mK (.int 1))) (mRet (mOp fMod (mCall fInt (mCons (mOp fDiv (mOp fIx (mVar 0) (mK (.int 1))) (mK (.int 64))) (mNil))) (mVar 1))))))
theorem w__law_any {P : Program} {w : World} {K : PySem.W.Frag} {mg : Str → Option Value} {base : Heap} {ad : Nat → Addr} {fd : Nat → FuncData} {tb : Nat → Addr × Addr} (T : Tx P w K mg ad fd tb) :
    FnD P w K mg base 1 (ad 7) (fd 7) ["_law_deal_here", "_law_bound"] (m__law_any) :=
  have nd := sc__law_any.nd
FnD.of T.F__law_any sc__law_any fun cdv hcd A outer s H E hr gd tk hp => s_cons (s_while hp (PW.pt (w_and (t_ne hr.units (d_ix (d_var 0) (d_int)) (d_lst (a_nil))) (w_and1 (t_eq hr.units (d_ix (d_ix
    (d_var 0) (d_int)) (d_neg (d_int))) (d_int))))) (s_one (s_expr (d_pop (d_ix (d_var 0) (d_int)))))) (s_cons (s_if (t_ne hr.units (d_ix (d_var 0) (d_int)) (d_lst (a_nil))) (s_cons (s_set (i := 2) nd
    (d_intf T.z_int (a_cons (d_pop (d_ix (d_var 0) (d_int))) (a_nil)))) (s_cons (s_expr (d_app (d_ix (d_var 0) (d_int)) (a_cons (d_div (d_var 2) (d_var 1)) (a_nil)))) (s_one (s_ret (d_mod (d_var 2)
    (d_var 1)))))) (s_nil)) (s_cons (s_setI (d_mod (d_intf T.z_int (a_cons (d_add (d_mulA (d_ix (d_var 0) (d_int)) (d_int)) (d_int)) (a_nil))) (d_int)) (pg_sub (d_var 0) (d_int) set_list)) (s_one
    (s_ret (d_mod (d_intf T.z_int (a_cons (d_div (d_ix (d_var 0) (d_int)) (d_int)) (a_nil))) (d_var 1))))))
noncomputable def m__law_of (c__law_any : List D → AH → Res D) : List D → AH → Res D := mFun 2 (mRet (mOp fIx (mVar 1) (mCallF 2 c__law_any (mCons (mVar 0) (mCons (mCall fLen (mCons (mVar 1) (mNil)))
    (mNil))))))
theorem w__law_of {P : Program} {w : World} {K : PySem.W.Frag} {mg : Str → Option Value} {base : Heap} {ad : Nat → Addr} {fd : Nat → FuncData} {tb : Nat → Addr × Addr} (T : Tx P w K mg ad fd tb)
    {c__law_any : List D → AH → Res D} (G__law_any : FnD P w K mg base 1 (ad 7) (fd 7) ["_law_deal_here", "_law_bound"] c__law_any) :
    FnD P w K mg base 2 (ad 8) (fd 8) ["_law_deal_here", "_law_some"] (m__law_of c__law_any) :=
  have nd := sc__law_of.nd
FnD.of T.F__law_of sc__law_of fun cdv hcd A outer s H E hr gd tk hp => s_one (s_ret (d_ix (d_var 1) (d_call G__law_any (hr.mono (by decide)) gd tk T.g__law_any T.F__law_any.kp T.b__law_any (a_cons
    (d_var 0) (a_cons (d_len T.z_len (a_cons (d_var 1) (a_nil))) (a_nil))))))
noncomputable def m__law_keys (c__law_of : List D → AH → Res D) (c__law_any : List D → AH → Res D) : List D → AH → Res D := mFun 9 (mSeq (mAsg (.tp [.nm 2, .nm 3]) (mTup (mCons (mK (.str
    "abcdefghijklmnopqrstuvwxyz0123456789_")) (mCons (mNew (mNil)) (mNil))))) (mSeq (mSet 4 (mJoin (mK (.str "")) (mLc false (mR1 (mCons (mCallF 2 c__law_of (mCons (mVar 0) (mCons (mLst (mCons (mK
    (.int 0)) (mCons (mK (.int 0)) (mCons (mK (.int 1)) (mCons (mK (.int 2)) (mCons (mK (.int 9)) (mCons (mK (.int 13)) (mNil)))))))) (mNil)))) (mNil))) (.nm 5) (mYes) (mOp fIx (mVar 2) (mCallF 2
    c__law_any (mCons (mVar 0) (mCons (mK (.int 37)) (mNil))))) [5]))) (mSeq (mFor (mR1 (mCons (mOp fMulA (mK (.int 3)) (mVar 1)) (mNil))) (.nm 5) (mSeq (mSet 6 (mCallF 2 c__law_of (mCons (mVar 0)
    (mCons (mLst (mCons (mK (.int 1)) (mCons (mK (.int 1)) (mCons (mK (.int 2)) (mCons (mK (.int 2)) (mCons (mK (.int 2)) (mCons (mK (.int 3)) (mNil)))))))) (mNil))))) (mSeq (mSet 7 (mSlX (mOp fAdd
    (mVar 4) (mJoin (mK (.str "")) (mLc false (mR1 (mCons (mVar 6) (mNil))) (.nm 8) (mYes) (mOp fIx (mVar 2) (mCallF 2 c__law_any (mCons (mVar 0) (mCons (mK (.int 37)) (mNil))))) [8]))) (mNone) (mSome
    (mK (.int 16))))) (mSeq (mIfS (mAnd (mTst (mOp (fIn true) (mVar 7) (mVar 3))) (mTst (mOp fLt (mCall fLen (mCons (mVar 3) (mNil))) (mVar 1)))) (mDrop (mMet fApp (mVar 3) (mCons (mVar 7) (mNil))))
    (mNext)) (mIfS (mAnd (mTst (mOp (fEq true) (mVar 4) (mK (.str "")))) (mAnd (mTst (mOp (fIn true) (mVar 4) (mVar 3))) (mAnd (mTst (mOp fLt (mCall fLen (mCons (mVar 3) (mNil))) (mVar 1))) (mTst (mOp
    (fEq false) (mVar 5) (mK (.int 2))))))) (mDrop (mMet fApp (mVar 3) (mCons (mVar 4) (mNil)))) (mNext)))))) (mRet (mCall fSortS (mCons (mVar 3) (mNil)))))))
theorem w__law_keys {P : Program} {w : World} {K : PySem.W.Frag} {mg : Str → Option Value} {base : Heap} {ad : Nat → Addr} {fd : Nat → FuncData} {tb : Nat → Addr × Addr} (T : Tx P w K mg ad fd tb)
    {c__law_of : List D → AH → Res D} (G__law_of : FnD P w K mg base 2 (ad 8) (fd 8) ["_law_deal_here", "_law_some"] c__law_of) {c__law_any : List D → AH → Res D} (G__law_any : FnD P w K mg base 1 (ad
    7) (fd 7) ["_law_deal_here", "_law_bound"] c__law_any) :
    FnD P w K mg base 3 (ad 9) (fd 9) ["_law_deal_here", "_law_many"] (m__law_keys c__law_of c__law_any) :=
  have nd := sc__law_keys.nd
FnD.of T.F__law_keys sc__law_keys fun cdv hcd A outer s H E hr gd tk hp => s_cons (s_asg (t := .tp [.nm 2, .nm 3]) (d_tup (a_cons (d_str) (a_cons (d_new (a_nil)) (a_nil)))) (tg_tp (ts := [.nm 2, .nm
    3]) rfl (tgs_cons (tg_nm (i := 2) nd) (tgs_cons (tg_nm (i := 3) nd) (tgs_nil))))) (s_cons (s_set (i := 4) nd (d_join (d_str) (d_lc (t := .nm 5) false [("_law_turn", 5)] rfl nd (i_r1 T.z_range
    (a_cons (d_call G__law_of (hr.mono (by decide)) gd tk T.g__law_of T.F__law_of.kp T.b__law_of (a_cons (d_var 0) (a_cons (d_lst (a_cons (d_int) (a_cons (d_int) (a_cons (d_int) (a_cons (d_int) (a_cons
    (d_int) (a_cons (d_int) (a_nil)))))))) (a_nil)))) (a_nil))) (blkOk_by (N := nm__law_keys) (sc := defScope x__law_keys) (by decide +kernel)) (fun _ _ _ _ _ => tg_nm (i := 5) nd) (fun _ _ _ _ _ =>
    l_nil) (fun _ _ _ _ _ => d_ix (d_var 2) (d_call G__law_any (hr.mono (by decide)) gd takes0 T.g__law_any T.F__law_any.kp T.b__law_any (a_cons (d_var 0) (a_cons (d_int) (a_nil))))) (sl := [5])
    (by decide)))) (s_cons (s_for hp rfl (i_r1 T.z_range (a_cons (d_mulA (d_int) (d_var 1)) (a_nil))) (tg_nm (i := 5) nd) (s_cons (s_set (i := 6) nd (d_call G__law_of (hr.mono (by decide)) gd tk
    T.g__law_of T.F__law_of.kp T.b__law_of (a_cons (d_var 0) (a_cons (d_lst (a_cons (d_int) (a_cons (d_int) (a_cons (d_int) (a_cons (d_int) (a_cons (d_int) (a_cons (d_int) (a_nil)))))))) (a_nil)))))
    (s_cons (s_set (i := 7) nd (d_slx (d_add (d_var 4) (d_join (d_str) (d_lc (t := .nm 8) false [("_law_at", 8)] rfl nd (i_r1 T.z_range (a_cons (d_var 6) (a_nil))) (blkOk_by (N := nm__law_keys) (sc :=
    defScope x__law_keys) (by decide +kernel)) (fun _ _ _ _ _ => tg_nm (i := 8) nd) (fun _ _ _ _ _ => l_nil) (fun _ _ _ _ _ => d_ix (d_var 2) (d_call G__law_any (hr.mono (by decide)) gd takes0
    T.g__law_any T.F__law_any.kp T.b__law_any (a_cons (d_var 0) (a_cons (d_int) (a_nil))))) (sl := [8]) (by decide)))) (o_none) (o_some (d_int)))) (s_cons (s_if (PW.pt (w_and (t_nin (d_var 7) (d_var
    3)) (w_and1 (t_lt (d_len T.z_len (a_cons (d_var 3) (a_nil))) (d_var 1))))) (s_one (s_expr (d_app (d_var 3) (a_cons (d_var 7) (a_nil))))) (s_nil)) (s_one (s_if (PW.pt (w_and (t_ne hr.units (d_var 4)
    (d_str)) (w_and (t_nin (d_var 4) (d_var 3)) (w_and (t_lt (d_len T.z_len (a_cons (d_var 3) (a_nil))) (d_var 1)) (w_and1 (t_eq hr.units (d_var 5) (d_int))))))) (s_one (s_expr (d_app (d_var 3) (a_cons
    (d_var 4) (a_nil))))) (s_nil))))))) (s_one (s_ret (d_sortS T.z_sorted (a_cons (d_var 3) (a_nil)))))))
noncomputable def m__law_value (c__law_any : List D → AH → Res D) (c__law_of : List D → AH → Res D) : List D → AH → Res D := mFun 2 (mSeq (mSet 1 (mCallF 2 c__law_any (mCons (mVar 0) (mCons (mK (.int
    7)) (mNil))))) (mRet (mCallF 2 c__law_of (mCons (mVar 0) (mCons (mLst (mCons (mVar 1) (mCons (mVar 1) (mCons (mOp fSub (mOp fPow (mK (.int 10)) (mK (.int 18))) (mVar 1)) (mCons (mK (.str ""))
    (mCons (mK (.str "a")) (mCons (mOp fAdd (mK (.str "A ")) (mCall fStrI (mCons (mVar 1) (mNil)))) (mCons (mOp fMulS (mK (.str "x")) (mK (.int 32))) (mCons (mCall fStrI (mCons (mVar 1) (mNil))) (mCons
    (mOp fSub (mK (.int 0)) (mVar 1)) (mNil))))))))))) (mNil))))))
theorem w__law_value {P : Program} {w : World} {K : PySem.W.Frag} {mg : Str → Option Value} {base : Heap} {ad : Nat → Addr} {fd : Nat → FuncData} {tb : Nat → Addr × Addr} (T : Tx P w K mg ad fd tb)
    {c__law_any : List D → AH → Res D} (G__law_any : FnD P w K mg base 1 (ad 7) (fd 7) ["_law_deal_here", "_law_bound"] c__law_any) {c__law_of : List D → AH → Res D} (G__law_of : FnD P w K mg base 2
    (ad 8) (fd 8) ["_law_deal_here", "_law_some"] c__law_of) :
    FnD P w K mg base 3 (ad 10) (fd 10) ["_law_deal_here"] (m__law_value c__law_any c__law_of) :=
  have nd := sc__law_value.nd
FnD.of T.F__law_value sc__law_value fun cdv hcd A outer s H E hr gd tk hp => s_cons (s_set (i := 1) nd (d_call G__law_any (hr.mono (by decide)) gd tk T.g__law_any T.F__law_any.kp T.b__law_any (a_cons
    (d_var 0) (a_cons (d_int) (a_nil))))) (s_one (s_ret (d_call G__law_of (hr.mono (by decide)) gd tk T.g__law_of T.F__law_of.kp T.b__law_of (a_cons (d_var 0) (a_cons (d_lst (a_cons (d_var 1) (a_cons
    (d_var 1) (a_cons (d_sub (d_pow (d_int) (d_int)) (d_var 1)) (a_cons (d_str) (a_cons (d_str) (a_cons (d_add (d_str) (d_strf T.z_str (a_cons (d_var 1) (a_nil)))) (a_cons (d_mulS (d_str) (d_int))
    (a_cons (d_strf T.z_str (a_cons (d_var 1) (a_nil))) (a_cons (d_sub (d_int) (d_var 1)) (a_nil))))))))))) (a_nil))))))
noncomputable def m__law_row (c__law_any : List D → AH → Res D) (c__law_value : List D → AH → Res D) : List D → AH → Res D := mFun 5 (mSeq (mSet 2 (mCall fSortSet2 (mCons (mLc false (mR1 (mCons (mOp
    fAdd (mK (.int 1)) (mCallF 2 c__law_any (mCons (mVar 0) (mCons (mK (.int 6)) (mNil))))) (mNil))) (.nm 4) (mYes) (mOp fAdd (mK (.int 1)) (mCallF 2 c__law_any (mCons (mVar 0) (mCons (mVar 1)
    (mNil))))) [4]) mNil))) (mRet (mCall fTup (mCons (mLc false (mSq (mVar 2)) (.nm 3) (mYes) (mTup (mCons (mVar 3) (mCons (mIf (mTst (mOp (fEq false) (mCallF 2 c__law_any (mCons (mVar 0) (mCons (mK
    (.int 4)) (mNil)))) (mK (.int 0)))) (mK .non) (mCallF 1 c__law_value (mCons (mVar 0) (mNil)))) (mNil)))) [3]) (mNil)))))
theorem w__law_row {P : Program} {w : World} {K : PySem.W.Frag} {mg : Str → Option Value} {base : Heap} {ad : Nat → Addr} {fd : Nat → FuncData} {tb : Nat → Addr × Addr} (T : Tx P w K mg ad fd tb)
    {c__law_any : List D → AH → Res D} (G__law_any : FnD P w K mg base 1 (ad 7) (fd 7) ["_law_deal_here", "_law_bound"] c__law_any) {c__law_value : List D → AH → Res D} (G__law_value : FnD P w K mg
    base 3 (ad 10) (fd 10) ["_law_deal_here"] c__law_value) :
    FnD P w K mg base 4 (ad 11) (fd 11) ["_law_deal_here", "_law_now"] (m__law_row c__law_any c__law_value) :=
  have nd := sc__law_row.nd
FnD.of T.F__law_row sc__law_row fun cdv hcd A outer s H E hr gd tk hp => s_cons (s_set (i := 2) nd (d_sortSet2 rfl T.z_sorted T.z_set (d_lc (t := .nm 4) false [("_law_turn", 4)] rfl nd (i_r1 T.z_range
    (a_cons (d_add (d_int) (d_call G__law_any (hr.mono (by decide)) gd tk T.g__law_any T.F__law_any.kp T.b__law_any (a_cons (d_var 0) (a_cons (d_int) (a_nil))))) (a_nil))) (blkOk_by (N := nm__law_row)
    (sc := defScope x__law_row) (by decide +kernel)) (fun _ _ _ _ _ => tg_nm (i := 4) nd) (fun _ _ _ _ _ => l_nil) (fun _ _ _ _ _ => d_add (d_int) (d_call G__law_any (hr.mono (by decide)) gd takes0
    T.g__law_any T.F__law_any.kp T.b__law_any (a_cons (d_var 0) (a_cons (d_var 1) (a_nil))))) (sl := [4]) (by decide)))) (s_one (s_ret (d_tuple T.z_tuple (a_cons (d_lc (t := .nm 3) false
    [("_law_stamp", 3)] rfl nd (i_sq (d_var 2)) (blkOk_by (N := nm__law_row) (sc := defScope x__law_row) (by decide +kernel)) (fun _ _ _ _ _ => tg_nm (i := 3) nd) (fun _ _ _ _ _ => l_nil) (fun _ _ _ _
    _ => d_tup (a_cons (d_var 3) (a_cons (d_if (t_eq hr.units (d_call G__law_any (hr.mono (by decide)) gd takes0 T.g__law_any T.F__law_any.kp T.b__law_any (a_cons (d_var 0) (a_cons (d_int) (a_nil))))
    (d_int)) (d_non) (d_call G__law_value (hr.mono (by decide)) gd takes0 T.g__law_value T.F__law_value.kp T.b__law_value (a_cons (d_var 0) (a_nil)))) (a_nil)))) (sl := [3]) (by decide)) (a_nil)))))
noncomputable def m__law_masks : List D → AH → Res D := mFun 12 (mSeq (mSet 3 (mNew (mNil))) (mSeq (mFor (mSq (mVar 0)) (.tp [.nm 4, .nm 5]) (mFor (mEnT (mCons (mVar 5) (mNil))) (.tp [.nm 6, .nm 7])
    (mSeq (mSet 8 (mIf (mTst (mOp fLt (mOp fAdd (mVar 6) (mK (.int 1))) (mCall fLen (mCons (mVar 5) (mNil))))) (mOp fSub (mOp fIx (mOp fIx (mVar 5) (mOp fAdd (mVar 6) (mK (.int 1)))) (mK (.int 0))) (mK
    (.int 1))) (mVar 2))) (mIfS (mTst (mOp (fIsN true) (mOp fIx (mVar 7) (mK (.int 1))) (mK .non))) (mSeq (mSet 9 (mLc false (mEnT (mCons (mOp fAdd (mVar 1) (mTup (mCons (mVar 2) (mNil)))) (mNil)))
    (.tp [.nm 10, .nm 11]) (mTst (mChn fLe fLe (mOp fIx (mVar 7) (mK (.int 0))) (mVar 11) (mVar 8))) (mVar 10) [10, 11])) (mDrop (mMet fApp (mVar 3) (mCons (mCall fSum (mCons (mLc false (mSq (mVar 9))
    (.nm 10) (mYes) (mOp fShl (mK (.int 1)) (mVar 10)) [10]) (mNil))) (mNil))))) (mNext))))) (mRet (mVar 3))))
theorem w__law_masks {P : Program} {w : World} {K : PySem.W.Frag} {mg : Str → Option Value} {base : Heap} {ad : Nat → Addr} {fd : Nat → FuncData} {tb : Nat → Addr × Addr} (T : Tx P w K mg ad fd tb) :
    FnD P w K mg base 1 (ad 12) (fd 12) ["_law_rows", "_law_stamps", "_law_now"] (m__law_masks) :=
  have nd := sc__law_masks.nd
FnD.of T.F__law_masks sc__law_masks fun cdv hcd A outer s H E hr gd tk hp => s_cons (s_set (i := 3) nd (d_new (a_nil))) (s_cons (s_for hp rfl (i_sq (d_var 0)) (tg_tp (ts := [.nm 4, .nm 5]) rfl
    (tgs_cons (tg_nm (i := 4) nd) (tgs_cons (tg_nm (i := 5) nd) (tgs_nil)))) (s_one (s_for hp rfl (i_enT T.z_enumerate (a_cons (d_var 5) (a_nil))) (tg_tp (ts := [.nm 6, .nm 7]) rfl (tgs_cons (tg_nm (i
    := 6) nd) (tgs_cons (tg_nm (i := 7) nd) (tgs_nil)))) (s_cons (s_set (i := 8) nd (d_if (t_lt (d_add (d_var 6) (d_int)) (d_len T.z_len (a_cons (d_var 5) (a_nil)))) (d_sub (d_ix (d_ix (d_var 5) (d_add
    (d_var 6) (d_int))) (d_int)) (d_int)) (d_var 2))) (s_one (s_if (t_isnt (d_ix (d_var 7) (d_int)) (d_non)) (s_cons (s_setLc (i := 9) (t := .tp [.nm 10, .nm 11]) false [("_law_place", 10),
    ("_law_stamp", 11)] rfl nd rfl rfl (sw_true rfl rfl rfl (by decide +kernel)) (i_enT T.z_enumerate (a_cons (d_add (d_var 1) (d_tup (a_cons (d_var 2) (a_nil)))) (a_nil))) (blkOk_by (N :=
    nm__law_masks) (sc := defScope x__law_masks) (by decide +kernel)) (fun _ _ _ _ _ => tg_tp (ts := [.nm 10, .nm 11]) rfl (tgs_cons (tg_nm (i := 10) nd) (tgs_cons (tg_nm (i := 11) nd) (tgs_nil))))
    (fun _ _ _ _ _ => l_one (t_chn op_le op_le fCmp_ok fCmp_ok (d_ix (d_var 7) (d_int)) (d_var 11) (d_var 8))) (fun _ _ _ _ _ => d_var 10) (sl := [10, 11]) (by decide)) (s_one (s_expr (d_app (d_var 3)
    (a_cons (d_sum T.z_sum (a_cons (d_lc (t := .nm 10) false [("_law_place", 10)] rfl nd (i_sq (d_var 9)) (blkOk_by (N := nm__law_masks) (sc := defScope x__law_masks) (by decide +kernel)) (fun _ _ _ _
    _ => tg_nm (i := 10) nd) (fun _ _ _ _ _ => l_nil) (fun _ _ _ _ _ => d_shl (d_int) (d_var 10)) (sl := [10]) (by decide)) (a_nil))) (a_nil)))))) (s_nil))))))) (s_one (s_ret (d_var 3))))
noncomputable def m__law_best : List D → AH → Res D := mFun 11 (mSeq (mAsg (.tp [.nm 3, .nm 4]) (mTup (mCons (mK .non) (mCons (mCall fLen (mCons (mVar 1) (mNil))) (mNil))))) (mSeq (mFor (mR1 (mCons
    (mOp fShl (mK (.int 1)) (mVar 4)) (mNil))) (.nm 5) (mSeq (mSet 6 (mCall fTup (mCons (mLc false (mEnT (mCons (mVar 1) (mNil))) (.tp [.nm 8, .nm 9]) (mTst (mOp (fEq false) (mOp fAnd (mOp fShr (mVar
    5) (mVar 8)) (mK (.int 1))) (mK (.int 1)))) (mVar 9) [8, 9]) (mNil)))) (mIfS (mTst (mOp (fEq false) (mCall fLen (mCons (mVar 6) (mNil))) (mVar 2))) (mSeq (mSet 7 (mCall fLen (mCons (mLc false (mSq
    (mVar 0)) (.nm 10) (mTst (mOp (fEq true) (mOp fAnd (mVar 10) (mOp fOr (mVar 5) (mOp fShl (mK (.int 1)) (mVar 4)))) (mK (.int 0)))) (mVar 10) [10]) (mNil)))) (mIfS (mOr (mTst (mOp (fIsN false) (mVar
    3) (mK .non))) (mTst (mOp fLtD (mTup (mCons (mVar 7) (mCons (mVar 6) (mNil)))) (mVar 3)))) (mSet 3 (mTup (mCons (mVar 7) (mCons (mVar 6) (mNil))))) (mNext))) (mNext)))) (mRet (mVar 3))))
theorem w__law_best {P : Program} {w : World} {K : PySem.W.Frag} {mg : Str → Option Value} {base : Heap} {ad : Nat → Addr} {fd : Nat → FuncData} {tb : Nat → Addr × Addr} (T : Tx P w K mg ad fd tb) :
    FnD P w K mg base 1 (ad 13) (fd 13) ["_law_masks_here", "_law_stamps", "_law_many"] (m__law_best) :=
  have nd := sc__law_best.nd
FnD.of T.F__law_best sc__law_best fun cdv hcd A outer s H E hr gd tk hp => s_cons (s_asg (t := .tp [.nm 3, .nm 4]) (d_tup (a_cons (d_non) (a_cons (d_len T.z_len (a_cons (d_var 1) (a_nil))) (a_nil))))
    (tg_tp (ts := [.nm 3, .nm 4]) rfl (tgs_cons (tg_nm (i := 3) nd) (tgs_cons (tg_nm (i := 4) nd) (tgs_nil))))) (s_cons (s_for hp rfl (i_r1 T.z_range (a_cons (d_shl (d_int) (d_var 4)) (a_nil))) (tg_nm
    (i := 5) nd) (s_cons (s_set (i := 6) nd (d_tuple T.z_tuple (a_cons (d_lc (t := .tp [.nm 8, .nm 9]) false [("_law_place", 8), ("_law_stamp", 9)] rfl nd (i_enT T.z_enumerate (a_cons (d_var 1)
    (a_nil))) (blkOk_by (N := nm__law_best) (sc := defScope x__law_best) (by decide +kernel)) (fun _ _ _ _ _ => tg_tp (ts := [.nm 8, .nm 9]) rfl (tgs_cons (tg_nm (i := 8) nd) (tgs_cons (tg_nm (i := 9)
    nd) (tgs_nil)))) (fun _ _ _ _ _ => l_one (t_eq hr.units (d_and (d_shr (d_var 5) (d_var 8)) (d_int)) (d_int))) (fun _ _ _ _ _ => d_var 9) (sl := [8, 9]) (by decide)) (a_nil)))) (s_one (s_if (t_eq
    hr.units (d_len T.z_len (a_cons (d_var 6) (a_nil))) (d_var 2)) (s_cons (s_set (i := 7) nd (d_len T.z_len (a_cons (d_lc (t := .nm 10) false [("_law_mask", 10)] rfl nd (i_sq (d_var 0)) (blkOk_by (N
    := nm__law_best) (sc := defScope x__law_best) (by decide +kernel)) (fun _ _ _ _ _ => tg_nm (i := 10) nd) (fun _ _ _ _ _ => l_one (t_ne hr.units (d_and (d_var 10) (d_or (d_var 5) (d_shl (d_int)
    (d_var 4)))) (d_int))) (fun _ _ _ _ _ => d_var 10) (sl := [10]) (by decide)) (a_nil)))) (s_one (s_if (PW.pt (w_or (t_is (d_var 3) (d_non)) (w_or1 (t_ltD (units64 hr) (d_tup (a_cons (d_var 7)
    (a_cons (d_var 6) (a_nil)))) (d_var 3))))) (s_one (s_set (i := 3) nd (d_tup (a_cons (d_var 7) (a_cons (d_var 6) (a_nil)))))) (s_nil)))) (s_nil))))) (s_one (s_ret (d_var 3))))
noncomputable def ms__law_heard (c_thinned : List D → AH → Res D) : MS := mSeq (mTry (mDrop (mCallF 4 c_thinned (mCons (mVar 0) (mCons (mVar 1) (mCons (mVar 2) (mCons (mVar 3) (mNil)))))))
    [⟨"InvalidSize", ["InvalidSize"], [], some 4, fun C a d => mRet (mXf C ["InvalidSize"] a d "word" (mVar 4))⟩]) (mRet (mK .non))
noncomputable def m__law_heard (c_thinned : List D → AH → Res D) : List D → AH → Res D := mFun 5 (ms__law_heard c_thinned)
theorem w__law_heard {P : Program} {w : World} {K : PySem.W.Frag} {mg : Str → Option Value} {base : Heap} {ad : Nat → Addr} {fd : Nat → FuncData} {tb : Nat → Addr × Addr} (T : Tx P w K mg ad fd tb)
    {c_thinned : List D → AH → Res D} (G_thinned : FnD P w K mg base 3 (ad 5) (fd 5) ["rows", "stamps", "now", "many"] c_thinned) :
    FnD P w K mg base 4 (ad 14) (fd 14) ["_law_rows", "_law_stamps", "_law_now", "_law_many"] (m__law_heard c_thinned) :=
  have nd := sc__law_heard.nd
FnD.of (ms := ms__law_heard c_thinned) T.F__law_heard sc__law_heard fun cdv hcd A outer s H E hr gd tk hp => s_cons (s_try rfl rfl nd tk (fun W pn xe tk hp => s_one (s_expr (d_call G_thinned (hr.mono
    (by decide)) gd tk T.g_thinned T.F_thinned.kp T.b_thinned (a_cons (d_var 0) (a_cons (d_var 1) (a_cons (d_var 2) (a_cons (d_var 3) (a_nil)))))))) (.cons (hdF_own T.K_InvalidSize (subF_cons
    T.K_InvalidSize T.u_InvalidSize_InvalidSize (subF_nil)) (subF_nil)) (HsM.nil)) (.named (i := 4) rfl rfl ⟨by rfl, by decide, .inl T.g_InvalidSize⟩ (suite_ok fun a oe cls d pn C hz hf hC => s_one
    (s_ret (d_xf (xfF_cons T.K_InvalidSize T.n_InvalidSize_word (xfF_nil)) hC hz hf (d_var 4)))) (HsOk.nil))) (s_one (s_ret (d_non)))
noncomputable def m_law (c__law_deal : List D → AH → Res D) (c__law_any : List D → AH → Res D) (c__law_masks : List D → AH → Res D) (c__law_best : List D → AH → Res D) (c__law_heard : List D → AH → Res
    D) (c_thinned : List D → AH → Res D) (c__law_of : List D → AH → Res D) (c__law_row : List D → AH → Res D) (c__law_keys : List D → AH → Res D) (c_values_kept : List D → AH → Res D) : List D → AH →
    Res D := mFun 18 (mSeq (mSet 1 (mCallF 2 c__law_deal (mCons (mVar 0) (mCons (mK (.int 67)) (mNil))))) (mSeq (mSet 2 (mOp fAdd (mK (.int 3)) (mCallF 2 c__law_any (mCons (mVar 1) (mCons (mK (.int
    12)) (mNil)))))) (mSeq (mSet 3 (mCall fTup (mCons (mLc false (mSq (mCallF 2 c__law_keys (mCons (mVar 1) (mCons (mCallF 2 c__law_any (mCons (mVar 1) (mCons (mK (.int 8)) (mNil)))) (mNil))))) (.nm
    13) (mYes) (mTup (mCons (mVar 13) (mCons (mCallF 2 c__law_row (mCons (mVar 1) (mCons (mVar 2) (mNil)))) (mNil)))) [13]) (mNil)))) (mSeq (mSet 4 (mCall fTup (mCons (mCall fSortSet2 (mCons (mLc false
    (mR1 (mCons (mCallF 2 c__law_of (mCons (mVar 1) (mCons (mLst (mCons (mK (.int 0)) (mCons (mK (.int 2)) (mCons (mK (.int 4)) (mCons (mK (.int 8)) (mCons (mK (.int 8)) (mNil))))))) (mNil)))) (mNil)))
    (.nm 17) (mYes) (mCallF 2 c__law_any (mCons (mVar 1) (mCons (mOp fAdd (mVar 2) (mK (.int 1))) (mNil)))) [17]) mNil)) (mNil)))) (mSeq (mPar2 5 6 (mCons (mCallF 3 c__law_masks (mCons (mVar 3) (mCons
    (mVar 4) (mCons (mVar 2) (mNil))))) (mCons (mCall fLen (mCons (mVar 4) (mNil))) (mNil)))) (mSeq (mSet 7 (mCall fTup (mCons (mLc false (mSq (mVar 4)) (.nm 14) (mTst (mOp (fEq false) (mCallF 2
    c__law_any (mCons (mVar 1) (mCons (mK (.int 2)) (mNil)))) (mK (.int 0)))) (mVar 14) [14]) (mNil)))) (mSeq (mSet 8 (mOp fOr (mCall fSum (mCons (mLc false (mEnT (mCons (mVar 4) (mNil))) (.tp [.nm 16,
    .nm 14]) (mTst (mOp (fIn false) (mVar 14) (mVar 7))) (mOp fShl (mK (.int 1)) (mVar 16)) [16, 14]) (mNil))) (mOp fShl (mK (.int 1)) (mVar 6)))) (mSeq (mSet 9 (mCall fLen (mCons (mLc false (mSq (mVar
    5)) (.nm 15) (mTst (mOp (fEq true) (mOp fAnd (mVar 15) (mVar 8)) (mK (.int 0)))) (mVar 15) [15]) (mNil)))) (mSeq (mIfS (mOr (mTst (mOp (fEq true) (mCall fRepr (mCons (mCallF 3 c_values_kept (mCons
    (mVar 3) (mCons (mVar 7) (mCons (mVar 2) (mNil))))) (mNil))) (mCall fRepr (mCons (mVar 9) (mNil))))) (mTst (mOp (fEq true) (mCall fRepr (mCons (mCallK 0 3 3 [2, 1, 0] c_values_kept mNil (mCons
    (mVar 2) (mCons (mVar 7) (mCons (mVar 3) (mNil))))) (mNil))) (mCall fRepr (mCons (mVar 9) (mNil)))))) (mRet (mK (.bl false))) (mNext)) (mSeq (mFor (mSq (mLst (mCons (mCallF 2 c__law_any (mCons
    (mVar 1) (mCons (mOp fAdd (mVar 6) (mK (.int 1))) (mNil)))) (mCons (mVar 6) (mCons (mOp fDiv (mVar 6) (mK (.int 2))) (mNil)))))) (.nm 10) (mSeq (mSet 11 (mCallF 3 c__law_best (mCons (mVar 5) (mCons
    (mVar 4) (mCons (mVar 10) (mNil)))))) (mSeq (mSet 12 (mIf (mTst (mOp fLt (mVar 10) (mVar 6))) (mCallF 4 c_thinned (mCons (mVar 3) (mCons (mVar 4) (mCons (mVar 2) (mCons (mVar 10) (mNil))))))
    (mCallK 0 4 4 [3, 2, 1, 0] c_thinned mNil (mCons (mVar 10) (mCons (mVar 2) (mCons (mVar 4) (mCons (mVar 3) (mNil)))))))) (mIfS (mOr (mTst (mOp (fEq true) (mCall fRepr (mCons (mVar 12) (mNil)))
    (mCall fRepr (mCons (mOp fIx (mVar 11) (mK (.int 1))) (mNil))))) (mTst (mOp (fEq true) (mCall fRepr (mCons (mCallF 3 c_values_kept (mCons (mVar 3) (mCons (mVar 12) (mCons (mVar 2) (mNil)))))
    (mNil))) (mCall fRepr (mCons (mOp fIx (mVar 11) (mK (.int 0))) (mNil)))))) (mRet (mK (.bl false))) (mNext))))) (mRet (mOp (fEq false) (mCallF 4 c__law_heard (mCons (mVar 3) (mCons (mVar 4) (mCons
    (mVar 2) (mCons (mCallF 2 c__law_of (mCons (mVar 1) (mCons (mLst (mCons (mNeg (mK (.int 1))) (mCons (mOp fAdd (mVar 6) (mK (.int 1))) (mCons (mK .non) (mCons (mK (.str "1")) (mCons (mK (.bl true))
    (mCons (mTup (mCons (mK (.int 1)) (mNil))) (mNil)))))))) (mNil)))) (mNil)))))) (mK (.str "many"))))))))))))))
theorem w_law {P : Program} {w : World} {K : PySem.W.Frag} {mg : Str → Option Value} {base : Heap} {ad : Nat → Addr} {fd : Nat → FuncData} {tb : Nat → Addr × Addr} (T : Tx P w K mg ad fd tb)
    {c__law_deal : List D → AH → Res D} (G__law_deal : FnD P w K mg base 1 (ad 6) (fd 6) ["_law_script", "_law_base"] c__law_deal) {c__law_any : List D → AH → Res D} (G__law_any : FnD P w K mg base 1
    (ad 7) (fd 7) ["_law_deal_here", "_law_bound"] c__law_any) {c__law_masks : List D → AH → Res D} (G__law_masks : FnD P w K mg base 1 (ad 12) (fd 12) ["_law_rows", "_law_stamps", "_law_now"]
    c__law_masks) {c__law_best : List D → AH → Res D} (G__law_best : FnD P w K mg base 1 (ad 13) (fd 13) ["_law_masks_here", "_law_stamps", "_law_many"] c__law_best) {c__law_heard : List D → AH → Res
    D} (G__law_heard : FnD P w K mg base 4 (ad 14) (fd 14) ["_law_rows", "_law_stamps", "_law_now", "_law_many"] c__law_heard) {c_thinned : List D → AH → Res D} (G_thinned : FnD P w K mg base 3 (ad 5)
    (fd 5) ["rows", "stamps", "now", "many"] c_thinned) {c__law_of : List D → AH → Res D} (G__law_of : FnD P w K mg base 2 (ad 8) (fd 8) ["_law_deal_here", "_law_some"] c__law_of) {c__law_row : List D
    → AH → Res D} (G__law_row : FnD P w K mg base 4 (ad 11) (fd 11) ["_law_deal_here", "_law_now"] c__law_row) {c__law_keys : List D → AH → Res D} (G__law_keys : FnD P w K mg base 3 (ad 9) (fd 9)
    ["_law_deal_here", "_law_many"] c__law_keys) {c_values_kept : List D → AH → Res D} (G_values_kept : FnD P w K mg base 3 (ad 3) (fd 3) ["rows", "stamps", "now"] c_values_kept) :
    FnD P w K mg base 5 (ad 15) (fd 15) ["_law_script"] (m_law c__law_deal c__law_any c__law_masks c__law_best c__law_heard c_thinned c__law_of c__law_row c__law_keys c_values_kept) :=
  have nd := sc_law.nd
FnD.of T.F_law sc_law fun cdv hcd A outer s H E hr gd tk hp => s_cons (s_set (i := 1) nd (d_call G__law_deal (hr.mono (by decide)) gd tk T.g__law_deal T.F__law_deal.kp T.b__law_deal (a_cons (d_var 0)
    (a_cons (d_int) (a_nil))))) (s_cons (s_set (i := 2) nd (d_add (d_int) (d_call G__law_any (hr.mono (by decide)) gd tk T.g__law_any T.F__law_any.kp T.b__law_any (a_cons (d_var 1) (a_cons (d_int)
    (a_nil)))))) (s_cons (s_set (i := 3) nd (d_tuple T.z_tuple (a_cons (d_lc (t := .nm 13) false [("_law_key", 13)] rfl nd (i_sq (d_call G__law_keys (hr.mono (by decide)) gd tk T.g__law_keys
    T.F__law_keys.kp T.b__law_keys (a_cons (d_var 1) (a_cons (d_call G__law_any (hr.mono (by decide)) gd tk T.g__law_any T.F__law_any.kp T.b__law_any (a_cons (d_var 1) (a_cons (d_int) (a_nil))))
    (a_nil))))) (blkOk_by (N := nm_law) (sc := defScope x_law) (by decide +kernel)) (fun _ _ _ _ _ => tg_nm (i := 13) nd) (fun _ _ _ _ _ => l_nil) (fun _ _ _ _ _ => d_tup (a_cons (d_var 13) (a_cons
    (d_call G__law_row (hr.mono (by decide)) gd takes0 T.g__law_row T.F__law_row.kp T.b__law_row (a_cons (d_var 1) (a_cons (d_var 2) (a_nil)))) (a_nil)))) (sl := [13]) (by decide)) (a_nil)))) (s_cons
    (s_set (i := 4) nd (d_tuple T.z_tuple (a_cons (d_sortSet2 rfl T.z_sorted T.z_set (d_lc (t := .nm 17) false [("_law_turn", 17)] rfl nd (i_r1 T.z_range (a_cons (d_call G__law_of (hr.mono (by decide))
    gd tk T.g__law_of T.F__law_of.kp T.b__law_of (a_cons (d_var 1) (a_cons (d_lst (a_cons (d_int) (a_cons (d_int) (a_cons (d_int) (a_cons (d_int) (a_cons (d_int) (a_nil))))))) (a_nil)))) (a_nil)))
    (blkOk_by (N := nm_law) (sc := defScope x_law) (by decide +kernel)) (fun _ _ _ _ _ => tg_nm (i := 17) nd) (fun _ _ _ _ _ => l_nil) (fun _ _ _ _ _ => d_call G__law_any (hr.mono (by decide)) gd
    takes0 T.g__law_any T.F__law_any.kp T.b__law_any (a_cons (d_var 1) (a_cons (d_add (d_var 2) (d_int)) (a_nil)))) (sl := [17]) (by decide))) (a_nil)))) (s_cons (s_par2 (i := 5) (j := 6) rfl nd rfl
    rfl (by decide) rfl rfl (a_cons (d_call G__law_masks (hr.mono (by decide)) gd tk T.g__law_masks T.F__law_masks.kp T.b__law_masks (a_cons (d_var 3) (a_cons (d_var 4) (a_cons (d_var 2) (a_nil)))))
    (a_cons (d_len T.z_len (a_cons (d_var 4) (a_nil))) (a_nil))) (by rfl)) (s_cons (s_set (i := 7) nd (d_tuple T.z_tuple (a_cons (d_lc (t := .nm 14) false [("_law_stamp", 14)] rfl nd (i_sq (d_var 4))
    (blkOk_by (N := nm_law) (sc := defScope x_law) (by decide +kernel)) (fun _ _ _ _ _ => tg_nm (i := 14) nd) (fun _ _ _ _ _ => l_one (t_eq hr.units (d_call G__law_any (hr.mono (by decide)) gd takes0
    T.g__law_any T.F__law_any.kp T.b__law_any (a_cons (d_var 1) (a_cons (d_int) (a_nil)))) (d_int))) (fun _ _ _ _ _ => d_var 14) (sl := [14]) (by decide)) (a_nil)))) (s_cons (s_set (i := 8) nd (d_or
    (d_sum T.z_sum (a_cons (d_lc (t := .tp [.nm 16, .nm 14]) false [("_law_place", 16), ("_law_stamp", 14)] rfl nd (i_enT T.z_enumerate (a_cons (d_var 4) (a_nil))) (blkOk_by (N := nm_law) (sc :=
    defScope x_law) (by decide +kernel)) (fun _ _ _ _ _ => tg_tp (ts := [.nm 16, .nm 14]) rfl (tgs_cons (tg_nm (i := 16) nd) (tgs_cons (tg_nm (i := 14) nd) (tgs_nil)))) (fun _ _ _ _ _ => l_one (t_in
    (d_var 14) (d_var 7))) (fun _ _ _ _ _ => d_shl (d_int) (d_var 16)) (sl := [16, 14]) (by decide)) (a_nil))) (d_shl (d_int) (d_var 6)))) (s_cons (s_set (i := 9) nd (d_len T.z_len (a_cons (d_lc (t :=
    .nm 15) false [("_law_mask", 15)] rfl nd (i_sq (d_var 5)) (blkOk_by (N := nm_law) (sc := defScope x_law) (by decide +kernel)) (fun _ _ _ _ _ => tg_nm (i := 15) nd) (fun _ _ _ _ _ => l_one (t_ne
    hr.units (d_and (d_var 15) (d_var 8)) (d_int))) (fun _ _ _ _ _ => d_var 15) (sl := [15]) (by decide)) (a_nil)))) (s_cons (s_if (PW.pt (w_or (t_ne hr.units (d_repr gd hr.units T.z_repr (a_cons
    (d_call G_values_kept (hr.mono (by decide)) gd tk T.g_values_kept T.F_values_kept.kp T.b_values_kept (a_cons (d_var 3) (a_cons (d_var 7) (a_cons (d_var 2) (a_nil))))) (a_nil))) (d_repr gd hr.units
    T.z_repr (a_cons (d_var 9) (a_nil)))) (w_or1 (t_ne hr.units (d_repr gd hr.units T.z_repr (a_cons (d_callK0 (ks := ["now", "stamps", "rows"]) (pm := [2, 1, 0]) G_values_kept (hr.mono (by decide)) gd
    tk T.g_values_kept T.F_values_kept.kp T.k_values_kept_now_stamps_rows (k_cons (d_var 2) (k_cons (d_var 7) (k_cons (d_var 3) (k_nil))))) (a_nil))) (d_repr gd hr.units T.z_repr (a_cons (d_var 9)
    (a_nil))))))) (s_one (s_ret (d_bl))) (s_nil)) (s_cons (s_for hp rfl (i_sq (d_lst (a_cons (d_call G__law_any (hr.mono (by decide)) gd tk T.g__law_any T.F__law_any.kp T.b__law_any (a_cons (d_var 1)
    (a_cons (d_add (d_var 6) (d_int)) (a_nil)))) (a_cons (d_var 6) (a_cons (d_div (d_var 6) (d_int)) (a_nil)))))) (tg_nm (i := 10) nd) (s_cons (s_set (i := 11) nd (d_call G__law_best (hr.mono
    (by decide)) gd tk T.g__law_best T.F__law_best.kp T.b__law_best (a_cons (d_var 5) (a_cons (d_var 4) (a_cons (d_var 10) (a_nil)))))) (s_cons (s_set (i := 12) nd (d_if (t_lt (d_var 10) (d_var 6))
    (d_call G_thinned (hr.mono (by decide)) gd tk T.g_thinned T.F_thinned.kp T.b_thinned (a_cons (d_var 3) (a_cons (d_var 4) (a_cons (d_var 2) (a_cons (d_var 10) (a_nil)))))) (d_callK0 (ks := ["many",
    "now", "stamps", "rows"]) (pm := [3, 2, 1, 0]) G_thinned (hr.mono (by decide)) gd tk T.g_thinned T.F_thinned.kp T.k_thinned_many_now_stamps_rows (k_cons (d_var 10) (k_cons (d_var 2) (k_cons (d_var
    4) (k_cons (d_var 3) (k_nil)))))))) (s_one (s_if (PW.pt (w_or (t_ne hr.units (d_repr gd hr.units T.z_repr (a_cons (d_var 12) (a_nil))) (d_repr gd hr.units T.z_repr (a_cons (d_ix (d_var 11) (d_int))
    (a_nil)))) (w_or1 (t_ne hr.units (d_repr gd hr.units T.z_repr (a_cons (d_call G_values_kept (hr.mono (by decide)) gd tk T.g_values_kept T.F_values_kept.kp T.b_values_kept (a_cons (d_var 3) (a_cons
    (d_var 12) (a_cons (d_var 2) (a_nil))))) (a_nil))) (d_repr gd hr.units T.z_repr (a_cons (d_ix (d_var 11) (d_int)) (a_nil))))))) (s_one (s_ret (d_bl))) (s_nil)))))) (s_one (s_ret (d_eq hr.units
    (d_call G__law_heard (hr.mono (by decide)) gd tk T.g__law_heard T.F__law_heard.kp T.b__law_heard (a_cons (d_var 3) (a_cons (d_var 4) (a_cons (d_var 2) (a_cons (d_call G__law_of (hr.mono
    (by decide)) gd tk T.g__law_of T.F__law_of.kp T.b__law_of (a_cons (d_var 1) (a_cons (d_lst (a_cons (d_neg (d_int)) (a_cons (d_add (d_var 6) (d_int)) (a_cons (d_non) (a_cons (d_str) (a_cons (d_bl)
    (a_cons (d_tup (a_cons (d_int) (a_nil))) (a_nil)))))))) (a_nil)))) (a_nil)))))) (d_str)))))))))))))
/-! ### the facts, gathered -/
theorem tx_mk {P : Program} {w : World} {K : PySem.W.Frag} {h : Heap} {mg : Str → Option Value} (X : K.In h) (G : h.Ns mainGlobals mg) {f0 f1 f2 f3 f4 f5 f6 f7 f8 f9 f10 f11 f12 f13 f14 f15 f16 f17 f19 : Addr}
    {oc0 kV0 dc0 pm0 cd0 ct0 : Value} {od0 an0 : Option Addr} {sl0 : Array (Option Value)}
    (a0 : PySem.W.nsIn K mainGlobals "is_integer" = some (some (.ref f0)))
    (l0 : K.lookup f0 = some ⟨oc0, od0, .func (PySem.W.fnOf "is_integer" "is_integer" (defArgs x_is_integer) (defBody x_is_integer) (defScope x_is_integer) .none kV0 dc0 pm0 an0 cd0 ct0), sl0⟩)
    (c0 : PySem.W.codeIn K cd0 "is_integer" = true)
    (k0 : PySem.W.keepIn K (.ref f0) = true)
    {oc1 kV1 dc1 pm1 cd1 ct1 : Value} {od1 an1 : Option Addr} {sl1 : Array (Option Value)}
    (a1 : PySem.W.nsIn K mainGlobals "spans" = some (some (.ref f1)))
    (l1 : K.lookup f1 = some ⟨oc1, od1, .func (PySem.W.fnOf "spans" "spans" (defArgs x_spans) (defBody x_spans) (defScope x_spans) .none kV1 dc1 pm1 an1 cd1 ct1), sl1⟩)
    (c1 : PySem.W.codeIn K cd1 "spans" = true)
    (k1 : PySem.W.keepIn K (.ref f1) = true)
    {oc2 kV2 dc2 pm2 cd2 ct2 : Value} {od2 an2 : Option Addr} {sl2 : Array (Option Value)}
    (a2 : PySem.W.nsIn K mainGlobals "sees" = some (some (.ref f2)))
    (l2 : K.lookup f2 = some ⟨oc2, od2, .func (PySem.W.fnOf "sees" "sees" (defArgs x_sees) (defBody x_sees) (defScope x_sees) .none kV2 dc2 pm2 an2 cd2 ct2), sl2⟩)
    (c2 : PySem.W.codeIn K cd2 "sees" = true)
    (k2 : PySem.W.keepIn K (.ref f2) = true)
    {oc3 kV3 dc3 pm3 cd3 ct3 : Value} {od3 an3 : Option Addr} {sl3 : Array (Option Value)}
    (a3 : PySem.W.nsIn K mainGlobals "values_kept" = some (some (.ref f3)))
    (l3 : K.lookup f3 = some ⟨oc3, od3, .func (PySem.W.fnOf "values_kept" "values_kept" (defArgs x_values_kept) (defBody x_values_kept) (defScope x_values_kept) .none kV3 dc3 pm3 an3 cd3 ct3), sl3⟩)
    (c3 : PySem.W.codeIn K cd3 "values_kept" = true)
    (k3 : PySem.W.keepIn K (.ref f3) = true)
    {oc4 kV4 dc4 pm4 cd4 ct4 : Value} {od4 an4 : Option Addr} {sl4 : Array (Option Value)}
    (a4 : PySem.W.nsIn K mainGlobals "new_values" = some (some (.ref f4)))
    (l4 : K.lookup f4 = some ⟨oc4, od4, .func (PySem.W.fnOf "new_values" "new_values" (defArgs x_new_values) (defBody x_new_values) (defScope x_new_values) .none kV4 dc4 pm4 an4 cd4 ct4), sl4⟩)
    (c4 : PySem.W.codeIn K cd4 "new_values" = true)
    (k4 : PySem.W.keepIn K (.ref f4) = true)
    {oc5 kV5 dc5 pm5 cd5 ct5 : Value} {od5 an5 : Option Addr} {sl5 : Array (Option Value)}
    (a5 : PySem.W.nsIn K mainGlobals "thinned" = some (some (.ref f5)))
    (l5 : K.lookup f5 = some ⟨oc5, od5, .func (PySem.W.fnOf "thinned" "thinned" (defArgs x_thinned) (defBody x_thinned) (defScope x_thinned) .none kV5 dc5 pm5 an5 cd5 ct5), sl5⟩)
    (c5 : PySem.W.codeIn K cd5 "thinned" = true)
    (k5 : PySem.W.keepIn K (.ref f5) = true)
    {oc6 kV6 dc6 pm6 cd6 ct6 : Value} {od6 an6 : Option Addr} {sl6 : Array (Option Value)}
    (a6 : PySem.W.nsIn K mainGlobals "_law_deal" = some (some (.ref f6)))
    (l6 : K.lookup f6 = some ⟨oc6, od6, .func (PySem.W.fnOf "_law_deal" "_law_deal" (defArgs x__law_deal) (defBody x__law_deal) (defScope x__law_deal) .none kV6 dc6 pm6 an6 cd6 ct6), sl6⟩)
    (c6 : PySem.W.codeIn K cd6 "_law_deal" = true)
    (k6 : PySem.W.keepIn K (.ref f6) = true)
    {oc7 kV7 dc7 pm7 cd7 ct7 : Value} {od7 an7 : Option Addr} {sl7 : Array (Option Value)}
    (a7 : PySem.W.nsIn K mainGlobals "_law_any" = some (some (.ref f7)))
    (l7 : K.lookup f7 = some ⟨oc7, od7, .func (PySem.W.fnOf "_law_any" "_law_any" (defArgs x__law_any) (defBody x__law_any) (defScope x__law_any) .none kV7 dc7 pm7 an7 cd7 ct7), sl7⟩)
    (c7 : PySem.W.codeIn K cd7 "_law_any" = true)
    (k7 : PySem.W.keepIn K (.ref f7) = true)
    {oc8 kV8 dc8 pm8 cd8 ct8 : Value} {od8 an8 : Option Addr} {sl8 : Array (Option Value)}
    (a8 : PySem.W.nsIn K mainGlobals "_law_of" = some (some (.ref f8)))
    (l8 : K.lookup f8 = some ⟨oc8, od8, .func (PySem.W.fnOf "_law_of" "_law_of" (defArgs x__law_of) (defBody x__law_of) (defScope x__law_of) .none kV8 dc8 pm8 an8 cd8 ct8), sl8⟩)
    (c8 : PySem.W.codeIn K cd8 "_law_of" = true)
    (k8 : PySem.W.keepIn K (.ref f8) = true)
    {oc9 kV9 dc9 pm9 cd9 ct9 : Value} {od9 an9 : Option Addr} {sl9 : Array (Option Value)}
    (a9 : PySem.W.nsIn K mainGlobals "_law_keys" = some (some (.ref f9)))
    (l9 : K.lookup f9 = some ⟨oc9, od9, .func (PySem.W.fnOf "_law_keys" "_law_keys" (defArgs x__law_keys) (defBody x__law_keys) (defScope x__law_keys) .none kV9 dc9 pm9 an9 cd9 ct9), sl9⟩)
    (c9 : PySem.W.codeIn K cd9 "_law_keys" = true)
    (k9 : PySem.W.keepIn K (.ref f9) = true)
    {oc10 kV10 dc10 pm10 cd10 ct10 : Value} {od10 an10 : Option Addr} {sl10 : Array (Option Value)}
    (a10 : PySem.W.nsIn K mainGlobals "_law_value" = some (some (.ref f10)))
    (l10 : K.lookup f10 = some ⟨oc10, od10, .func (PySem.W.fnOf "_law_value" "_law_value" (defArgs x__law_value) (defBody x__law_value) (defScope x__law_value) .none kV10 dc10 pm10 an10 cd10 ct10), sl10⟩)
    (c10 : PySem.W.codeIn K cd10 "_law_value" = true)
    (k10 : PySem.W.keepIn K (.ref f10) = true)
    {oc11 kV11 dc11 pm11 cd11 ct11 : Value} {od11 an11 : Option Addr} {sl11 : Array (Option Value)}
    (a11 : PySem.W.nsIn K mainGlobals "_law_row" = some (some (.ref f11)))
    (l11 : K.lookup f11 = some ⟨oc11, od11, .func (PySem.W.fnOf "_law_row" "_law_row" (defArgs x__law_row) (defBody x__law_row) (defScope x__law_row) .none kV11 dc11 pm11 an11 cd11 ct11), sl11⟩)
    (c11 : PySem.W.codeIn K cd11 "_law_row" = true)
    (k11 : PySem.W.keepIn K (.ref f11) = true)
    {oc12 kV12 dc12 pm12 cd12 ct12 : Value} {od12 an12 : Option Addr} {sl12 : Array (Option Value)}
    (a12 : PySem.W.nsIn K mainGlobals "_law_masks" = some (some (.ref f12)))
    (l12 : K.lookup f12 = some ⟨oc12, od12, .func (PySem.W.fnOf "_law_masks" "_law_masks" (defArgs x__law_masks) (defBody x__law_masks) (defScope x__law_masks) .none kV12 dc12 pm12 an12 cd12 ct12), sl12⟩)
    (c12 : PySem.W.codeIn K cd12 "_law_masks" = true)
    (k12 : PySem.W.keepIn K (.ref f12) = true)
    {oc13 kV13 dc13 pm13 cd13 ct13 : Value} {od13 an13 : Option Addr} {sl13 : Array (Option Value)}
    (a13 : PySem.W.nsIn K mainGlobals "_law_best" = some (some (.ref f13)))
    (l13 : K.lookup f13 = some ⟨oc13, od13, .func (PySem.W.fnOf "_law_best" "_law_best" (defArgs x__law_best) (defBody x__law_best) (defScope x__law_best) .none kV13 dc13 pm13 an13 cd13 ct13), sl13⟩)
    (c13 : PySem.W.codeIn K cd13 "_law_best" = true)
    (k13 : PySem.W.keepIn K (.ref f13) = true)
    {oc14 kV14 dc14 pm14 cd14 ct14 : Value} {od14 an14 : Option Addr} {sl14 : Array (Option Value)}
    (a14 : PySem.W.nsIn K mainGlobals "_law_heard" = some (some (.ref f14)))
    (l14 : K.lookup f14 = some ⟨oc14, od14, .func (PySem.W.fnOf "_law_heard" "_law_heard" (defArgs x__law_heard) (defBody x__law_heard) (defScope x__law_heard) .none kV14 dc14 pm14 an14 cd14 ct14), sl14⟩)
    (c14 : PySem.W.codeIn K cd14 "_law_heard" = true)
    (k14 : PySem.W.keepIn K (.ref f14) = true)
    {oc15 kV15 dc15 pm15 cd15 ct15 : Value} {od15 an15 : Option Addr} {sl15 : Array (Option Value)}
    (a15 : PySem.W.nsIn K mainGlobals "law" = some (some (.ref f15)))
    (l15 : K.lookup f15 = some ⟨oc15, od15, .func (PySem.W.fnOf "law" "law" (defArgs x_law) (defBody x_law) (defScope x_law) .none kV15 dc15 pm15 an15 cd15 ct15), sl15⟩)
    (c15 : PySem.W.codeIn K cd15 "law" = true)
    (k15 : PySem.W.keepIn K (.ref f15) = true)
    (sp : PySem.W.specialIn K (.builtin "object.__class__") "__get__" = some (some (.builtin "getset_descriptor.__get__")))
    (tp : PySem.W.takesIn K (.builtin "object.__class__") = some true)
    (tq : PySem.W.nsIn K cStatics "thirdparty.any" = some none)
    (tr : (P.main.scope.names.lookup ("super" : Str)).isSome = false)
    (ea16 : PySem.W.nsIn K mainGlobals "StoreError" = some (some (.ref f16)))
    (eb16 : PySem.W.findIn K (.ref f16) "__getattribute__" = some (some (.builtin "BaseException.__getattribute__")))
    (ec16 : PySem.W.findIn K (.ref f16) "__getattr__" = some none)
    (ed16 : PySem.W.subIn K (.ref f16) (.type "BaseException") = some true)
    (ee16 : PySem.W.hasDictIn K f16 = true)
    (ef16 : PySem.W.findIn K (.ref f16) "__class__" = some (some (.builtin "object.__class__")))
    (eg16 : PySem.W.mroIn K f16 (.type "object") = some true)
    (eh16 : PySem.W.typeIn K (.ref f16) = some (.type "type"))
    (ei16 : PySem.W.keepIn K (.ref f16) = true)
    (ej16 : PySem.W.subIn K (.ref f16) (.ref f16) = some true)
    (ea17 : PySem.W.nsIn K mainGlobals "InvalidSize" = some (some (.ref f17)))
    (eb17 : PySem.W.findIn K (.ref f17) "__getattribute__" = some (some (.builtin "BaseException.__getattribute__")))
    (ec17 : PySem.W.findIn K (.ref f17) "__getattr__" = some none)
    (ed17 : PySem.W.subIn K (.ref f17) (.type "BaseException") = some true)
    (ee17 : PySem.W.hasDictIn K f17 = true)
    (ef17 : PySem.W.findIn K (.ref f17) "__class__" = some (some (.builtin "object.__class__")))
    (eg17 : PySem.W.mroIn K f17 (.type "object") = some true)
    (eh17 : PySem.W.typeIn K (.ref f17) = some (.type "type"))
    (ei17 : PySem.W.keepIn K (.ref f17) = true)
    (ej17 : PySem.W.subIn K (.ref f17) (.ref f17) = some true)
    (en17_word : PySem.W.findIn K (.ref f17) "word" = some none)
    (eu17_17 : PySem.W.subIn K (.ref f17) (.ref f17) = some true)
    {nm17 qn17 : Str} {N17 : Addr} {bs17 bm17 : List Value} {sn17 : List Str} {sb17 : List Value} {ab17 : Bool} {cl17 : Option Bool} {dd17 : Option Addr} {ka17 kb17 kc17 kd17 ke17 : Option Value}
    {oc17 kV17 dc17 pm17 ct17 ccl17 cel17 : Value} {od17 an17 cdd17 cld17 : Option Addr} {sl17 ccs17 csl17 : Array (Option Value)} {qual17 file17 : Str} {cda17 cc17 : Addr} {vs17 : Array Value} {tf17 : Tok}
    (xa17 : K.lookup f17 = some (excClassObj nm17 qn17 f17 N17 bs17 bm17 true sn17 sb17 ab17 cl17 dd17 ka17 kb17 kc17 kd17 ke17 "Exception.__new__"))
    (xb17 : ErE.Line [.type "Exception", .type "BaseException", .type "object"] bm17)
    (xc17 : PySem.W.findIn K (.ref f17) "__setattr__" = some (some (.builtin "object.__setattr__")))
    (xd17 : PySem.W.findIn K (.ref f17) "__init__" = some (some (.ref f19)))
    (xe17 : PySem.W.typeIn K (.ref f19) = some (.type "function"))
    (xf17 : PySem.W.ks_superIn K f17 f17 "__init__" = some (some (.builtin "Exception.__init__")))
    (xg17 : PySem.W.subIn K (.ref f17) (.type "Exception") = some true)
    (xh17 : K.lookup f19 = some ⟨oc17, od17, .func (PySem.W.ksFn "__init__" qual17 (defArgs (methAt x_InvalidSize 0)) (defBody (methAt x_InvalidSize 0)) (defScope (methAt x_InvalidSize 0)) .none kV17 dc17 pm17 an17 (.ref cda17) ct17 cc17), sl17⟩)
    (xi17 : PySem.W.codeIn K (.ref cda17) qual17 = true)
    (xj17 : K.lookup cda17 = some ⟨ccl17, cdd17, .fields vs17, ccs17⟩)
    (xk17 : vs17[2]? = some (.str file17 tf17))
    (xl17 : ((P.main.file : Str) == file17) = true)
    (xm17 : K.lookup cc17 = some ⟨cel17, cld17, .cell (some (.ref f17)), csl17⟩)
    (z0 : PySem.W.nsIn K mainGlobals "abs" = some none)
    (z1 : PySem.W.nsIn K mainGlobals "bool" = some none)
    (z2 : PySem.W.nsIn K mainGlobals "enumerate" = some none)
    (z3 : PySem.W.nsIn K mainGlobals "int" = some none)
    (z4 : PySem.W.nsIn K mainGlobals "isinstance" = some none)
    (z5 : PySem.W.nsIn K mainGlobals "len" = some none)
    (z6 : PySem.W.nsIn K mainGlobals "min" = some none)
    (z7 : PySem.W.nsIn K mainGlobals "range" = some none)
    (z8 : PySem.W.nsIn K mainGlobals "repr" = some none)
    (z9 : PySem.W.nsIn K mainGlobals "set" = some none)
    (z10 : PySem.W.nsIn K mainGlobals "sorted" = some none)
    (z11 : PySem.W.nsIn K mainGlobals "str" = some none)
    (z12 : PySem.W.nsIn K mainGlobals "sum" = some none)
    (z13 : PySem.W.nsIn K mainGlobals "super" = some none)
    (z14 : PySem.W.nsIn K mainGlobals "tuple" = some none)
    (z15 : PySem.W.nsIn K mainGlobals "zip" = some none)
    : Tx P w K mg (fun i => [f0, f1, f2, f3, f4, f5, f6, f7, f8, f9, f10, f11, f12, f13, f14, f15, f16, f17, 0, f19].getD i 0) (fun i => [PySem.W.fnOf "is_integer" "is_integer" (defArgs x_is_integer) (defBody x_is_integer) (defScope x_is_integer) .none kV0 dc0 pm0 an0 cd0 ct0,
      PySem.W.fnOf "spans" "spans" (defArgs x_spans) (defBody x_spans) (defScope x_spans) .none kV1 dc1 pm1 an1 cd1 ct1,
      PySem.W.fnOf "sees" "sees" (defArgs x_sees) (defBody x_sees) (defScope x_sees) .none kV2 dc2 pm2 an2 cd2 ct2,
      PySem.W.fnOf "values_kept" "values_kept" (defArgs x_values_kept) (defBody x_values_kept) (defScope x_values_kept) .none kV3 dc3 pm3 an3 cd3 ct3,
      PySem.W.fnOf "new_values" "new_values" (defArgs x_new_values) (defBody x_new_values) (defScope x_new_values) .none kV4 dc4 pm4 an4 cd4 ct4,
      PySem.W.fnOf "thinned" "thinned" (defArgs x_thinned) (defBody x_thinned) (defScope x_thinned) .none kV5 dc5 pm5 an5 cd5 ct5,
      PySem.W.fnOf "_law_deal" "_law_deal" (defArgs x__law_deal) (defBody x__law_deal) (defScope x__law_deal) .none kV6 dc6 pm6 an6 cd6 ct6,
      PySem.W.fnOf "_law_any" "_law_any" (defArgs x__law_any) (defBody x__law_any) (defScope x__law_any) .none kV7 dc7 pm7 an7 cd7 ct7,
      PySem.W.fnOf "_law_of" "_law_of" (defArgs x__law_of) (defBody x__law_of) (defScope x__law_of) .none kV8 dc8 pm8 an8 cd8 ct8,
      PySem.W.fnOf "_law_keys" "_law_keys" (defArgs x__law_keys) (defBody x__law_keys) (defScope x__law_keys) .none kV9 dc9 pm9 an9 cd9 ct9,
      PySem.W.fnOf "_law_value" "_law_value" (defArgs x__law_value) (defBody x__law_value) (defScope x__law_value) .none kV10 dc10 pm10 an10 cd10 ct10,
      PySem.W.fnOf "_law_row" "_law_row" (defArgs x__law_row) (defBody x__law_row) (defScope x__law_row) .none kV11 dc11 pm11 an11 cd11 ct11,
      PySem.W.fnOf "_law_masks" "_law_masks" (defArgs x__law_masks) (defBody x__law_masks) (defScope x__law_masks) .none kV12 dc12 pm12 an12 cd12 ct12,
      PySem.W.fnOf "_law_best" "_law_best" (defArgs x__law_best) (defBody x__law_best) (defScope x__law_best) .none kV13 dc13 pm13 an13 cd13 ct13,
      PySem.W.fnOf "_law_heard" "_law_heard" (defArgs x__law_heard) (defBody x__law_heard) (defScope x__law_heard) .none kV14 dc14 pm14 an14 cd14 ct14,
      PySem.W.fnOf "law" "law" (defArgs x_law) (defBody x_law) (defScope x_law) .none kV15 dc15 pm15 an15 cd15 ct15].getD i default) (fun i => [].getD i (0, 0)) where
  g_is_integer := PySem.W.mg_of X G a0
  F_is_integer := fun_mk (st := x_is_integer) l0 c0 k0
  b_is_integer := (fun_mk (st := x_is_integer) l0 c0 k0).binds (ps := ["value"]) fun _ _ _ _ _ _ us hl => match us, hl with | [_], _ => rfl
  g_spans := PySem.W.mg_of X G a1
  F_spans := fun_mk (st := x_spans) l1 c1 k1
  b_spans := (fun_mk (st := x_spans) l1 c1 k1).binds (ps := ["row"]) fun _ _ _ _ _ _ us hl => match us, hl with | [_], _ => rfl
  g_sees := PySem.W.mg_of X G a2
  F_sees := fun_mk (st := x_sees) l2 c2 k2
  b_sees := (fun_mk (st := x_sees) l2 c2 k2).binds (ps := ["stamp", "span"]) fun _ _ _ _ _ _ us hl => match us, hl with | [_, _], _ => rfl
  g_values_kept := PySem.W.mg_of X G a3
  F_values_kept := fun_mk (st := x_values_kept) l3 c3 k3
  b_values_kept := (fun_mk (st := x_values_kept) l3 c3 k3).binds (ps := ["rows", "stamps", "now"]) fun _ _ _ _ _ _ us hl => match us, hl with | [_, _, _], _ => rfl
  g_new_values := PySem.W.mg_of X G a4
  F_new_values := fun_mk (st := x_new_values) l4 c4 k4
  b_new_values := (fun_mk (st := x_new_values) l4 c4 k4).binds (ps := ["rows", "before", "stamp"]) fun _ _ _ _ _ _ us hl => match us, hl with | [_, _, _], _ => rfl
  g_thinned := PySem.W.mg_of X G a5
  F_thinned := fun_mk (st := x_thinned) l5 c5 k5
  b_thinned := (fun_mk (st := x_thinned) l5 c5 k5).binds (ps := ["rows", "stamps", "now", "many"]) fun _ _ _ _ _ _ us hl => match us, hl with | [_, _, _, _], _ => rfl
  g__law_deal := PySem.W.mg_of X G a6
  F__law_deal := fun_mk (st := x__law_deal) l6 c6 k6
  b__law_deal := (fun_mk (st := x__law_deal) l6 c6 k6).binds (ps := ["_law_script", "_law_base"]) fun _ _ _ _ _ _ us hl => match us, hl with | [_, _], _ => rfl
  g__law_any := PySem.W.mg_of X G a7
  F__law_any := fun_mk (st := x__law_any) l7 c7 k7
  b__law_any := (fun_mk (st := x__law_any) l7 c7 k7).binds (ps := ["_law_deal_here", "_law_bound"]) fun _ _ _ _ _ _ us hl => match us, hl with | [_, _], _ => rfl
  g__law_of := PySem.W.mg_of X G a8
  F__law_of := fun_mk (st := x__law_of) l8 c8 k8
  b__law_of := (fun_mk (st := x__law_of) l8 c8 k8).binds (ps := ["_law_deal_here", "_law_some"]) fun _ _ _ _ _ _ us hl => match us, hl with | [_, _], _ => rfl
  g__law_keys := PySem.W.mg_of X G a9
  F__law_keys := fun_mk (st := x__law_keys) l9 c9 k9
  b__law_keys := (fun_mk (st := x__law_keys) l9 c9 k9).binds (ps := ["_law_deal_here", "_law_many"]) fun _ _ _ _ _ _ us hl => match us, hl with | [_, _], _ => rfl
  g__law_value := PySem.W.mg_of X G a10
  F__law_value := fun_mk (st := x__law_value) l10 c10 k10
  b__law_value := (fun_mk (st := x__law_value) l10 c10 k10).binds (ps := ["_law_deal_here"]) fun _ _ _ _ _ _ us hl => match us, hl with | [_], _ => rfl
  g__law_row := PySem.W.mg_of X G a11
  F__law_row := fun_mk (st := x__law_row) l11 c11 k11
  b__law_row := (fun_mk (st := x__law_row) l11 c11 k11).binds (ps := ["_law_deal_here", "_law_now"]) fun _ _ _ _ _ _ us hl => match us, hl with | [_, _], _ => rfl
  g__law_masks := PySem.W.mg_of X G a12
  F__law_masks := fun_mk (st := x__law_masks) l12 c12 k12
  b__law_masks := (fun_mk (st := x__law_masks) l12 c12 k12).binds (ps := ["_law_rows", "_law_stamps", "_law_now"]) fun _ _ _ _ _ _ us hl => match us, hl with | [_, _, _], _ => rfl
  g__law_best := PySem.W.mg_of X G a13
  F__law_best := fun_mk (st := x__law_best) l13 c13 k13
  b__law_best := (fun_mk (st := x__law_best) l13 c13 k13).binds (ps := ["_law_masks_here", "_law_stamps", "_law_many"]) fun _ _ _ _ _ _ us hl => match us, hl with | [_, _, _], _ => rfl
  g__law_heard := PySem.W.mg_of X G a14
  F__law_heard := fun_mk (st := x__law_heard) l14 c14 k14
  b__law_heard := (fun_mk (st := x__law_heard) l14 c14 k14).binds (ps := ["_law_rows", "_law_stamps", "_law_now", "_law_many"]) fun _ _ _ _ _ _ us hl => match us, hl with | [_, _, _, _], _ => rfl
  g_law := PySem.W.mg_of X G a15
  F_law := fun_mk (st := x_law) l15 c15 k15
  b_law := (fun_mk (st := x_law) l15 c15 k15).binds (ps := ["_law_script"]) fun _ _ _ _ _ _ us hl => match us, hl with | [_], _ => rfl
  g_StoreError := PySem.W.mg_of X G ea16
  K_StoreError := excK_mk ea16 eb16 ec16 ed16 ee16 ef16 sp tp eg16 eh16 ei16 ej16
  g_InvalidSize := PySem.W.mg_of X G ea17
  K_InvalidSize := excK_mk ea17 eb17 ec17 ed17 ee17 ef17 sp tp eg17 eh17 ei17 ej17
  E_InvalidSize := errC_mk (st := methAt x_InvalidSize 0) (x := "word") ErE.base_Exception xa17 xb17 xc17 xd17 xe17 en17_word xf17 xg17 tq xh17 xi17 xj17 xk17 xl17 xm17 tr rfl (by decide +kernel) rfl (fun _ _ _ _ _ _ _ _ _ _ _ _ h => by subst h; exact .of_eq rfl) rfl
  n_InvalidSize_word := en17_word
  u_InvalidSize_InvalidSize := eu17_17
  k_thinned_many_now_stamps_rows := fun s us ws _ hu hw => match us, ws, hu, hw with | [], [_, _, _, _], _, _ => BindsTo.of_eq (by first | rfl | with_unfolding_all rfl)
  k_values_kept_now_stamps_rows := fun s us ws _ hu hw => match us, ws, hu, hw with | [], [_, _, _], _, _ => BindsTo.of_eq (by first | rfl | with_unfolding_all rfl)
  z_abs := PySem.W.mg_none_of X G z0
  z_bool := PySem.W.mg_none_of X G z1
  z_enumerate := PySem.W.mg_none_of X G z2
  z_int := PySem.W.mg_none_of X G z3
  z_isinstance := PySem.W.mg_none_of X G z4
  z_len := PySem.W.mg_none_of X G z5
  z_min := PySem.W.mg_none_of X G z6
  z_range := PySem.W.mg_none_of X G z7
  z_repr := PySem.W.mg_none_of X G z8
  z_set := PySem.W.mg_none_of X G z9
  z_sorted := PySem.W.mg_none_of X G z10
  z_str := PySem.W.mg_none_of X G z11
  z_sum := PySem.W.mg_none_of X G z12
  z_super := PySem.W.mg_none_of X G z13
  z_tuple := PySem.W.mg_none_of X G z14
  z_zip := PySem.W.mg_none_of X G z15
end K67
end
section
set_option maxHeartbeats 1000000
namespace ST
/-! ### spans of values, and who sees them -/
abbrev Spn := Int × Option Int
def see (t : Int) (p : Spn) : Bool := decide (p.1 ≤ t) && (match p.2 with
  | none => true
  | some l => decide (t ≤ l))
def past (b : Option Int) (p : Spn) : Bool := match b with
  | none => true
  | some b => decide (b < p.1)
def newN (ps : List Spn) (b : Option Int) (t : Int) : Nat := ps.countP fun p => see t p && past b p
def kept (ps : List Spn) : Option Int → List Int → Nat
  | _, [] => 0
  | b, t :: ts => newN ps b t + kept ps (some t) ts
theorem count_add {α : Type} {f g h : α → Bool} (H : ∀ p, (if f p = true then 1 else 0) + (if g p = true then 1 else 0) = (if h p = true then 1 else 0 : Nat)) : ∀ ps : List α, ps.countP f + ps.countP g = ps.countP h
  | [] => rfl
  | p :: ps => by
    have i := count_add H ps
    have j := H p
    rw [List.countP_cons, List.countP_cons, List.countP_cons]
    omega
structure Asc (b : Option Int) (ts : List Int) : Prop where
  up : ts.Pairwise (· ≤ ·)
  lo : ∀ x, b = some x → ∀ t ∈ ts, x ≤ t
theorem Asc.tail {b : Option Int} {t : Int} {ts : List Int} (h : Asc b (t :: ts)) : Asc (some t) ts :=
  ⟨(List.pairwise_cons.mp h.up).2, fun x e u hu => by cases e; exact (List.pairwise_cons.mp h.up).1 u hu⟩
theorem see_iff {t : Int} {p : Spn} : see t p = true ↔ p.1 ≤ t ∧ ∀ l, p.2 = some l → t ≤ l := by
  obtain ⟨s, o⟩ := p
  cases o with
  | none => simp [see]
  | some l => simp [see]
theorem past_iff {b : Option Int} {p : Spn} : past b p = true ↔ ∀ x, b = some x → x < p.1 := by
  cases b with
  | none => simp [past]
  | some x => simp [past]
theorem kept_count (ps : List Spn) : ∀ (ts : List Int) (b : Option Int), Asc b ts → kept ps b ts = ps.countP fun p => past b p && ts.any (see · p)
  | [], b, _ => by simp [kept]
  | t :: ts, b, h => by
    unfold kept newN
    rw [kept_count ps ts (some t) h.tail]
    refine count_add (fun p => ?_) ps
    have key : (past b p && (t :: ts).any (see · p)) = ((see t p && past b p) || (past (some t) p && ts.any (see · p))) ∧ ((see t p && past b p) && (past (some t) p && ts.any (see · p))) = false := by
      rw [List.any_cons]
      constructor
      · rw [Bool.eq_iff_iff]
        simp only [Bool.and_eq_true, Bool.or_eq_true]
        constructor
        · rintro ⟨h1, h2 | h2⟩
          · exact .inl ⟨h2, h1⟩
          · by_cases hs : see t p = true
            · exact .inl ⟨hs, h1⟩
            · refine .inr ⟨?_, h2⟩
              rw [past_iff]
              intro x e
              cases e
              obtain ⟨u, hu, hs2⟩ := List.any_eq_true.mp h2
              rw [see_iff] at hs2 hs
              have tu := (List.pairwise_cons.mp h.up).1 u hu
              rcases Int.lt_or_le t p.1 with z | z
              · exact z
              · exact absurd ⟨z, fun l e => Int.le_trans tu (hs2.2 l e)⟩ hs
        · rintro (⟨h1, h2⟩ | ⟨h1, h2⟩)
          · exact ⟨h2, .inl h1⟩
          · refine ⟨?_, .inr h2⟩
            rw [past_iff] at h1 ⊢
            intro x e
            exact Int.lt_of_le_of_lt (h.lo x e t List.mem_cons_self) (h1 t rfl)
      · rw [Bool.eq_false_iff]
        intro z
        simp only [Bool.and_eq_true] at z
        have a := see_iff.mp z.1.1
        have b := past_iff.mp z.2.1 t rfl
        omega
    obtain ⟨k1, k2⟩ := key
    rw [k1]
    revert k2
    cases (see t p && past b p) <;> cases (past (some t) p && ts.any (see · p)) <;> simp
/-! ### the less of two choices -/
theorem ll_irr : ∀ l : List Int, ¬ l < l
  | [] => by simp
  | x :: l => by
    rw [List.cons_lt_cons_iff]
    rintro (h | ⟨_, h⟩)
    · exact Int.lt_irrefl _ h
    · exact ll_irr l h
theorem ll_trans : ∀ {a b c : List Int}, a < b → b < c → a < c
  | [], _, [], _, h => by simp at h
  | [], _, _ :: _, _, _ => by simp
  | _ :: _, [], _, h, _ => by simp at h
  | _ :: _, _ :: _, [], _, h => by simp at h
  | x :: a, y :: b, z :: c, h, k => by
    rw [List.cons_lt_cons_iff] at h k ⊢
    rcases h with h | ⟨rfl, h⟩
    · rcases k with k | ⟨rfl, k⟩
      · exact .inl (Int.lt_trans h k)
      · exact .inl h
    · rcases k with k | ⟨rfl, k⟩
      · exact .inl k
      · exact .inr ⟨rfl, ll_trans h k⟩
theorem ll_tri : ∀ a b : List Int, a < b ∨ a = b ∨ b < a
  | [], [] => .inr (.inl rfl)
  | [], _ :: _ => .inl (by simp)
  | _ :: _, [] => .inr (.inr (by simp))
  | x :: a, y :: b => by
    rw [List.cons_lt_cons_iff, List.cons_lt_cons_iff]
    rcases Int.lt_trichotomy x y with h | rfl | h
    · exact .inl (.inl h)
    · rcases ll_tri a b with h | rfl | h
      · exact .inl (.inr ⟨rfl, h⟩)
      · exact .inr (.inl rfl)
      · exact .inr (.inr (.inr ⟨rfl, h⟩))
    · exact .inr (.inr (.inl h))
abbrev Cho := Nat × List Int
def Lx (a b : Cho) : Prop := a.1 < b.1 ∨ a.1 = b.1 ∧ a.2 < b.2
instance (a b : Cho) : Decidable (Lx a b) := inferInstanceAs (Decidable (_ ∨ _))
theorem lx_irr (a : Cho) : ¬ Lx a a := by
  rintro (h | ⟨_, h⟩)
  · exact Nat.lt_irrefl _ h
  · exact ll_irr _ h
theorem lx_trans {a b c : Cho} (h : Lx a b) (k : Lx b c) : Lx a c := by
  rcases h with h | ⟨e, h⟩
  · rcases k with k | ⟨e', k⟩
    · exact .inl (Nat.lt_trans h k)
    · exact .inl (e' ▸ h)
  · rcases k with k | ⟨e', k⟩
    · exact .inl (e ▸ k)
    · exact .inr ⟨e.trans e', ll_trans h k⟩
theorem lx_anti {a b : Cho} (h : ¬ Lx a b) (k : ¬ Lx b a) : a = b := by
  obtain ⟨x, l⟩ := a
  obtain ⟨y, m⟩ := b
  simp only [Lx] at h k
  have e : x = y := by omega
  subst e
  rcases ll_tri l m with z | rfl | z
  · exact absurd (.inr ⟨rfl, z⟩) h
  · rfl
  · exact absurd (.inr ⟨rfl, z⟩) k
/-- what is not less than a lesser thing is not less than a greater one -/
theorem lx_neg {a b c : Cho} (h : ¬ Lx a b) (k : ¬ Lx c a) : ¬ Lx c b := by
  intro z
  by_cases e : Lx a c
  · exact h (lx_trans e z)
  · exact h (lx_anti e k ▸ z)
theorem lx_add {n a b : Nat} {t : Int} {l m : List Int} : Lx (n + a, t :: l) (n + b, t :: m) ↔ Lx (a, l) (b, m) := by
  simp only [Lx, List.cons_lt_cons_iff]
  constructor
  · rintro (h | ⟨h, h2 | ⟨_, h2⟩⟩)
    · exact .inl (by omega)
    · exact absurd h2 (Int.lt_irrefl _)
    · exact .inr ⟨by omega, h2⟩
  · rintro (h | ⟨h, h2⟩)
    · exact .inl (by omega)
    · exact .inr ⟨by omega, .inr ⟨trivial, h2⟩⟩
/-! ### the best choice -/
structure Best (ps : List Spn) (now : Int) (b : Option Int) (ts : List Int) (c : Nat) (x : Cho) : Prop where
  sub : x.2.Sublist ts
  len : x.2.length = c
  val : x.1 = kept ps b (x.2 ++ [now])
  low : ∀ S : List Int, S.Sublist ts → S.length = c → ¬ Lx (kept ps b (S ++ [now]), S) x
theorem Best.one {ps : List Spn} {now : Int} {b : Option Int} {ts : List Int} {c : Nat} {x y : Cho} (h : Best ps now b ts c x) (k : Best ps now b ts c y) : x = y := by
  refine lx_anti (fun z => ?_) fun z => ?_
  · have := k.low x.2 h.sub h.len
    rw [← h.val] at this
    exact this z
  · have := h.low y.2 k.sub k.len
    rw [← k.val] at this
    exact this z
theorem Best.nil {ps : List Spn} {now : Int} {b : Option Int} {ts : List Int} : Best ps now b ts 0 (newN ps b now, []) where
  sub := List.nil_sublist _
  len := rfl
  val := rfl
  low := fun S _ h => by
    cases List.length_eq_zero_iff.mp h
    exact lx_irr _
/-- the ways on: each first stamp, with the best choice behind it -/
def ways (ps : List Spn) (b : Option Int) (c : Nat) (sub : Int → List Int → Cho) : List Int → List Cho
  | [] => []
  | t :: r => if c ≤ r.length then (newN ps b t + (sub t r).1, t :: (sub t r).2) :: ways ps b c sub r else []
theorem ways_short {ps : List Spn} {b : Option Int} {c : Nat} {sub : Int → List Int → Cho} : ∀ {ts : List Int}, ts.length < c + 1 → ways ps b c sub ts = []
  | [], _ => rfl
  | t :: r, h => by
    unfold ways
    rw [if_neg (by simp at h; omega)]
theorem Best.step {ps : List Spn} {now : Int} {b : Option Int} {c : Nat} {sub : Int → List Int → Cho} {x : Cho} : ∀ {ts : List Int},
    (∀ p t r, ts = p ++ t :: r → c ≤ r.length → Best ps now (some t) r c (sub t r)) → x ∈ ways ps b c sub ts → (∀ y ∈ ways ps b c sub ts, ¬ Lx y x) → Best ps now b ts (c + 1) x := by
  intro ts H hx hl
  have mem : ∀ ts : List Int, (∀ p t r, ts = p ++ t :: r → c ≤ r.length → Best ps now (some t) r c (sub t r)) → ∀ y ∈ ways ps b c sub ts, y.2.Sublist ts ∧ y.2.length = c + 1 ∧ y.1 = kept ps b (y.2 ++ [now]) := by
    intro ts
    induction ts with
    | nil => intro _ y hy; cases hy
    | cons t r ih =>
      intro H y hy
      unfold ways at hy
      split at hy
      · rename_i hc
        rcases List.mem_cons.mp hy with rfl | hy
        · have B := H [] t r rfl hc
          refine ⟨B.sub.cons_cons t, by simp [B.len], ?_⟩
          show _ = newN ps b t + kept ps (some t) ((sub t r).2 ++ [now])
          rw [← B.val]
        · have z := ih (fun p t' r' e hc' => H (t :: p) t' r' (by rw [e]; rfl) hc') y hy
          exact ⟨z.1.cons t, z.2⟩
      · cases hy
  have all : ∀ ts : List Int, (∀ p t r, ts = p ++ t :: r → c ≤ r.length → Best ps now (some t) r c (sub t r)) → ∀ S : List Int, S.Sublist ts → S.length = c + 1 → ∃ y ∈ ways ps b c sub ts, ¬ Lx (kept ps b (S ++ [now]), S) y := by
    intro ts
    induction ts with
    | nil => intro _ S hs hl; cases hs; cases hl
    | cons t r ih =>
      intro H S hs hl
      have hr : c ≤ r.length := by
        have := hs.length_le
        simp at this
        omega
      have e : ways ps b c sub (t :: r) = (newN ps b t + (sub t r).1, t :: (sub t r).2) :: ways ps b c sub r := by
        rw [ways, if_pos hr]
      rw [e]
      cases hs with
      | cons _ h =>
        obtain ⟨y, h1, h2⟩ := ih (fun p t' r' e hc' => H (t :: p) t' r' (by rw [e]; rfl) hc') S h hl
        exact ⟨y, List.mem_cons_of_mem _ h1, h2⟩
      | @cons_cons S' _ _ h =>
        refine ⟨_, List.mem_cons_self, ?_⟩
        have B := H [] t r rfl hr
        show ¬ Lx (newN ps b t + kept ps (some t) (S' ++ [now]), t :: S') _
        rw [lx_add]
        exact B.low S' h (by simpa using hl)
  obtain ⟨h1, h2, h3⟩ := mem ts H x hx
  refine ⟨h1, h2, h3, fun S hs hS => ?_⟩
  obtain ⟨y, hy, k⟩ := all ts H S hs hS
  exact lx_neg (hl y hy) k
/-! ### choices as bits -/
def pick (b : Nat) : List Int → List Int
  | [] => []
  | t :: r => if b % 2 = 1 then t :: pick (b / 2) r else pick (b / 2) r
theorem pick_sub : ∀ (ts : List Int) (b : Nat), (pick b ts).Sublist ts
  | [], _ => List.Sublist.slnil
  | t :: r, b => by
    unfold pick
    split
    · exact (pick_sub r _).cons_cons t
    · exact (pick_sub r _).cons t
theorem pick_all : ∀ {ts S : List Int}, S.Sublist ts → ∃ b, b < 2 ^ ts.length ∧ pick b ts = S
  | _, _, .slnil => ⟨0, by decide, rfl⟩
  | _, _, .cons (l₂ := r) t h => by
    obtain ⟨b, h1, h2⟩ := pick_all h
    refine ⟨2 * b, by rw [List.length_cons, Nat.pow_succ]; omega, ?_⟩
    unfold pick
    rw [if_neg (by omega), show 2 * b / 2 = b by omega, h2]
  | _, _, .cons_cons (l₂ := r) t h => by
    obtain ⟨b, h1, h2⟩ := pick_all h
    refine ⟨2 * b + 1, by rw [List.length_cons, Nat.pow_succ]; omega, ?_⟩
    unfold pick
    rw [if_pos (by omega), show (2 * b + 1) / 2 = b by omega, h2]
/-- the mask of a span: a bit for each stamp that sees it -/
def mask (p : Spn) : List Int → Nat
  | [] => 0
  | t :: r => (if see t p = true then 1 else 0) + 2 * mask p r
theorem and_ne (a b : Nat) : (a &&& b ≠ 0) ↔ (a % 2 = 1 ∧ b % 2 = 1) ∨ (a / 2 &&& b / 2 ≠ 0) := by
  have h1 := @Nat.and_div_two a b
  have h2 := @Nat.and_mod_two_eq_one a b
  rw [← h1, ← h2]
  omega
theorem mask_any {p : Spn} {now : Int} : ∀ (ts : List Int) (b : Nat), b < 2 ^ ts.length → ((mask p (ts ++ [now]) &&& (b ||| 2 ^ ts.length) ≠ 0) ↔ (pick b ts ++ [now]).any (see · p) = true)
  | [], b, h => by
    have : b = 0 := by simpa using h
    subst this
    cases e : see now p <;> simp [mask, pick, e]
  | t :: r, b, h => by
    have hb : b / 2 < 2 ^ r.length := by
      rw [List.length_cons, Nat.pow_succ] at h
      omega
    have ih := mask_any (p := p) (now := now) r (b / 2) hb
    have e1 : mask p (t :: r ++ [now]) % 2 = 1 ↔ see t p = true := by
      show ((if see t p = true then 1 else 0) + 2 * mask p (r ++ [now])) % 2 = 1 ↔ _
      split <;> rename_i z <;> simp [z] <;> omega
    have e2 : mask p (t :: r ++ [now]) / 2 = mask p (r ++ [now]) := by
      show ((if see t p = true then 1 else 0) + 2 * mask p (r ++ [now])) / 2 = _
      split <;> omega
    have e3 : (b ||| 2 ^ (t :: r).length) % 2 = 1 ↔ b % 2 = 1 := by
      rw [Nat.or_mod_two_eq_one, List.length_cons, Nat.pow_succ]
      omega
    have e4 : (b ||| 2 ^ (t :: r).length) / 2 = b / 2 ||| 2 ^ r.length := by
      rw [Nat.or_div_two, List.length_cons, Nat.pow_succ, Nat.mul_div_cancel _ (by decide)]
    rw [and_ne, e1, e2, e3, e4, ih, show pick b (t :: r) = (if b % 2 = 1 then t :: pick (b / 2) r else pick (b / 2) r) from rfl]
    by_cases z : b % 2 = 1
    · simp [z]
    · simp [z]
/-- what the masks tell is what is kept -/
theorem masks_kept {ps : List Spn} {now : Int} {ts : List Int} {b : Nat} (h : b < 2 ^ ts.length) (up : (ts ++ [now]).Pairwise (· ≤ ·)) :
    (ps.map (mask · (ts ++ [now]))).countP (fun m => decide (m &&& (b ||| 2 ^ ts.length) ≠ 0)) = kept ps none (pick b ts ++ [now]) := by
  rw [kept_count ps _ none ⟨up.sublist ((pick_sub ts b).append (List.Sublist.refl _)), fun x e => nomatch e⟩, List.countP_map]
  refine List.countP_congr fun p _ => ?_
  show decide _ = true ↔ _
  rw [decide_eq_true_iff, mask_any ts b h]
  simp [past]
/-- a row of stamps, told by bits -/
def code (S : List Int) : List Int → Nat
  | [] => 0
  | t :: r => (if t ∈ S then 1 else 0) + 2 * code S r
theorem code_lt (S : List Int) : ∀ ts : List Int, code S ts < 2 ^ ts.length
  | [] => Nat.one_pos
  | t :: r => by
    have := code_lt S r
    unfold code
    rw [List.length_cons, Nat.pow_succ]
    split <;> omega
theorem pick_code (S : List Int) : ∀ ts : List Int, pick (code S ts) ts = ts.filter (· ∈ S)
  | [] => rfl
  | t :: r => by
    have e : ∀ b, pick b (t :: r) = if b % 2 = 1 then t :: pick (b / 2) r else pick (b / 2) r := fun _ => rfl
    rw [e, List.filter_cons, show code S (t :: r) = (if t ∈ S then 1 else 0) + 2 * code S r from rfl]
    by_cases hm : t ∈ S
    · rw [if_pos hm, if_pos (by omega), if_pos (by simpa using hm), show (1 + 2 * code S r) / 2 = code S r by omega, pick_code S r]
    · rw [if_neg hm, if_neg (by omega), if_neg (by simpa using hm), show (0 + 2 * code S r) / 2 = code S r by omega, pick_code S r]
theorem filter_self : ∀ {S ts : List Int}, S.Sublist ts → ts.Nodup → ts.filter (· ∈ S) = S
  | _, _, .slnil, _ => rfl
  | S, _, .cons (l₂ := r) t h, nd => by
    have := List.nodup_cons.mp nd
    have hm : t ∉ S := fun z => this.1 (h.subset z)
    rw [List.filter_cons, if_neg (by simpa using hm), filter_self h this.2]
  | _, _, .cons_cons (l₁ := S) (l₂ := r) t h, nd => by
    have := List.nodup_cons.mp nd
    rw [List.filter_cons, if_pos (by simp)]
    congr 1
    rw [← filter_self h this.2]
    refine List.filter_congr fun x hx => ?_
    have : x ≠ t := fun e => this.1 (e ▸ hx)
    simp [this, filter_self h (List.nodup_cons.mp nd).2]
/-- the law's best: the least of those that came so far -/
structure Low (ps : List Spn) (now : Int) (ts : List Int) (c : Nat) (n : Nat) (o : Option Cho) : Prop where
  non : o = none → ∀ b, b < n → (pick b ts).length ≠ c
  val : ∀ x, o = some x → x.2.Sublist ts ∧ x.2.length = c ∧ x.1 = kept ps none (x.2 ++ [now])
  low : ∀ x, o = some x → ∀ b, b < n → (pick b ts).length = c → ¬ Lx (kept ps none (pick b ts ++ [now]), pick b ts) x
theorem Low.nil {ps : List Spn} {now : Int} {ts : List Int} {c : Nat} : Low ps now ts c 0 none :=
  ⟨fun _ b h => absurd h (Nat.not_lt_zero b), (fun _ e => nomatch e), (fun _ e => nomatch e)⟩
theorem Low.skip {ps : List Spn} {now : Int} {ts : List Int} {c n : Nat} {o : Option Cho} (h : Low ps now ts c n o) (hn : (pick n ts).length ≠ c) : Low ps now ts c (n + 1) o where
  non := fun e b hb => by
    rcases Nat.lt_succ_iff_lt_or_eq.mp hb with z | rfl
    · exact h.non e b z
    · exact hn
  val := h.val
  low := fun x e b hb hl => by
    rcases Nat.lt_succ_iff_lt_or_eq.mp hb with z | rfl
    · exact h.low x e b z hl
    · exact absurd hl hn
theorem Low.take {ps : List Spn} {now : Int} {ts : List Int} {c n : Nat} {o : Option Cho} (h : Low ps now ts c n o) (hn : (pick n ts).length = c)
    (hb : ∀ x, o = some x → Lx (kept ps none (pick n ts ++ [now]), pick n ts) x) : Low ps now ts c (n + 1) (some (kept ps none (pick n ts ++ [now]), pick n ts)) where
  non := fun e => nomatch e
  val := fun x e => by
    cases e
    exact ⟨pick_sub ts n, hn, rfl⟩
  low := fun x e b hb' hl => by
    cases e
    rcases Nat.lt_succ_iff_lt_or_eq.mp hb' with z | rfl
    · cases o with
      | none => exact absurd hl (h.non rfl b z)
      | some y => exact fun q => h.low y rfl b z hl (lx_trans q (hb y rfl))
    · exact lx_irr _
theorem Low.keep {ps : List Spn} {now : Int} {ts : List Int} {c n : Nat} {y : Cho} (h : Low ps now ts c n (some y)) (hb : ¬ Lx (kept ps none (pick n ts ++ [now]), pick n ts) y) : Low ps now ts c (n + 1) (some y) where
  non := fun e => nomatch e
  val := h.val
  low := fun x e b hb' hl => by
    rcases Nat.lt_succ_iff_lt_or_eq.mp hb' with z | rfl
    · exact h.low x e b z hl
    · cases e
      exact hb
theorem Low.best {ps : List Spn} {now : Int} {ts : List Int} {c : Nat} {o : Option Cho} (h : Low ps now ts c (2 ^ ts.length) o) (hc : c ≤ ts.length) : ∃ x, o = some x ∧ Best ps now none ts c x := by
  cases o with
  | none =>
    obtain ⟨b, h1, h2⟩ := pick_all (List.take_sublist c ts)
    refine absurd ?_ (h.non rfl b h1)
    rw [h2, List.length_take]
    omega
  | some x =>
    obtain ⟨h1, h2, h3⟩ := h.val x rfl
    refine ⟨x, rfl, h1, h2, h3, fun S hs hl => ?_⟩
    obtain ⟨b, hb, rfl⟩ := pick_all hs
    exact h.low x rfl b hb hl
end ST
end
section
namespace TR
open PySem PySem.Spec PyProof.Rows L2 DM
noncomputable def f_is_leaf : List D → AH → Res D := mFun 1 (mRet (mOp (fEq false) (mOp fIx (mVar 0) (mK (.int 0))) (mK (.str "leaf"))))
noncomputable def t_child_number1 : MT := (mTst (mOp fLt (mVar 2) (mVar 3)))
noncomputable def b_child_number1 : MS := (mSeq (mSet 4 (mOp fDiv (mOp fAdd (mVar 2) (mVar 3)) (mK (.int 2)))) (mIfS (mTst (mOp fLeX (mOp fIx (mVar 0) (mVar 4)) (mVar 1))) (mSet 2 (mOp fAdd (mVar 4)
    (mK (.int 1)))) (mSet 3 (mVar 4))))
noncomputable def f_child_number : List D → AH → Res D := mFun 5 (mSeq (mPar2 2 3 (mCons (mK (.int 0)) (mCons (mCall fLen (mCons (mVar 0) (mNil))) (mNil)))) (mSeq (mWhile t_child_number1
    b_child_number1) (mRet (mVar 2))))
noncomputable def t_entry_number1 : MT := (mTst (mOp fLt (mVar 2) (mVar 3)))
noncomputable def b_entry_number1 : MS := (mSeq (mSet 4 (mOp fDiv (mOp fAdd (mVar 2) (mVar 3)) (mK (.int 2)))) (mIfS (mTst (mOp fLtX (mOp fIx (mOp fIx (mVar 0) (mVar 4)) (mK (.int 0))) (mVar 1))) (mSet
    2 (mOp fAdd (mVar 4) (mK (.int 1)))) (mSet 3 (mVar 4))))
noncomputable def f_entry_number : List D → AH → Res D := mFun 5 (mSeq (mPar2 2 3 (mCons (mK (.int 0)) (mCons (mCall fLen (mCons (mVar 0) (mNil))) (mNil)))) (mSeq (mWhile t_entry_number1
    b_entry_number1) (mRet (mVar 2))))
noncomputable def f_packed_leaf : List D → AH → Res D := mFun 3 (mSeq (mIfS (mTst (mOp fLe (mCall fLen (mCons (mVar 1) (mNil))) (mVar 0))) (mRet (mTup (mCons (mLst (mCons (mTup (mCons (mK (.str
    "leaf")) (mCons (mVar 1) (mNil)))) (mNil))) (mCons (mLst (mNil)) (mNil))))) (mNext)) (mSeq (mSet 2 (mOp fDiv (mCall fLen (mCons (mVar 1) (mNil))) (mK (.int 2)))) (mRet (mTup (mCons (mLst (mCons
    (mTup (mCons (mK (.str "leaf")) (mCons (mSl (mVar 1) (mNone) (mSome (mVar 2))) (mNil)))) (mCons (mTup (mCons (mK (.str "leaf")) (mCons (mSl (mVar 1) (mSome (mVar 2)) (mNone)) (mNil)))) (mNil))))
    (mCons (mLst (mCons (mOp fIx (mOp fIx (mVar 1) (mVar 2)) (mK (.int 0))) (mNil))) (mNil)))))))
noncomputable def f_packed_branch : List D → AH → Res D := mFun 4 (mSeq (mIfS (mTst (mOp fLe (mCall fLen (mCons (mVar 2) (mNil))) (mVar 0))) (mRet (mTup (mCons (mLst (mCons (mTup (mCons (mK (.str
    "branch")) (mCons (mVar 1) (mCons (mVar 2) (mNil))))) (mNil))) (mCons (mLst (mNil)) (mNil))))) (mNext)) (mSeq (mSet 3 (mOp fDiv (mCall fLen (mCons (mVar 2) (mNil))) (mK (.int 2)))) (mRet (mTup
    (mCons (mLst (mCons (mTup (mCons (mK (.str "branch")) (mCons (mSl (mVar 1) (mNone) (mSome (mOp fSub (mVar 3) (mK (.int 1))))) (mCons (mSl (mVar 2) (mNone) (mSome (mVar 3))) (mNil))))) (mCons (mTup
    (mCons (mK (.str "branch")) (mCons (mSl (mVar 1) (mSome (mVar 3)) (mNone)) (mCons (mSl (mVar 2) (mSome (mVar 3)) (mNone)) (mNil))))) (mNil)))) (mCons (mLst (mCons (mOp fIx (mVar 1) (mOp fSub (mVar
    3) (mK (.int 1)))) (mNil))) (mNil)))))))
noncomputable def f_spliced : List D → AH → Res D := mFun 7 (mSeq (mSet 5 (mOp fAdd (mOp fAdd (mSl (mOp fIx (mVar 1) (mK (.int 2))) (mNone) (mSome (mVar 2))) (mCall fTup (mCons (mOp fIx (mVar 4) (mK
    (.int 0))) (mNil)))) (mSl (mOp fIx (mVar 1) (mK (.int 2))) (mSome (mVar 3)) (mNone)))) (mSeq (mSet 6 (mOp fAdd (mOp fAdd (mSl (mOp fIx (mVar 1) (mK (.int 1))) (mNone) (mSome (mVar 2))) (mCall fTup
    (mCons (mOp fIx (mVar 4) (mK (.int 1))) (mNil)))) (mSl (mOp fIx (mVar 1) (mK (.int 1))) (mSome (mOp fSub (mVar 3) (mK (.int 1)))) (mNone)))) (mRet (mCallF 3 f_packed_branch (mCons (mVar 0) (mCons
    (mVar 6) (mCons (mVar 5) (mNil))))))))
noncomputable def g_put_pieces (c_put_pieces : List D → AH → Res D) : List D → AH → Res D := mFun 7 (mSeq (mIfS (mTst (mCallF 1 f_is_leaf (mCons (mVar 1) (mNil)))) (mSeq (mSet 5 (mOp fIx (mVar 1) (mK
    (.int 1)))) (mSeq (mSet 4 (mCallF 2 f_entry_number (mCons (mVar 5) (mCons (mVar 2) (mNil))))) (mSeq (mSet 6 (mIf (mAnd (mTst (mOp fLt (mVar 4) (mCall fLen (mCons (mVar 5) (mNil))))) (mTst (mOp (fEq
    false) (mOp fIx (mOp fIx (mVar 5) (mVar 4)) (mK (.int 0))) (mVar 2)))) (mSl (mVar 5) (mSome (mOp fAdd (mVar 4) (mK (.int 1)))) (mNone)) (mSl (mVar 5) (mSome (mVar 4)) (mNone)))) (mRet (mCallF 2
    f_packed_leaf (mCons (mVar 0) (mCons (mOp fAdd (mOp fAdd (mSl (mVar 5) (mNone) (mSome (mVar 4))) (mTup (mCons (mTup (mCons (mVar 2) (mCons (mVar 3) (mNil)))) (mNil)))) (mVar 6)) (mNil))))))))
    (mNext)) (mSeq (mSet 4 (mCallF 2 f_child_number (mCons (mOp fIx (mVar 1) (mK (.int 1))) (mCons (mVar 2) (mNil))))) (mRet (mCallF 5 f_spliced (mCons (mVar 0) (mCons (mVar 1) (mCons (mVar 4) (mCons
    (mOp fAdd (mVar 4) (mK (.int 1))) (mCons (mCallF 4 c_put_pieces (mCons (mVar 0) (mCons (mOp fIx (mOp fIx (mVar 1) (mK (.int 2))) (mVar 4)) (mCons (mVar 2) (mCons (mVar 3) (mNil))))))
    (mNil))))))))))
noncomputable def f_put_pieces : Nat → List D → AH → Res D
  | 0 => fun _ _ => .no
  | n + 1 => g_put_pieces (f_put_pieces n)
end TR
end
section
set_option maxHeartbeats 1000000
namespace TR
open PySem PySem.Spec PyProof.Rows L2 DM
/-! ### running -/
theorem callF_at {n : Nat} {g : List D → AH → Res D} {ms : MA} {ρ : DM.Env} {A A1 : AH} {ds : List D} {r : Res D} (hm : ms ρ A = .ok ds A1) (hl : ds.length = n) (hg : g ds A1 = r) : mCallF n g ms ρ A = r := by
  rw [ev_callF, hm, bind_ok, if_pos hl, hg]
def Wh (mt : MT) (sb : MS) (ρ : DM.Env) (A : AH) (r : SRes) : Prop := ∃ k, iterW mt sb k ρ A = r
theorem Wh.run {mt : MT} {sb : MS} {ρ : DM.Env} {A : AH} {r : SRes} (h : Wh mt sb ρ A r) (hr : r ≠ .no) : mWhile mt sb ρ A = r := by
  obtain ⟨k, h⟩ := h
  exact mWhile_eq h hr
theorem Wh.stop {mt : MT} {sb : MS} {ρ : DM.Env} {A A1 : AH} (h : mt ρ A = .ok false A1) : Wh mt sb ρ A (.nx ρ A1) := ⟨1, by unfold iterW; rw [h]⟩
theorem Wh.next {mt : MT} {sb : MS} {ρ ρ2 : DM.Env} {A A1 A2 : AH} {r : SRes} (h : mt ρ A = .ok true A1) (hb : sb ρ A1 = .nx ρ2 A2) (w : Wh mt sb ρ2 A2 r) : Wh mt sb ρ A r := by
  obtain ⟨k, w⟩ := w
  refine ⟨k + 1, ?_⟩
  conv => lhs; unfold iterW
  rw [h]
  simp only [hb]
  exact w
theorem atI_nat {α : Type} {xs : List α} {j : Nat} {x : α} (h : xs[j]? = some x) : atI xs (j : Int) = some x := by
  have hj := (List.getElem?_eq_some_iff.mp h).1
  unfold atI ixN
  rw [if_pos (by omega), if_pos (by omega)]
  simpa using h
section
variable {A : AH} {xs ys : List D}
theorem ixt {j : Nat} {x : D} (h : xs[j]? = some x) : fIx (.tup xs) (.int (j : Int)) A = .ok x A := ix_tup (atI_nat h)
theorem len_t : fLen [.tup xs] A = .ok (.int (xs.length : Nat)) A := by
  unfold fLen
  simp only [seqOf]
theorem add_t (h : xs.length + ys.length ≤ 16777216) : fAdd (.tup xs) (.tup ys) A = .ok (.tup (xs ++ ys)) A := if_pos h
theorem sl_to {i : Nat} : fSl (.tup xs) none (some (i : Int)) A = .ok (.tup (xs.take i)) A := by
  simp only [fSl]
  rw [cut_take]
theorem sl_from {i : Nat} (hi : i ≤ xs.length) : fSl (.tup xs) (some (i : Int)) none A = .ok (.tup (xs.drop i)) A := by
  simp only [fSl]
  have : DM.cutD xs (some (i : Int)) none = xs.drop i := by
    unfold DM.cutD
    rw [HT.sIx_nat, HT.sIx_none, Nat.min_eq_left hi]
    rw [List.take_of_length_le]
    rw [List.length_drop]
    omega
  rw [this]
theorem eq_ss {x y : Str} {neg : Bool} : fEq neg (.str x) (.str y) A = .ok (.bl (if neg then !decide (x = y) else decide (x = y))) A := by cases neg <;> rfl
theorem le_ss {x y : Str} : fLeX (.str x) (.str y) A = .ok (.bl (sLe x y)) A := rfl
theorem lt_ss {x y : Str} : fLtX (.str x) (.str y) A = .ok (.bl (decide (sLt x y))) A := rfl
end
/-! ### order -/
theorem lt_tr {a b c : Str} (h1 : sLt a b) (h2 : sLt b c) : sLt a c := List.lt_trans h1 h2
theorem lt_ir {a : Str} : ¬ sLt a a := List.lt_irrefl _
theorem lt_as {a b : Str} (h : sLt a b) : ¬ sLt b a := List.lt_asymm h
theorem le_of_nlt {a b : Str} (h : ¬ sLt b a) : sLe a b = true := by unfold sLe; rw [decide_eq_false h]; rfl
theorem nlt_of_le {a b : Str} (h : sLe a b = true) : ¬ sLt b a := fun z => by unfold sLe at h; rw [decide_eq_true z] at h; cases h
theorem tri (a b : Str) : sLt a b ∨ a = b ∨ sLt b a := by
  by_cases h1 : sLt a b
  · exact .inl h1
  · by_cases h2 : sLt b a
    · exact .inr (.inr h2)
    · exact .inr (.inl (sLe_anti (le_of_nlt h2) (le_of_nlt h1)))
theorem lt_le {a b c : Str} (h1 : sLt a b) (h2 : ¬ sLt c b) : sLt a c := by
  rcases tri b c with h | rfl | h
  · exact lt_tr h1 h
  · exact h1
  · exact absurd h h2
theorem le_lt {a b c : Str} (h1 : ¬ sLt b a) (h2 : sLt b c) : sLt a c := by
  rcases tri a b with h | rfl | h
  · exact lt_tr h h2
  · exact h2
  · exact absurd h h1
/-! ### how many of a row are below -/
/-! ### pages as data -/
abbrev En := Str × D
def enD (e : En) : D := .tup [.str e.1, e.2]
def leafD (es : List En) : D := .tup [.str "leaf", .tup (es.map enD)]
def brD (ks : List Str) (ps : List D) : D := .tup [.str "branch", .tup (ks.map D.str), .tup ps]
section
variable {A : AH} {key : Str}
theorem is_leaf_l {es : List En} : f_is_leaf [leafD es] A = .ok (.bl true) A := rfl
theorem is_leaf_b {ks : List Str} {ps : List D} : f_is_leaf [brD ks ps] A = .ok (.bl false) A := rfl
/-! ### searching -/
theorem half_nat {l h : Nat} : ((l : Int) + (h : Int)) / 2 = (((l + h) / 2 : Nat) : Int) := by omega
theorem child_go {a b : List Str} (ha : ∀ k ∈ a, sLe k key = true) (hb : ∀ k ∈ b, sLe k key = false) (hz : (a ++ b).length ≤ 1000000) : ∀ (m l h : Nat) (x4 : Option D), h - l ≤ m → l ≤ a.length → a.length ≤ h → h ≤ (a ++ b).length →
    ∃ y4, Wh t_child_number1 b_child_number1 [some (.tup ((a ++ b).map D.str)), some (.str key), some (.int (l : Int)), some (.int (h : Int)), x4] A (.nx [some (.tup ((a ++ b).map D.str)), some (.str key), some (.int (a.length : Nat)), some (.int (a.length : Nat)), y4] A) := by
  intro m
  induction m with
  | zero =>
    intro l h x4 hm h1 h2 h3
    have e1 : l = a.length := by omega
    have e2 : h = a.length := by omega
    subst e1
    rw [e2]
    refine ⟨x4, Wh.stop ?_⟩
    have t0 : decide (((a.length : Nat) : Int) < ((a.length : Nat) : Int)) = false := decide_eq_false (by omega)
    unfold t_child_number1
    simp only [EVa, List.getElem?_cons_zero, List.getElem?_cons_succ, List.set_cons_zero, List.set_cons_succ, bind_ok, lift_ok, List.length_cons, List.length_nil, Nat.reduceAdd, Nat.reduceLeDiff, ↓reduceIte, if_true, if_false, Bool.false_eq_true, ev_raise, and_self, List.map_cons, List.map_nil, List.replicate, List.cons_append, List.nil_append, Nat.reduceSub, lt_ii, t0]
  | succ m ih =>
    intro l h x4 hm h1 h2 h3
    by_cases hlt : l < h
    · have hc : (l + h) / 2 < (a ++ b).length := by omega
      have hx : ((a ++ b).map D.str)[(l + h) / 2]? = some (.str (a ++ b)[(l + h) / 2]) := by rw [List.getElem?_map, List.getElem?_eq_getElem hc]; rfl
      have ix := ixt (A := A) hx
      have cd : CDiv ((l : Int) + (h : Int)) 2 := ⟨by decide, by decide⟩
      have t0 : decide ((l : Int) < (h : Int)) = true := decide_eq_true (by omega)
      have t1 : t_child_number1 [some (.tup ((a ++ b).map D.str)), some (.str key), some (.int (l : Int)), some (.int (h : Int)), x4] A = .ok true A := by
        unfold t_child_number1
        simp only [EVa, List.getElem?_cons_zero, List.getElem?_cons_succ, List.set_cons_zero, List.set_cons_succ, bind_ok, lift_ok, List.length_cons, List.length_nil, Nat.reduceAdd, Nat.reduceLeDiff, ↓reduceIte, if_true, if_false, Bool.false_eq_true, ev_raise, and_self, List.map_cons, List.map_nil, List.replicate, List.cons_append, List.nil_append, Nat.reduceSub, lt_ii, t0]
      have pe : (((l + h) / 2 : Nat) : Int) + 1 = (((l + h) / 2 + 1 : Nat) : Int) := by omega
      by_cases hm2 : (l + h) / 2 < a.length
      · have hin : (a ++ b)[(l + h) / 2] ∈ a := by rw [List.getElem_append_left hm2]; exact List.getElem_mem _
        obtain ⟨y4, w⟩ := ih ((l + h) / 2 + 1) h (some (.int (((l + h) / 2 : Nat) : Int))) (by omega) (by omega) h2 h3
        refine ⟨y4, Wh.next t1 ?_ w⟩
        have lt := le_ss (A := A) (x := (a ++ b)[(l + h) / 2]) (y := key)
        rw [ha _ hin] at lt
        unfold b_child_number1
        refine (seq_nx (ρ1 := [some (.tup ((a ++ b).map D.str)), some (.str key), some (.int (l : Int)), some (.int (h : Int)), some (.int (((l + h) / 2 : Nat) : Int))]) (A1 := A) ?_).trans ?_
        · simp only [EVa, List.getElem?_cons_zero, List.getElem?_cons_succ, List.set_cons_zero, List.set_cons_succ, bind_ok, lift_ok, List.length_cons, List.length_nil, Nat.reduceAdd, Nat.reduceLeDiff, ↓reduceIte, if_true, if_false, Bool.false_eq_true, ev_raise, and_self, List.map_cons, List.map_nil, List.replicate, List.cons_append, List.nil_append, Nat.reduceSub, add_ii, div_ii cd, half_nat]
        · simp only [EVa, List.getElem?_cons_zero, List.getElem?_cons_succ, List.set_cons_zero, List.set_cons_succ, bind_ok, lift_ok, List.length_cons, List.length_nil, Nat.reduceAdd, Nat.reduceLeDiff, ↓reduceIte, if_true, if_false, Bool.false_eq_true, ev_raise, and_self, List.map_cons, List.map_nil, List.replicate, List.cons_append, List.nil_append, Nat.reduceSub, ix, lt, add_ii, pe]
      · have hin : (a ++ b)[(l + h) / 2] ∈ b := by rw [List.getElem_append_right (by omega)]; exact List.getElem_mem _
        obtain ⟨y4, w⟩ := ih l ((l + h) / 2) (some (.int (((l + h) / 2 : Nat) : Int))) (by omega) h1 (by omega) (by omega)
        refine ⟨y4, Wh.next t1 ?_ w⟩
        have lt := le_ss (A := A) (x := (a ++ b)[(l + h) / 2]) (y := key)
        rw [hb _ hin] at lt
        unfold b_child_number1
        refine (seq_nx (ρ1 := [some (.tup ((a ++ b).map D.str)), some (.str key), some (.int (l : Int)), some (.int (h : Int)), some (.int (((l + h) / 2 : Nat) : Int))]) (A1 := A) ?_).trans ?_
        · simp only [EVa, List.getElem?_cons_zero, List.getElem?_cons_succ, List.set_cons_zero, List.set_cons_succ, bind_ok, lift_ok, List.length_cons, List.length_nil, Nat.reduceAdd, Nat.reduceLeDiff, ↓reduceIte, if_true, if_false, Bool.false_eq_true, ev_raise, and_self, List.map_cons, List.map_nil, List.replicate, List.cons_append, List.nil_append, Nat.reduceSub, add_ii, div_ii cd, half_nat]
        · simp only [EVa, List.getElem?_cons_zero, List.getElem?_cons_succ, List.set_cons_zero, List.set_cons_succ, bind_ok, lift_ok, List.length_cons, List.length_nil, Nat.reduceAdd, Nat.reduceLeDiff, ↓reduceIte, if_true, if_false, Bool.false_eq_true, ev_raise, and_self, List.map_cons, List.map_nil, List.replicate, List.cons_append, List.nil_append, Nat.reduceSub, ix, lt]
    · obtain ⟨y4, w⟩ := ih l h x4 (by omega) h1 h2 h3
      exact ⟨y4, w⟩
theorem child_ok {a b : List Str} (ha : ∀ k ∈ a, sLe k key = true) (hb : ∀ k ∈ b, sLe k key = false) (hz : (a ++ b).length ≤ 1000000) : f_child_number [.tup ((a ++ b).map D.str), .str key] A = .ok (.int (a.length : Nat)) A := by
  obtain ⟨y4, w⟩ := child_go (A := A) ha hb hz _ 0 (a ++ b).length none (Nat.le_refl _) (Nat.zero_le _) (by rw [List.length_append]; omega) (Nat.le_refl _)
  have ln : fLen [.tup ((a ++ b).map D.str)] A = .ok (.int ((a ++ b).length : Nat)) A := by rw [len_t, List.length_map]
  unfold f_child_number
  refine fun_rt ?_
  refine (seq_nx (ρ1 := [some (.tup ((a ++ b).map D.str)), some (.str key), some (.int ((0 : Nat) : Int)), some (.int ((a ++ b).length : Nat)), none]) (A1 := A) ?_).trans ?_
  · simp only [EVa, List.getElem?_cons_zero, List.getElem?_cons_succ, List.set_cons_zero, List.set_cons_succ, bind_ok, lift_ok, List.length_cons, List.length_nil, Nat.reduceAdd, Nat.reduceLeDiff, ↓reduceIte, if_true, if_false, Bool.false_eq_true, ev_raise, and_self, List.map_cons, List.map_nil, List.replicate, List.cons_append, List.nil_append, Nat.reduceSub, ln]
    rfl
  refine (seq_nx (w.run (by simp))).trans ?_
  simp only [EVa, List.getElem?_cons_zero, List.getElem?_cons_succ, List.set_cons_zero, List.set_cons_succ, bind_ok, lift_ok, List.length_cons, List.length_nil, Nat.reduceAdd, Nat.reduceLeDiff, ↓reduceIte, if_true, if_false, Bool.false_eq_true, ev_raise, and_self, List.map_cons, List.map_nil, List.replicate, List.cons_append, List.nil_append, Nat.reduceSub]
theorem entry_go {a b : List En} (ha : ∀ k ∈ a, sLt k.1 key) (hb : ∀ k ∈ b, ¬ sLt k.1 key) (hz : (a ++ b).length ≤ 1000000) : ∀ (m l h : Nat) (x4 : Option D), h - l ≤ m → l ≤ a.length → a.length ≤ h → h ≤ (a ++ b).length →
    ∃ y4, Wh t_entry_number1 b_entry_number1 [some (.tup ((a ++ b).map enD)), some (.str key), some (.int (l : Int)), some (.int (h : Int)), x4] A (.nx [some (.tup ((a ++ b).map enD)), some (.str key), some (.int (a.length : Nat)), some (.int (a.length : Nat)), y4] A) := by
  intro m
  induction m with
  | zero =>
    intro l h x4 hm h1 h2 h3
    have e1 : l = a.length := by omega
    have e2 : h = a.length := by omega
    subst e1
    rw [e2]
    refine ⟨x4, Wh.stop ?_⟩
    have t0 : decide (((a.length : Nat) : Int) < ((a.length : Nat) : Int)) = false := decide_eq_false (by omega)
    unfold t_entry_number1
    simp only [EVa, List.getElem?_cons_zero, List.getElem?_cons_succ, List.set_cons_zero, List.set_cons_succ, bind_ok, lift_ok, List.length_cons, List.length_nil, Nat.reduceAdd, Nat.reduceLeDiff, ↓reduceIte, if_true, if_false, Bool.false_eq_true, ev_raise, and_self, List.map_cons, List.map_nil, List.replicate, List.cons_append, List.nil_append, Nat.reduceSub, lt_ii, t0]
  | succ m ih =>
    intro l h x4 hm h1 h2 h3
    by_cases hlt : l < h
    · have hc : (l + h) / 2 < (a ++ b).length := by omega
      have hx : ((a ++ b).map enD)[(l + h) / 2]? = some (enD (a ++ b)[(l + h) / 2]) := by rw [List.getElem?_map, List.getElem?_eq_getElem hc]; rfl
      have ix := ixt (A := A) hx
      have ix0 : fIx (enD (a ++ b)[(l + h) / 2]) (.int 0) A = .ok (.str (a ++ b)[(l + h) / 2].1) A := rfl
      have cd : CDiv ((l : Int) + (h : Int)) 2 := ⟨by decide, by decide⟩
      have t0 : decide ((l : Int) < (h : Int)) = true := decide_eq_true (by omega)
      have t1 : t_entry_number1 [some (.tup ((a ++ b).map enD)), some (.str key), some (.int (l : Int)), some (.int (h : Int)), x4] A = .ok true A := by
        unfold t_entry_number1
        simp only [EVa, List.getElem?_cons_zero, List.getElem?_cons_succ, List.set_cons_zero, List.set_cons_succ, bind_ok, lift_ok, List.length_cons, List.length_nil, Nat.reduceAdd, Nat.reduceLeDiff, ↓reduceIte, if_true, if_false, Bool.false_eq_true, ev_raise, and_self, List.map_cons, List.map_nil, List.replicate, List.cons_append, List.nil_append, Nat.reduceSub, lt_ii, t0]
      have pe : (((l + h) / 2 : Nat) : Int) + 1 = (((l + h) / 2 + 1 : Nat) : Int) := by omega
      by_cases hm2 : (l + h) / 2 < a.length
      · have hin : (a ++ b)[(l + h) / 2] ∈ a := by rw [List.getElem_append_left hm2]; exact List.getElem_mem _
        obtain ⟨y4, w⟩ := ih ((l + h) / 2 + 1) h (some (.int (((l + h) / 2 : Nat) : Int))) (by omega) (by omega) h2 h3
        refine ⟨y4, Wh.next t1 ?_ w⟩
        have lt := lt_ss (A := A) (x := (a ++ b)[(l + h) / 2].1) (y := key)
        rw [decide_eq_true (ha _ hin)] at lt
        unfold b_entry_number1
        refine (seq_nx (ρ1 := [some (.tup ((a ++ b).map enD)), some (.str key), some (.int (l : Int)), some (.int (h : Int)), some (.int (((l + h) / 2 : Nat) : Int))]) (A1 := A) ?_).trans ?_
        · simp only [EVa, List.getElem?_cons_zero, List.getElem?_cons_succ, List.set_cons_zero, List.set_cons_succ, bind_ok, lift_ok, List.length_cons, List.length_nil, Nat.reduceAdd, Nat.reduceLeDiff, ↓reduceIte, if_true, if_false, Bool.false_eq_true, ev_raise, and_self, List.map_cons, List.map_nil, List.replicate, List.cons_append, List.nil_append, Nat.reduceSub, add_ii, div_ii cd, half_nat]
        · simp only [EVa, List.getElem?_cons_zero, List.getElem?_cons_succ, List.set_cons_zero, List.set_cons_succ, bind_ok, lift_ok, List.length_cons, List.length_nil, Nat.reduceAdd, Nat.reduceLeDiff, ↓reduceIte, if_true, if_false, Bool.false_eq_true, ev_raise, and_self, List.map_cons, List.map_nil, List.replicate, List.cons_append, List.nil_append, Nat.reduceSub, ix, ix0, lt, add_ii, pe]
      · have hin : (a ++ b)[(l + h) / 2] ∈ b := by rw [List.getElem_append_right (by omega)]; exact List.getElem_mem _
        obtain ⟨y4, w⟩ := ih l ((l + h) / 2) (some (.int (((l + h) / 2 : Nat) : Int))) (by omega) h1 (by omega) (by omega)
        refine ⟨y4, Wh.next t1 ?_ w⟩
        have lt := lt_ss (A := A) (x := (a ++ b)[(l + h) / 2].1) (y := key)
        rw [decide_eq_false (hb _ hin)] at lt
        unfold b_entry_number1
        refine (seq_nx (ρ1 := [some (.tup ((a ++ b).map enD)), some (.str key), some (.int (l : Int)), some (.int (h : Int)), some (.int (((l + h) / 2 : Nat) : Int))]) (A1 := A) ?_).trans ?_
        · simp only [EVa, List.getElem?_cons_zero, List.getElem?_cons_succ, List.set_cons_zero, List.set_cons_succ, bind_ok, lift_ok, List.length_cons, List.length_nil, Nat.reduceAdd, Nat.reduceLeDiff, ↓reduceIte, if_true, if_false, Bool.false_eq_true, ev_raise, and_self, List.map_cons, List.map_nil, List.replicate, List.cons_append, List.nil_append, Nat.reduceSub, add_ii, div_ii cd, half_nat]
        · simp only [EVa, List.getElem?_cons_zero, List.getElem?_cons_succ, List.set_cons_zero, List.set_cons_succ, bind_ok, lift_ok, List.length_cons, List.length_nil, Nat.reduceAdd, Nat.reduceLeDiff, ↓reduceIte, if_true, if_false, Bool.false_eq_true, ev_raise, and_self, List.map_cons, List.map_nil, List.replicate, List.cons_append, List.nil_append, Nat.reduceSub, ix, ix0, lt]
    · obtain ⟨y4, w⟩ := ih l h x4 (by omega) h1 h2 h3
      exact ⟨y4, w⟩
theorem entry_ok {a b : List En} (ha : ∀ k ∈ a, sLt k.1 key) (hb : ∀ k ∈ b, ¬ sLt k.1 key) (hz : (a ++ b).length ≤ 1000000) : f_entry_number [.tup ((a ++ b).map enD), .str key] A = .ok (.int (a.length : Nat)) A := by
  obtain ⟨y4, w⟩ := entry_go (A := A) ha hb hz _ 0 (a ++ b).length none (Nat.le_refl _) (Nat.zero_le _) (by rw [List.length_append]; omega) (Nat.le_refl _)
  have ln : fLen [.tup ((a ++ b).map enD)] A = .ok (.int ((a ++ b).length : Nat)) A := by rw [len_t, List.length_map]
  unfold f_entry_number
  refine fun_rt ?_
  refine (seq_nx (ρ1 := [some (.tup ((a ++ b).map enD)), some (.str key), some (.int ((0 : Nat) : Int)), some (.int ((a ++ b).length : Nat)), none]) (A1 := A) ?_).trans ?_
  · simp only [EVa, List.getElem?_cons_zero, List.getElem?_cons_succ, List.set_cons_zero, List.set_cons_succ, bind_ok, lift_ok, List.length_cons, List.length_nil, Nat.reduceAdd, Nat.reduceLeDiff, ↓reduceIte, if_true, if_false, Bool.false_eq_true, ev_raise, and_self, List.map_cons, List.map_nil, List.replicate, List.cons_append, List.nil_append, Nat.reduceSub, ln]
    rfl
  refine (seq_nx (w.run (by simp))).trans ?_
  simp only [EVa, List.getElem?_cons_zero, List.getElem?_cons_succ, List.set_cons_zero, List.set_cons_succ, bind_ok, lift_ok, List.length_cons, List.length_nil, Nat.reduceAdd, Nat.reduceLeDiff, ↓reduceIte, if_true, if_false, Bool.false_eq_true, ev_raise, and_self, List.map_cons, List.map_nil, List.replicate, List.cons_append, List.nil_append, Nat.reduceSub]
/-! ### the number of things on a page -/
def half (m : Nat) : Nat := (m + 1) / 2
end
end TR
end
section
set_option maxHeartbeats 1000000
namespace TR
open PySem PySem.Spec PyProof.Rows L2 DM
/-! ### what a page is, with its entries -/
def count : D → Nat
  | .tup [.str _, .tup xs] => xs.length
  | .tup [.str _, .tup _, .tup xs] => xs.length
  | _ => 0
theorem count_l {es : List En} : count (leafD es) = es.length := by
  show (es.map enD).length = _
  rw [List.length_map]
theorem count_b {ks : List Str} {ps : List D} : count (brD ks ps) = ps.length := rfl
abbrev Ch := D × List En
def ents (cs : List Ch) : List En := (cs.map (·.2)).flatten
theorem ents_app (a b : List Ch) : ents (a ++ b) = ents a ++ ents b := by unfold ents; rw [List.map_append, List.flatten_append]
theorem ents_cons (c : Ch) (b : List Ch) : ents (c :: b) = c.2 ++ ents b := rfl
theorem ents_nil : ents [] = [] := rfl
/-- children with the keys between them -/
inductive Sep : List Str → List Ch → Prop
  | one {c : Ch} : c.2 ≠ [] → Sep [] [c]
  | cons {k : Str} {ks : List Str} {c : Ch} {cs : List Ch} : c.2 ≠ [] → (∀ e ∈ c.2, sLt e.1 k) → (∀ e ∈ ents cs, ¬ sLt e.1 k) → Sep ks cs → Sep (k :: ks) (c :: cs)
theorem Sep.len {ks : List Str} {cs : List Ch} (s : Sep ks cs) : cs.length = ks.length + 1 := by
  induction s with
  | one _ => rfl
  | cons _ _ _ _ ih => rw [List.length_cons, List.length_cons, ih]
theorem Sep.some {ks : List Str} {cs : List Ch} (s : Sep ks cs) : ∃ e, e ∈ ents cs := by
  cases s with
  | @one c h =>
    obtain ⟨e, he⟩ := List.exists_mem_of_ne_nil _ h
    exact ⟨e, by rw [ents_cons]; exact List.mem_append_left _ he⟩
  | @cons k ks c cs h _ _ _ =>
    obtain ⟨e, he⟩ := List.exists_mem_of_ne_nil _ h
    exact ⟨e, by rw [ents_cons]; exact List.mem_append_left _ he⟩
theorem Sep.app {a b : List Str} {l r : List Ch} {k : Str} (s : Sep a l) (t : Sep b r) (h1 : ∀ e ∈ ents l, sLt e.1 k) (h2 : ∀ e ∈ ents r, ¬ sLt e.1 k) : Sep (a ++ k :: b) (l ++ r) := by
  induction s with
  | @one c h => exact .cons h (fun e he => h1 e (by rw [ents_cons]; exact List.mem_append_left _ he)) h2 t
  | @cons k0 ks c cs g0 g1 g2 s ih =>
    have hk : sLt k0 k := by
      obtain ⟨e, he⟩ := s.some
      exact le_lt (g2 e he) (h1 e (by rw [ents_cons]; exact List.mem_append_right _ he))
    refine .cons g0 g1 (fun e he => ?_) (ih fun e he => h1 e (by rw [ents_cons]; exact List.mem_append_right _ he))
    have he : e ∈ ents (cs ++ r) := he
    rw [ents_app] at he
    rcases List.mem_append.mp he with he | he
    · exact g2 e he
    · exact fun z => h2 e he (lt_tr z hk)
theorem Sep.split {b : List Str} {k : Str} : ∀ {a : List Str} {cs : List Ch}, Sep (a ++ k :: b) cs → ∃ l r, cs = l ++ r ∧ Sep a l ∧ Sep b r ∧ (∀ e ∈ ents l, sLt e.1 k) ∧ ∀ e ∈ ents r, ¬ sLt e.1 k
  | [], cs, s => by
    cases s with
    | @cons _ _ c cs g0 g1 g2 s => exact ⟨[c], cs, rfl, .one g0, s, fun e he => g1 e (by rw [ents_cons, ents_nil, List.append_nil] at he; exact he), g2⟩
  | k0 :: a, cs, s => by
    cases s with
    | @cons _ _ c cs g0 g1 g2 s =>
      obtain ⟨l, r, rfl, s1, s2, h1, h2⟩ := Sep.split (a := a) s
      have hk : sLt k0 k := by
        obtain ⟨e, he⟩ := s1.some
        exact le_lt (g2 e (by rw [ents_app]; exact List.mem_append_left _ he)) (h1 e he)
      refine ⟨c :: l, r, rfl, .cons g0 g1 (fun e he => g2 e (by rw [ents_app]; exact List.mem_append_left _ he)) s1, s2, fun e he => ?_, h2⟩
      rw [ents_cons] at he
      rcases List.mem_append.mp he with he | he
      · exact lt_tr (g1 e he) hk
      · exact h1 e he
theorem Sep.mono {ks : List Str} {cs : List Ch} (s : Sep ks cs) : ks.Pairwise sLt := by
  induction s with
  | one _ => exact .nil
  | @cons k ks c cs g0 g1 g2 s ih =>
    refine List.pairwise_cons.mpr ⟨fun k' hk' => ?_, ih⟩
    obtain ⟨a, b, rfl⟩ := List.append_of_mem hk'
    obtain ⟨l, r, rfl, s1, s2, h1, h2⟩ := s.split
    obtain ⟨e, he⟩ := s1.some
    exact le_lt (g2 e (by rw [ents_app]; exact List.mem_append_left _ he)) (h1 e he)
theorem Sep.full {ks : List Str} {cs : List Ch} (s : Sep ks cs) : ∀ c ∈ cs, c.2 ≠ [] := by
  induction s with
  | one h => intro c hc; rw [List.mem_singleton.mp hc]; exact h
  | cons h _ _ _ ih =>
    intro c hc
    rcases List.mem_cons.mp hc with rfl | hc
    · exact h
    · exact ih c hc
/-- the children ys between the keys mid, left and right of them -/
theorem Sep.zone {mid b : List Str} {ys r : List Ch} (hy : ys.length = mid.length + 1) : ∀ {a : List Str} {l : List Ch}, Sep (a ++ (mid ++ b)) (l ++ (ys ++ r)) → l.length = a.length →
    Sep mid ys ∧ (∀ e ∈ ents ys, (∀ k ∈ a, ¬ sLt e.1 k) ∧ ∀ k ∈ b, sLt e.1 k) ∧ (∀ e ∈ ents l, ∃ k ∈ a, sLt e.1 k) ∧ (∀ e ∈ ents r, ∃ k ∈ b, ¬ sLt e.1 k) ∧ r.length = b.length ∧
      ∀ {kx : List Str} {xs : List Ch}, Sep kx xs → (∀ e ∈ ents xs, (∀ k ∈ a, ¬ sLt e.1 k) ∧ ∀ k ∈ b, sLt e.1 k) → Sep (a ++ (kx ++ b)) (l ++ (xs ++ r))
  | [], l, s, hl => by
    have e0 : l = [] := List.eq_nil_of_length_eq_zero hl
    subst e0
    rw [List.nil_append, List.nil_append] at s
    cases b with
    | nil =>
      have hr : r = [] := by
        have := s.len
        rw [List.append_nil, List.length_append] at this
        exact List.eq_nil_of_length_eq_zero (by omega)
      subst hr
      rw [List.append_nil, List.append_nil] at s
      refine ⟨s, fun e he => ⟨(fun k hk => nomatch hk), (fun k hk => nomatch hk)⟩, (fun e he => nomatch he), (fun e he => nomatch he), rfl, fun {kx xs} t _ => ?_⟩
      rw [List.append_nil, List.append_nil]
      exact t
    | cons k b =>
      obtain ⟨l2, r2, e, s1, s2, h1, h2⟩ := s.split
      have hlen : ys.length = l2.length := by rw [hy, s1.len]
      obtain ⟨rfl, rfl⟩ := List.append_inj e hlen
      have mo := s.mono
      have kb : ∀ k' ∈ b, sLt k k' := fun k' hk' => by
        have := (List.pairwise_append.mp mo).2.1
        exact (List.pairwise_cons.mp this).1 k' hk'
      refine ⟨s1, fun e he => ⟨(fun k hk => nomatch hk), fun k' hk' => ?_⟩, (fun e he => nomatch he), fun e he => ⟨k, List.mem_cons_self, h2 e he⟩, by rw [s2.len, List.length_cons], fun {kx xs} t hx => ?_⟩
      · rcases List.mem_cons.mp hk' with rfl | hk'
        · exact h1 e he
        · exact lt_tr (h1 e he) (kb k' hk')
      · exact t.app s2 (fun e he => (hx e he).2 k List.mem_cons_self) h2
  | k :: a, l, s, hl => by
    cases l with
    | nil => simp at hl
    | cons c l =>
      cases s with
      | cons g0 g1 g2 s =>
        obtain ⟨z1, z2, z3, z4, z5, z6⟩ := Sep.zone hy s (by simpa using hl)
        have inY : ∀ e ∈ ents ys, ¬ sLt e.1 k := fun e he => g2 e (by show e ∈ ents (l ++ (ys ++ r)); rw [ents_app, ents_app]; exact List.mem_append_right _ (List.mem_append_left _ he))
        refine ⟨z1, fun e he => ⟨fun k' hk' => ?_, (z2 e he).2⟩, fun e he => ?_, z4, z5, fun {kx xs} t hx => ?_⟩
        · rcases List.mem_cons.mp hk' with rfl | hk'
          · exact inY e he
          · exact (z2 e he).1 k' hk'
        · rw [ents_cons] at he
          rcases List.mem_append.mp he with he | he
          · exact ⟨k, List.mem_cons_self, g1 e he⟩
          · obtain ⟨k', h1, h2⟩ := z3 e he
            exact ⟨k', List.mem_cons_of_mem _ h1, h2⟩
        · refine .cons g0 g1 (fun e he => ?_) (z6 t fun e he => ⟨fun k' hk' => (hx e he).1 k' (List.mem_cons_of_mem _ hk'), (hx e he).2⟩)
          have he : e ∈ ents (l ++ (xs ++ r)) := he
          rw [ents_app, ents_app] at he
          rcases List.mem_append.mp he with he | he
          · exact g2 e (by show e ∈ ents (l ++ (ys ++ r)); rw [ents_app]; exact List.mem_append_left _ he)
          · rcases List.mem_append.mp he with he | he
            · exact (hx e he).1 k List.mem_cons_self
            · exact g2 e (by show e ∈ ents (l ++ (ys ++ r)); rw [ents_app, ents_app]; exact List.mem_append_right _ (List.mem_append_right _ he))
def Ok (m : Nat) : Nat → D → List En → Prop
  | 0, d, es => d = leafD es ∧ es.length ≤ m
  | n + 1, d, es => ∃ ks cs, d = brD ks (cs.map (·.1)) ∧ Sep ks cs ∧ cs.length ≤ m ∧ es = ents cs ∧ ∀ c ∈ cs, Ok m n c.1 c.2 ∧ half m ≤ count c.1
abbrev Srt (es : List En) : Prop := es.Pairwise fun a b => sLt a.1 b.1
theorem Ok.full {m : Nat} {n : Nat} {d : D} {es : List En} (o : Ok m n d es) (h : 1 ≤ count d) : es ≠ [] := by
  cases n with
  | zero =>
    obtain ⟨rfl, _⟩ := o
    rw [count_l] at h
    exact List.length_pos_iff.mp h
  | succ n =>
    obtain ⟨ks, cs, rfl, s, _, rfl, _⟩ := o
    obtain ⟨e, he⟩ := s.some
    exact List.ne_nil_of_mem he
/-- what making room leaves: one page or two -/
def Pcs (m n : Nat) (es : List En) (c : Nat) (ps : List D) (ks : List Str) : Prop :=
  ∃ xs : List Ch, ps = xs.map (·.1) ∧ Sep ks xs ∧ es = ents xs ∧ (∀ x ∈ xs, Ok m n x.1 x.2) ∧ ((xs.length = 1 ∧ ∀ x ∈ xs, c ≤ count x.1) ∨ (xs.length = 2 ∧ ∀ x ∈ xs, half m ≤ count x.1))
def psD (ps : List D) (ks : List Str) : D := .tup [.lst ps, .lst (ks.map D.str)]
section
variable {m : Nat} {A : AH}
theorem packed_leaf_ok {es : List En} (h3 : 3 ≤ m) (hm : m ≤ 16) (h0 : es ≠ []) (h1 : es.length ≤ 2 * m) (hs : Srt es) : ∃ ps ks, f_packed_leaf [.int (m : Int), .tup (es.map enD)] A = .ok (psD ps ks) A ∧ Pcs m 0 es es.length ps ks := by
  have ln : fLen [.tup (es.map enD)] A = .ok (.int (es.length : Nat)) A := by rw [len_t, List.length_map]
  by_cases hle : es.length ≤ m
  · refine ⟨[leafD es], [], ?_, [(leafD es, es)], rfl, .one h0, by rw [ents_cons, ents_nil, List.append_nil], fun x hx => ?_, .inl ⟨rfl, fun x hx => ?_⟩⟩
    · have t0 : decide (((es.length : Nat) : Int) ≤ (m : Int)) = true := decide_eq_true (by omega)
      unfold f_packed_leaf
      refine fun_rt ?_
      refine seq_rt ?_
      simp only [EVa, List.getElem?_cons_zero, List.getElem?_cons_succ, List.set_cons_zero, List.set_cons_succ, bind_ok, lift_ok, List.length_cons, List.length_nil, Nat.reduceAdd, Nat.reduceLeDiff, ↓reduceIte, if_true, if_false, Bool.false_eq_true, ev_raise, and_self, List.map_cons, List.map_nil, List.replicate, List.cons_append, List.nil_append, Nat.reduceSub, ln, le_ii, t0]
      rfl
    · rw [List.mem_singleton.mp hx]; exact ⟨rfl, hle⟩
    · rw [List.mem_singleton.mp hx]; exact Nat.le_of_eq count_l.symm
  · have hc : es.length / 2 < es.length := by omega
    have t0 : decide (((es.length : Nat) : Int) ≤ (m : Int)) = false := decide_eq_false (by omega)
    have cd : CDiv ((es.length : Nat) : Int) 2 := ⟨by decide, by decide⟩
    have dv : ((es.length : Nat) : Int) / 2 = ((es.length / 2 : Nat) : Int) := by omega
    have sT := sl_to (A := A) (xs := es.map enD) (i := es.length / 2)
    have sD := sl_from (A := A) (xs := es.map enD) (i := es.length / 2) (by rw [List.length_map]; omega)
    have hx : (es.map enD)[es.length / 2]? = some (enD es[es.length / 2]) := by rw [List.getElem?_map, List.getElem?_eq_getElem hc]; rfl
    have ix := ixt (A := A) hx
    have ix0 : fIx (enD es[es.length / 2]) (.int 0) A = .ok (.str es[es.length / 2].1) A := rfl
    have hh : half m ≤ es.length / 2 := by unfold half; omega
    have spl : es = es.take (es.length / 2) ++ es.drop (es.length / 2) := (List.take_append_drop _ _).symm
    have hd : es.drop (es.length / 2) = es[es.length / 2] :: es.drop (es.length / 2 + 1) := List.drop_eq_getElem_cons hc
    have hs2 := hs
    rw [spl] at hs2
    obtain ⟨s1, s2, s3⟩ := List.pairwise_append.mp hs2
    refine ⟨[leafD (es.take (es.length / 2)), leafD (es.drop (es.length / 2))], [es[es.length / 2].1], ?_, [(leafD (es.take (es.length / 2)), es.take (es.length / 2)), (leafD (es.drop (es.length / 2)), es.drop (es.length / 2))], rfl, ?_, ?_, fun x hx => ?_, .inr ⟨rfl, fun x hx => ?_⟩⟩
    · unfold f_packed_leaf
      refine fun_rt ?_
      refine (seq_nx (ρ1 := [some (.int (m : Int)), some (.tup (es.map enD)), none]) (A1 := A) ?_).trans ?_
      · simp only [EVa, List.getElem?_cons_zero, List.getElem?_cons_succ, List.set_cons_zero, List.set_cons_succ, bind_ok, lift_ok, List.length_cons, List.length_nil, Nat.reduceAdd, Nat.reduceLeDiff, ↓reduceIte, if_true, if_false, Bool.false_eq_true, ev_raise, and_self, List.map_cons, List.map_nil, List.replicate, List.cons_append, List.nil_append, Nat.reduceSub, ln, le_ii, t0]
      refine (seq_nx (ρ1 := [some (.int (m : Int)), some (.tup (es.map enD)), some (.int (es.length / 2 : Nat))]) (A1 := A) ?_).trans ?_
      · simp only [EVa, List.getElem?_cons_zero, List.getElem?_cons_succ, List.set_cons_zero, List.set_cons_succ, bind_ok, lift_ok, List.length_cons, List.length_nil, Nat.reduceAdd, Nat.reduceLeDiff, ↓reduceIte, if_true, if_false, Bool.false_eq_true, ev_raise, and_self, List.map_cons, List.map_nil, List.replicate, List.cons_append, List.nil_append, Nat.reduceSub, ln, div_ii cd, dv]
      · simp only [EVa, List.getElem?_cons_zero, List.getElem?_cons_succ, List.set_cons_zero, List.set_cons_succ, bind_ok, lift_ok, List.length_cons, List.length_nil, Nat.reduceAdd, Nat.reduceLeDiff, ↓reduceIte, if_true, if_false, Bool.false_eq_true, ev_raise, and_self, List.map_cons, List.map_nil, List.replicate, List.cons_append, List.nil_append, Nat.reduceSub, sT, sD, ix, ix0]
        unfold psD leafD
        rw [List.map_take, List.map_drop]
        rfl
    · refine .cons ?_ (fun e he => ?_) (fun e he => ?_) (.one ?_)
      · show es.take (es.length / 2) ≠ []
        refine List.ne_nil_of_length_pos ?_
        have : 2 ≤ half m := by unfold half; omega
        rw [List.length_take]; omega
      · exact s3 e he _ (by rw [hd]; exact List.mem_cons_self)
      · rw [ents_cons, ents_nil, List.append_nil] at he
        have he : e ∈ es.drop (es.length / 2) := he
        rw [hd] at he s2
        rcases List.mem_cons.mp he with rfl | he
        · exact lt_ir
        · exact lt_as ((List.pairwise_cons.mp s2).1 e he)
      · show es.drop (es.length / 2) ≠ []
        rw [hd]; exact List.cons_ne_nil _ _
    · rw [ents_cons, ents_cons, ents_nil, List.append_nil]
      exact spl
    · simp only [List.mem_cons, List.not_mem_nil, or_false] at hx
      rcases hx with rfl | rfl
      · exact ⟨rfl, by show (es.take _).length ≤ m; rw [List.length_take]; omega⟩
      · exact ⟨rfl, by show (es.drop _).length ≤ m; rw [List.length_drop]; omega⟩
    · simp only [List.mem_cons, List.not_mem_nil, or_false] at hx
      rcases hx with rfl | rfl
      · show half m ≤ count (leafD _); rw [count_l, List.length_take]; omega
      · show half m ≤ count (leafD _); rw [count_l, List.length_drop]; omega
theorem packed_branch_ok {n : Nat} {ks : List Str} {cs : List Ch} (h3 : 3 ≤ m) (hm : m ≤ 16) (h1 : cs.length ≤ 2 * m) (s : Sep ks cs) (hc : ∀ c ∈ cs, Ok m n c.1 c.2 ∧ half m ≤ count c.1) :
    ∃ ps kx, f_packed_branch [.int (m : Int), .tup (ks.map D.str), .tup (cs.map (·.1))] A = .ok (psD ps kx) A ∧ Pcs m (n + 1) (ents cs) cs.length ps kx := by
  have ln : fLen [.tup (cs.map (·.1))] A = .ok (.int (cs.length : Nat)) A := by rw [len_t, List.length_map]
  have hl := s.len
  by_cases hle : cs.length ≤ m
  · refine ⟨[brD ks (cs.map (·.1))], [], ?_, [(brD ks (cs.map (·.1)), ents cs)], rfl, .one (by obtain ⟨e, he⟩ := s.some; exact List.ne_nil_of_mem he), by rw [ents_cons, ents_nil, List.append_nil], fun x hx => ?_, .inl ⟨rfl, fun x hx => ?_⟩⟩
    · have t0 : decide (((cs.length : Nat) : Int) ≤ (m : Int)) = true := decide_eq_true (by omega)
      unfold f_packed_branch
      refine fun_rt ?_
      refine seq_rt ?_
      simp only [EVa, List.getElem?_cons_zero, List.getElem?_cons_succ, List.set_cons_zero, List.set_cons_succ, bind_ok, lift_ok, List.length_cons, List.length_nil, Nat.reduceAdd, Nat.reduceLeDiff, ↓reduceIte, if_true, if_false, Bool.false_eq_true, ev_raise, and_self, List.map_cons, List.map_nil, List.replicate, List.cons_append, List.nil_append, Nat.reduceSub, ln, le_ii, t0]
      rfl
    · rw [List.mem_singleton.mp hx]; exact ⟨ks, cs, rfl, s, hle, rfl, hc⟩
    · rw [List.mem_singleton.mp hx]; exact Nat.le_of_eq (by show _ = (cs.map (·.1)).length; rw [List.length_map])
  · have hcut : 1 ≤ cs.length / 2 := by omega
    have hk : cs.length / 2 - 1 < ks.length := by omega
    have t0 : decide (((cs.length : Nat) : Int) ≤ (m : Int)) = false := decide_eq_false (by omega)
    have cd : CDiv ((cs.length : Nat) : Int) 2 := ⟨by decide, by decide⟩
    have dv : ((cs.length : Nat) : Int) / 2 = ((cs.length / 2 : Nat) : Int) := by omega
    have e1 : ((cs.length / 2 : Nat) : Int) - 1 = ((cs.length / 2 - 1 : Nat) : Int) := by omega
    have pT := sl_to (A := A) (xs := cs.map (·.1)) (i := cs.length / 2)
    have pD := sl_from (A := A) (xs := cs.map (·.1)) (i := cs.length / 2) (by rw [List.length_map]; omega)
    have kT := sl_to (A := A) (xs := ks.map D.str) (i := cs.length / 2 - 1)
    have kD := sl_from (A := A) (xs := ks.map D.str) (i := cs.length / 2) (by rw [List.length_map]; omega)
    have hx : (ks.map D.str)[cs.length / 2 - 1]? = some (.str ks[cs.length / 2 - 1]) := by rw [List.getElem?_map, List.getElem?_eq_getElem hk]; rfl
    have ix := ixt (A := A) hx
    have hh : half m ≤ cs.length / 2 := by unfold half; omega
    have ek : ks = ks.take (cs.length / 2 - 1) ++ ks[cs.length / 2 - 1] :: ks.drop (cs.length / 2) := by
      have := List.drop_eq_getElem_cons hk
      rw [show cs.length / 2 - 1 + 1 = cs.length / 2 by omega] at this
      rw [← this, List.take_append_drop]
    have s' := s
    rw [ek] at s'
    obtain ⟨l, r, ecs, s1, s2, g1, g2⟩ := s'.split
    have ll : l.length = cs.length / 2 := by rw [s1.len, List.length_take]; omega
    have eT : cs.take (cs.length / 2) = l := by
      rw [← ll, ecs, List.take_left]
    have eD : cs.drop (cs.length / 2) = r := by
      rw [← ll, ecs, List.drop_left]
    have lr : r.length = cs.length - cs.length / 2 := by rw [← eD, List.length_drop]
    refine ⟨[brD (ks.take (cs.length / 2 - 1)) (l.map (·.1)), brD (ks.drop (cs.length / 2)) (r.map (·.1))], [ks[cs.length / 2 - 1]], ?_, [(brD (ks.take (cs.length / 2 - 1)) (l.map (·.1)), ents l), (brD (ks.drop (cs.length / 2)) (r.map (·.1)), ents r)], rfl, ?_, ?_, fun x hx => ?_, .inr ⟨rfl, fun x hx => ?_⟩⟩
    · unfold f_packed_branch
      refine fun_rt ?_
      refine (seq_nx (ρ1 := [some (.int (m : Int)), some (.tup (ks.map D.str)), some (.tup (cs.map (·.1))), none]) (A1 := A) ?_).trans ?_
      · simp only [EVa, List.getElem?_cons_zero, List.getElem?_cons_succ, List.set_cons_zero, List.set_cons_succ, bind_ok, lift_ok, List.length_cons, List.length_nil, Nat.reduceAdd, Nat.reduceLeDiff, ↓reduceIte, if_true, if_false, Bool.false_eq_true, ev_raise, and_self, List.map_cons, List.map_nil, List.replicate, List.cons_append, List.nil_append, Nat.reduceSub, ln, le_ii, t0]
      refine (seq_nx (ρ1 := [some (.int (m : Int)), some (.tup (ks.map D.str)), some (.tup (cs.map (·.1))), some (.int (cs.length / 2 : Nat))]) (A1 := A) ?_).trans ?_
      · simp only [EVa, List.getElem?_cons_zero, List.getElem?_cons_succ, List.set_cons_zero, List.set_cons_succ, bind_ok, lift_ok, List.length_cons, List.length_nil, Nat.reduceAdd, Nat.reduceLeDiff, ↓reduceIte, if_true, if_false, Bool.false_eq_true, ev_raise, and_self, List.map_cons, List.map_nil, List.replicate, List.cons_append, List.nil_append, Nat.reduceSub, ln, div_ii cd, dv]
      · simp only [EVa, List.getElem?_cons_zero, List.getElem?_cons_succ, List.set_cons_zero, List.set_cons_succ, bind_ok, lift_ok, List.length_cons, List.length_nil, Nat.reduceAdd, Nat.reduceLeDiff, ↓reduceIte, if_true, if_false, Bool.false_eq_true, ev_raise, and_self, List.map_cons, List.map_nil, List.replicate, List.cons_append, List.nil_append, Nat.reduceSub, sub_ii, e1, pT, pD, kT, kD, ix]
        unfold psD brD
        rw [← List.map_take, ← List.map_take, ← List.map_drop, ← List.map_drop, eT, eD]
        rfl
    · refine .cons ?_ (fun e he => g1 e he) (fun e he => ?_) (.one ?_)
      · obtain ⟨e, he⟩ := s1.some; exact List.ne_nil_of_mem he
      · rw [ents_cons, ents_nil, List.append_nil] at he; exact g2 e he
      · obtain ⟨e, he⟩ := s2.some; exact List.ne_nil_of_mem he
    · rw [ents_cons, ents_cons, ents_nil, List.append_nil]
      conv => lhs; rw [ecs]
      exact ents_app l r
    · simp only [List.mem_cons, List.not_mem_nil, or_false] at hx
      rcases hx with rfl | rfl
      · exact ⟨_, l, rfl, s1, by omega, rfl, fun c h => hc c (by rw [ecs]; exact List.mem_append_left _ h)⟩
      · exact ⟨_, r, rfl, s2, by omega, rfl, fun c h => hc c (by rw [ecs]; exact List.mem_append_right _ h)⟩
    · simp only [List.mem_cons, List.not_mem_nil, or_false] at hx
      rcases hx with rfl | rfl
      · show half m ≤ (l.map (·.1)).length; rw [List.length_map]; omega
      · show half m ≤ (r.map (·.1)).length; rw [List.length_map]; omega
end
end TR
end
section
set_option maxHeartbeats 1000000
namespace TR
open PySem PySem.Spec PyProof.Rows L2 DM
/-! ### entries put in, taken out -/
def insE (es : List En) (k : Str) (v : D) : List En := es.filter (fun e => decide (sLt e.1 k)) ++ (k, v) :: es.filter (fun e => decide (sLt k e.1))
def delE (es : List En) (k : Str) : List En := es.filter fun e => decide (e.1 ≠ k)
theorem srt_cut {k : Str} : ∀ {es : List En}, Srt es → ∃ a b, es = a ++ b ∧ (∀ e ∈ a, sLt e.1 k) ∧ (∀ e ∈ b, ¬ sLt e.1 k) ∧ a = es.filter (fun e => decide (sLt e.1 k)) ∧ ((b = es.filter (fun e => decide (sLt k e.1)) ∧ ∀ e ∈ b, sLt k e.1) ∨ ∃ w b', b = (k, w) :: b' ∧ b' = es.filter (fun e => decide (sLt k e.1)) ∧ ∀ e ∈ b', sLt k e.1)
  | [], _ => ⟨[], [], rfl, (fun e he => nomatch he), (fun e he => nomatch he), rfl, .inl ⟨rfl, (fun e he => nomatch he)⟩⟩
  | (x, w) :: es, h => by
    obtain ⟨h1, h2⟩ := List.pairwise_cons.mp h
    rcases tri x k with hx | rfl | hx
    · obtain ⟨a, b, e, p1, p2, p3, p4⟩ := srt_cut (k := k) h2
      refine ⟨(x, w) :: a, b, by rw [e]; rfl, fun z hz => ?_, p2, ?_, ?_⟩
      · rcases List.mem_cons.mp hz with rfl | hz
        · exact hx
        · exact p1 z hz
      · rw [List.filter_cons_of_pos (by exact decide_eq_true hx), ← p3]
      · rw [List.filter_cons_of_neg (by simpa using lt_as hx)]
        exact p4
    · have g : ∀ e ∈ es, sLt x e.1 := h1
      refine ⟨[], (x, w) :: es, rfl, (fun e he => nomatch he), fun z hz => ?_, ?_, .inr ⟨w, es, rfl, ?_, g⟩⟩
      · rcases List.mem_cons.mp hz with rfl | hz
        · exact lt_ir
        · exact lt_as (g z hz)
      · rw [List.filter_cons_of_neg (by simpa using lt_ir (a := x)), List.filter_eq_nil_iff.mpr fun e he => by simpa using lt_as (g e he)]
      · rw [List.filter_cons_of_neg (by simpa using lt_ir (a := x)), List.filter_eq_self.mpr fun e he => decide_eq_true (g e he)]
    · have g : ∀ e ∈ (x, w) :: es, sLt k e.1 := fun e he => by
        rcases List.mem_cons.mp he with rfl | he
        · exact hx
        · exact lt_tr hx (h1 e he)
      refine ⟨[], (x, w) :: es, rfl, (fun e he => nomatch he), fun z hz => lt_as (g z hz), ?_, .inl ⟨?_, g⟩⟩
      · rw [List.filter_eq_nil_iff.mpr fun e he => by simpa using lt_as (g e he)]
      · rw [List.filter_eq_self.mpr fun e he => decide_eq_true (g e he)]
theorem fil_all {p : En → Bool} {l : List En} (h : ∀ e ∈ l, p e = true) : l.filter p = l := List.filter_eq_self.mpr h
theorem fil_no {p : En → Bool} {l : List En} (h : ∀ e ∈ l, p e = false) : l.filter p = [] := List.filter_eq_nil_iff.mpr fun e he => by rw [h e he]; decide
theorem insE_mid {l x r : List En} {k : Str} {v : D} (hl : ∀ e ∈ l, sLt e.1 k) (hr : ∀ e ∈ r, sLt k e.1) : insE (l ++ (x ++ r)) k v = l ++ (insE x k v ++ r) := by
  unfold insE
  rw [List.filter_append, List.filter_append, List.filter_append, List.filter_append, fil_all (l := l) fun e he => decide_eq_true (hl e he), fil_no (l := r) fun e he => decide_eq_false (lt_as (hr e he)),
    fil_no (l := l) fun e he => decide_eq_false (lt_as (hl e he)), fil_all (l := r) fun e he => decide_eq_true (hr e he)]
  simp
theorem insE_in {es : List En} {k : Str} {v : D} {e : En} (h : e ∈ insE es k v) : e ∈ es ∨ e = (k, v) := by
  unfold insE at h
  rcases List.mem_append.mp h with h | h
  · exact .inl (List.mem_filter.mp h).1
  · rcases List.mem_cons.mp h with h | h
    · exact .inr h
    · exact .inl (List.mem_filter.mp h).1
theorem insE_srt {es : List En} {k : Str} {v : D} (h : Srt es) : Srt (insE es k v) := by
  unfold insE
  refine List.pairwise_append.mpr ⟨h.filter _, List.pairwise_cons.mpr ⟨fun e he => of_decide_eq_true (List.mem_filter.mp he).2, h.filter _⟩, fun a ha b hb => ?_⟩
  have h1 := of_decide_eq_true (List.mem_filter.mp ha).2
  rcases List.mem_cons.mp hb with rfl | hb
  · exact h1
  · exact lt_tr h1 (of_decide_eq_true (List.mem_filter.mp hb).2)
theorem insE_len {es : List En} {k : Str} {v : D} (h : Srt es) : es.length ≤ (insE es k v).length ∧ (insE es k v).length ≤ es.length + 1 := by
  obtain ⟨a, b, e, _, _, p3, p4⟩ := srt_cut (k := k) h
  unfold insE
  rw [← p3, List.length_append, List.length_cons]
  rcases p4 with ⟨p4, _⟩ | ⟨w, b', rfl, p4, _⟩
  · rw [← p4]
    conv => lhs; lhs; rw [e]
    conv => rhs; rhs; rw [e]
    rw [List.length_append]
    omega
  · rw [← p4]
    conv => lhs; lhs; rw [e]
    conv => rhs; rhs; rw [e]
    rw [List.length_append, List.length_cons]
    omega
theorem Pcs.mono {m n : Nat} {es : List En} {c c' : Nat} {ps : List D} {ks : List Str} (h : Pcs m n es c ps ks) (hc : c' ≤ c) : Pcs m n es c' ps ks := by
  obtain ⟨xs, h1, h2, h3, h4, h5⟩ := h
  exact ⟨xs, h1, h2, h3, h4, h5.imp (fun ⟨a, b⟩ => ⟨a, fun x hx => Nat.le_trans hc (b x hx)⟩) id⟩
section
variable {m : Nat} {A : AH}
theorem spliced_ok {a mid b kx : List Str} {l ys r xs : List D} (hl : l.length = a.length) (hy : ys.length = mid.length + 1) (hr : r.length = b.length) (hz : (l ++ (ys ++ r)).length ≤ 1000) (hx : xs.length ≤ 1000) (hx2 : kx.length ≤ 1000) {e : Int} (he : e = ((l.length + ys.length : Nat) : Int)) :
    f_spliced [.int (m : Int), brD (a ++ (mid ++ b)) (l ++ (ys ++ r)), .int (l.length : Nat), .int e, psD xs kx] A = f_packed_branch [.int (m : Int), .tup ((a ++ (kx ++ b)).map D.str), .tup (l ++ (xs ++ r))] A := by
  subst he
  rw [List.length_append, List.length_append] at hz
  have i1 : fIx (brD (a ++ (mid ++ b)) (l ++ (ys ++ r))) (.int 1) A = .ok (.tup ((a ++ (mid ++ b)).map D.str)) A := rfl
  have i2 : fIx (brD (a ++ (mid ++ b)) (l ++ (ys ++ r))) (.int 2) A = .ok (.tup (l ++ (ys ++ r))) A := rfl
  have j0 : fIx (psD xs kx) (.int 0) A = .ok (.lst xs) A := rfl
  have j1 : fIx (psD xs kx) (.int 1) A = .ok (.lst (kx.map D.str)) A := rfl
  have t0 : fTup [.lst xs] A = .ok (.tup xs) A := rfl
  have t1 : fTup [.lst (kx.map D.str)] A = .ok (.tup (kx.map D.str)) A := rfl
  have sT : fSl (.tup (l ++ (ys ++ r))) none (some ((l.length : Nat) : Int)) A = .ok (.tup l) A := by rw [sl_to, List.take_left]
  have sD : fSl (.tup (l ++ (ys ++ r))) (some ((l.length + ys.length : Nat) : Int)) none A = .ok (.tup r) A := by
    rw [sl_from (by rw [List.length_append, List.length_append]; omega), ← List.append_assoc, ← List.length_append, List.drop_left]
  have kT : fSl (.tup ((a ++ (mid ++ b)).map D.str)) none (some ((l.length : Nat) : Int)) A = .ok (.tup (a.map D.str)) A := by
    rw [sl_to, hl, List.map_append, show a.length = (a.map D.str).length by rw [List.length_map], List.take_left]
  have e1 : ((l.length + ys.length : Nat) : Int) - 1 = ((a.length + mid.length : Nat) : Int) := by omega
  have kD : fSl (.tup ((a ++ (mid ++ b)).map D.str)) (some ((a.length + mid.length : Nat) : Int)) none A = .ok (.tup (b.map D.str)) A := by
    rw [sl_from (by rw [List.length_map, List.length_append, List.length_append]; omega), ← List.append_assoc, List.map_append, show a.length + mid.length = ((a ++ mid).map D.str).length by rw [List.length_map, List.length_append], List.drop_left]
  have a1 : fAdd (.tup l) (.tup xs) A = .ok (.tup (l ++ xs)) A := add_t (by omega)
  have a2 : fAdd (.tup (l ++ xs)) (.tup r) A = .ok (.tup (l ++ xs ++ r)) A := add_t (by rw [List.length_append]; omega)
  have a3 : fAdd (.tup (a.map D.str)) (.tup (kx.map D.str)) A = .ok (.tup (a.map D.str ++ kx.map D.str)) A := add_t (by rw [List.length_map, List.length_map]; omega)
  have a4 : fAdd (.tup (a.map D.str ++ kx.map D.str)) (.tup (b.map D.str)) A = .ok (.tup (a.map D.str ++ kx.map D.str ++ b.map D.str)) A := add_t (by rw [List.length_append, List.length_map, List.length_map, List.length_map]; omega)
  have ek : (a ++ (kx ++ b)).map D.str = a.map D.str ++ kx.map D.str ++ b.map D.str := by rw [List.map_append, List.map_append, List.append_assoc]
  obtain ⟨res, hres⟩ : ∃ res, res = f_packed_branch [.int (m : Int), .tup ((a ++ (kx ++ b)).map D.str), .tup (l ++ (xs ++ r))] A := ⟨_, rfl⟩
  rw [← hres]
  unfold f_spliced mFun
  simp only [List.map_cons, List.map_nil, List.length_cons, List.length_nil, Nat.reduceAdd, Nat.reduceSub, List.replicate, List.cons_append, List.nil_append]
  rw [seq_nx (ρ1 := [some (.int (m : Int)), some (brD (a ++ (mid ++ b)) (l ++ (ys ++ r))), some (.int (l.length : Nat)), some (.int ((l.length + ys.length : Nat) : Int)), some (psD xs kx), some (.tup (l ++ (xs ++ r))), none]) (A1 := A) (by
    simp only [EVa, List.getElem?_cons_zero, List.getElem?_cons_succ, List.set_cons_zero, List.set_cons_succ, bind_ok, lift_ok, List.length_cons, List.length_nil, Nat.reduceAdd, Nat.reduceLeDiff, ↓reduceIte, if_true, if_false, Bool.false_eq_true, ev_raise, and_self, List.map_cons, List.map_nil, List.replicate, List.cons_append, List.nil_append, Nat.reduceSub, i2, sT, j0, t0, a1, sD, a2]
    rw [List.append_assoc])]
  rw [seq_nx (ρ1 := [some (.int (m : Int)), some (brD (a ++ (mid ++ b)) (l ++ (ys ++ r))), some (.int (l.length : Nat)), some (.int ((l.length + ys.length : Nat) : Int)), some (psD xs kx), some (.tup (l ++ (xs ++ r))), some (.tup ((a ++ (kx ++ b)).map D.str))]) (A1 := A) (by
    simp only [EVa, List.getElem?_cons_zero, List.getElem?_cons_succ, List.set_cons_zero, List.set_cons_succ, bind_ok, lift_ok, List.length_cons, List.length_nil, Nat.reduceAdd, Nat.reduceLeDiff, ↓reduceIte, if_true, if_false, Bool.false_eq_true, ev_raise, and_self, List.map_cons, List.map_nil, List.replicate, List.cons_append, List.nil_append, Nat.reduceSub, i1, kT, j1, t1, a3, sub_ii, e1, kD, a4]
    rw [ek])]
  have q : mCallF 3 f_packed_branch (mCons (mVar 0) (mCons (mVar 6) (mCons (mVar 5) (mNil)))) [some (.int (m : Int)), some (brD (a ++ (mid ++ b)) (l ++ (ys ++ r))), some (.int (l.length : Nat)), some (.int ((l.length + ys.length : Nat) : Int)), some (psD xs kx), some (.tup (l ++ (xs ++ r))), some (.tup ((a ++ (kx ++ b)).map D.str))] A = res := callF_at (A1 := A) (ds := [.int (m : Int), .tup ((a ++ (kx ++ b)).map D.str), .tup (l ++ (xs ++ r))]) (by simp only [EVa, List.getElem?_cons_zero, List.getElem?_cons_succ, List.set_cons_zero, List.set_cons_succ, bind_ok, lift_ok, List.length_cons, List.length_nil, Nat.reduceAdd, Nat.reduceLeDiff, ↓reduceIte, if_true, if_false, Bool.false_eq_true, ev_raise, and_self, List.map_cons, List.map_nil, List.replicate, List.cons_append, List.nil_append, Nat.reduceSub]) rfl hres.symm
  rw [ev_ret, q]
  cases res <;> rfl
/-! ### the keys of a page about a key -/
theorem take_le {key : Str} : ∀ {ks : List Str}, ks.Pairwise sLt → ∃ a b, ks = a ++ b ∧ (∀ k ∈ a, sLe k key = true) ∧ ∀ k ∈ b, sLt key k
  | [], _ => ⟨[], [], rfl, (fun e he => nomatch he), (fun e he => nomatch he)⟩
  | x :: ks, h => by
    obtain ⟨h1, h2⟩ := List.pairwise_cons.mp h
    by_cases hx : sLt key x
    · refine ⟨[], x :: ks, rfl, (fun e he => nomatch he), fun k hk => ?_⟩
      rcases List.mem_cons.mp hk with rfl | hk
      · exact hx
      · exact lt_tr hx (h1 k hk)
    · obtain ⟨a, b, e, p1, p2⟩ := take_le (key := key) h2
      refine ⟨x :: a, b, by rw [e]; rfl, fun k hk => ?_, p2⟩
      rcases List.mem_cons.mp hk with rfl | hk
      · exact le_of_nlt hx
      · exact p1 k hk
/-- the child that a key leads to -/
theorem Sep.find {key : Str} {ks : List Str} {cs : List Ch} (s : Sep ks cs) : ∃ a b l x r, ks = a ++ ([] ++ b) ∧ cs = l ++ ([x] ++ r) ∧ l.length = a.length ∧ r.length = b.length ∧ (∀ k ∈ a, sLe k key = true) ∧ (∀ k ∈ b, sLt key k) ∧
    (∀ e ∈ ents l, sLt e.1 key) ∧ (∀ e ∈ ents r, sLt key e.1) ∧ (∀ e ∈ x.2, (∀ k ∈ a, ¬ sLt e.1 k) ∧ ∀ k ∈ b, sLt e.1 k) := by
  obtain ⟨a, b, rfl, h1, h2⟩ := take_le (key := key) s.mono
  have hl := s.len
  rw [List.length_append] at hl
  obtain ⟨l, t, rfl, ll⟩ : ∃ l t, cs = l ++ t ∧ l.length = a.length := ⟨cs.take a.length, cs.drop a.length, (List.take_append_drop _ _).symm, by rw [List.length_take]; omega⟩
  obtain ⟨x, r, rfl⟩ : ∃ x r, t = x :: r := by
    cases t with
    | nil => rw [List.append_nil] at hl; omega
    | cons x r => exact ⟨x, r, rfl⟩
  have s' : Sep (a ++ ([] ++ b)) (l ++ ([x] ++ r)) := s
  obtain ⟨z1, z2, z3, z4, z5, z6⟩ := Sep.zone (ys := [x]) (mid := []) rfl s' ll
  refine ⟨a, b, l, x, r, rfl, rfl, ll, z5, h1, h2, fun e he => ?_, fun e he => ?_, fun e he => z2 e (by rw [ents_cons, ents_nil, List.append_nil]; exact he)⟩
  · obtain ⟨k, hk, hlt⟩ := z3 e he
    exact lt_le hlt (nlt_of_le (h1 k hk))
  · obtain ⟨k, hk, hlt⟩ := z4 e he
    exact lt_le (h2 k hk) hlt
end
end TR
end
section
set_option maxHeartbeats 1000000
namespace TR
open PySem PySem.Spec PyProof.Rows L2 DM
theorem not_le {a b : Str} (h : sLt a b) : sLe b a = false := by unfold sLe; rw [decide_eq_true h]; rfl
theorem map3 (l r : List Ch) (ys : List Ch) : (l ++ (ys ++ r)).map (·.1) = l.map (·.1) ++ (ys.map (·.1) ++ r.map (·.1)) := by rw [List.map_append, List.map_append]
theorem ents3 (l r : List Ch) (ys : List Ch) : ents (l ++ (ys ++ r)) = ents l ++ (ents ys ++ ents r) := by rw [ents_app, ents_app]
theorem ents1 (x : Ch) : ents [x] = x.2 := by rw [ents_cons, ents_nil, List.append_nil]
theorem srt_mid {a x b : List En} (h : Srt (a ++ (x ++ b))) : Srt x := (List.pairwise_append.mp (List.pairwise_append.mp h).2.1).1
section
variable {m : Nat} {A : AH} {key : Str}
theorem leaf_test {x0 : Option D} {pg : D} {R : DM.Env} {k : Bool} (il : f_is_leaf [pg] A = .ok (.bl k) A) : mTst (mCallF 1 f_is_leaf (mCons (mVar 1) (mNil))) (x0 :: some pg :: R) A = .ok k A := by
  simp only [EVa, List.getElem?_cons_zero, List.getElem?_cons_succ, List.set_cons_zero, List.set_cons_succ, bind_ok, lift_ok, List.length_cons, List.length_nil, Nat.reduceAdd, Nat.reduceLeDiff, ↓reduceIte, if_true, if_false, Bool.false_eq_true, ev_raise, and_self, List.map_cons, List.map_nil, List.replicate, List.cons_append, List.nil_append, Nat.reduceSub, il]
theorem put_ok {v : D} (h3 : 3 ≤ m) (hm : m ≤ 16) : ∀ (n N : Nat) (d : D) (es : List En), n < N → Ok m n d es → Srt es → ∃ ps ks, f_put_pieces N [.int (m : Int), d, .str key, v] A = .ok (psD ps ks) A ∧ Pcs m n (insE es key v) (count d) ps ks
  | _, 0, _, _, h, _, _ => absurd h (Nat.not_lt_zero _)
  | 0, N + 1, d, es, _, o, hs => by
    have o : d = leafD es ∧ es.length ≤ m := o
    obtain ⟨rfl, hl⟩ := o
    obtain ⟨a, b, e, p1, p2, p3, p4⟩ := srt_cut (k := key) hs
    have en := entry_ok (A := A) p1 p2 (by rw [← e]; omega)
    rw [← e] at en
    have ln : fLen [.tup (es.map enD)] A = .ok (.int (es.length : Nat)) A := by rw [len_t, List.length_map]
    have hle : es.length = a.length + b.length := by rw [← List.length_append, ← e]
    have i1 : fIx (leafD es) (.int 1) A = .ok (.tup (es.map enD)) A := rfl
    have il := is_leaf_l (A := A) (es := es)
    have sT : fSl (.tup (es.map enD)) none (some ((a.length : Nat) : Int)) A = .ok (.tup (a.map enD)) A := by
      rw [sl_to, e, List.map_append, show a.length = (a.map enD).length by rw [List.length_map], List.take_left]
    have pe : ((a.length : Nat) : Int) + 1 = ((a.length + 1 : Nat) : Int) := by omega
    -- what stands behind
    have rest : mIf (mAnd (mTst (mOp fLt (mVar 4) (mCall fLen (mCons (mVar 5) (mNil))))) (mTst (mOp (fEq false) (mOp fIx (mOp fIx (mVar 5) (mVar 4)) (mK (.int 0))) (mVar 2)))) (mSl (mVar 5) (mSome (mOp fAdd (mVar 4) (mK (.int 1)))) (mNone)) (mSl (mVar 5) (mSome (mVar 4)) (mNone))
        [some (.int (m : Int)), some (leafD es), some (.str key), some v, some (.int (a.length : Nat)), some (.tup (es.map enD)), none] A = .ok (.tup ((es.filter fun e => decide (sLt key e.1)).map enD)) A := by
      have sD : fSl (.tup (es.map enD)) (some ((a.length : Nat) : Int)) none A = .ok (.tup (b.map enD)) A := by
        rw [sl_from (by rw [List.length_map]; omega), e, List.map_append, show a.length = (a.map enD).length by rw [List.length_map], List.drop_left]
      rcases p4 with ⟨p4, p5⟩ | ⟨w, b', eb, p4, p5⟩
      · rw [← p4]
        cases hb : b with
        | nil =>
          have t0 : decide (((a.length : Nat) : Int) < ((es.length : Nat) : Int)) = false := decide_eq_false (by rw [hle, hb]; show ¬ ((a.length : Nat) : Int) < ((a.length + 0 : Nat) : Int); omega)
          rw [hb] at sD
          simp only [EVa, List.getElem?_cons_zero, List.getElem?_cons_succ, List.set_cons_zero, List.set_cons_succ, bind_ok, lift_ok, List.length_cons, List.length_nil, Nat.reduceAdd, Nat.reduceLeDiff, ↓reduceIte, if_true, if_false, Bool.false_eq_true, ev_raise, and_self, List.map_cons, List.map_nil, List.replicate, List.cons_append, List.nil_append, Nat.reduceSub, ln, lt_ii, t0, sD]
        | cons x b'' =>
          have hx : (es.map enD)[a.length]? = some (enD x) := by rw [e, hb, List.getElem?_map]; simp
          have ix := ixt (A := A) hx
          have ix0 : fIx (enD x) (.int 0) A = .ok (.str x.1) A := rfl
          have t0 : decide (((a.length : Nat) : Int) < ((es.length : Nat) : Int)) = true := decide_eq_true (by rw [hle, hb, List.length_cons]; omega)
          have nx : x.1 ≠ key := fun z => by
            have := p5 x (by rw [hb]; exact List.mem_cons_self)
            rw [z] at this
            exact lt_ir this
          have eq : fEq false (.str x.1) (.str key) A = .ok (.bl false) A := by rw [eq_ss, decide_eq_false nx]; rfl
          rw [hb] at sD
          simp only [EVa, List.getElem?_cons_zero, List.getElem?_cons_succ, List.set_cons_zero, List.set_cons_succ, bind_ok, lift_ok, List.length_cons, List.length_nil, Nat.reduceAdd, Nat.reduceLeDiff, ↓reduceIte, if_true, if_false, Bool.false_eq_true, ev_raise, and_self, List.map_cons, List.map_nil, List.replicate, List.cons_append, List.nil_append, Nat.reduceSub, ln, lt_ii, t0, ix, ix0, eq, sD]
      · have hx : (es.map enD)[a.length]? = some (enD (key, w)) := by rw [e, eb, List.getElem?_map]; simp
        have ix := ixt (A := A) hx
        have ix0 : fIx (enD (key, w)) (.int 0) A = .ok (.str key) A := rfl
        have t0 : decide (((a.length : Nat) : Int) < ((es.length : Nat) : Int)) = true := decide_eq_true (by rw [hle, eb, List.length_cons]; omega)
        have eq : fEq false (.str key) (.str key) A = .ok (.bl true) A := by rw [eq_ss, decide_eq_true rfl]; rfl
        have sD2 : fSl (.tup (es.map enD)) (some ((a.length + 1 : Nat) : Int)) none A = .ok (.tup (b'.map enD)) A := by
          rw [sl_from (by rw [List.length_map, hle, eb, List.length_cons]; omega), e, eb, List.map_append, List.map_cons, show a.map enD ++ enD (key, w) :: b'.map enD = (a.map enD ++ [enD (key, w)]) ++ b'.map enD by simp, show a.length + 1 = (a.map enD ++ [enD (key, w)]).length by simp, List.drop_left]
        rw [← p4]
        simp only [EVa, List.getElem?_cons_zero, List.getElem?_cons_succ, List.set_cons_zero, List.set_cons_succ, bind_ok, lift_ok, List.length_cons, List.length_nil, Nat.reduceAdd, Nat.reduceLeDiff, ↓reduceIte, if_true, if_false, Bool.false_eq_true, ev_raise, and_self, List.map_cons, List.map_nil, List.replicate, List.cons_append, List.nil_append, Nat.reduceSub, ln, lt_ii, t0, ix, ix0, eq, add_ii, pe, sD2]
    have hi := insE_len (k := key) (v := v) hs
    obtain ⟨ps, ks, e9, pc⟩ := packed_leaf_ok (A := A) (m := m) (es := insE es key v) h3 hm (by unfold insE; simp) (by omega) (insE_srt hs)
    refine ⟨ps, ks, ?_, pc.mono (by rw [count_l]; exact hi.1)⟩
    have la : (es.filter fun e => decide (sLt key e.1)).length ≤ es.length := List.length_filter_le _ _
    have a1 : fAdd (.tup (a.map enD)) (.tup [.tup [.str key, v]]) A = .ok (.tup (a.map enD ++ [.tup [.str key, v]])) A := add_t (by rw [List.length_map]; show _ + 1 ≤ _; omega)
    have a2 : fAdd (.tup (a.map enD ++ [.tup [.str key, v]])) (.tup ((es.filter fun e => decide (sLt key e.1)).map enD)) A = .ok (.tup ((insE es key v).map enD)) A := by
      rw [add_t (by rw [List.length_append, List.length_map, List.length_map]; show _ + 1 + _ ≤ _; omega)]
      unfold insE
      rw [← p3, List.map_append, List.map_cons, List.append_assoc]
      rfl
    have t : mTst (mCallF 1 f_is_leaf (mCons (mVar 1) (mNil))) [some (.int (m : Int)), some (leafD es), some (.str key), some v, none, none, none] A = .ok true A := by simp only [EVa, List.getElem?_cons_zero, List.getElem?_cons_succ, List.set_cons_zero, List.set_cons_succ, bind_ok, lift_ok, List.length_cons, List.length_nil, Nat.reduceAdd, Nat.reduceLeDiff, ↓reduceIte, if_true, if_false, Bool.false_eq_true, ev_raise, and_self, List.map_cons, List.map_nil, List.replicate, List.cons_append, List.nil_append, Nat.reduceSub, il]
    show g_put_pieces (f_put_pieces N) _ A = _
    unfold g_put_pieces
    refine fun_rt ?_
    refine seq_rt ?_
    simp only [List.map_cons, List.map_nil, List.length_cons, List.length_nil, Nat.reduceAdd, Nat.reduceSub, List.replicate, List.cons_append, List.nil_append]
    rw [ev_ifs, t, lift_ok, if_pos rfl]
    refine (seq_nx (ρ1 := [some (.int (m : Int)), some (leafD es), some (.str key), some v, none, some (.tup (es.map enD)), none]) (A1 := A) ?_).trans ?_
    · simp only [EVa, List.getElem?_cons_zero, List.getElem?_cons_succ, List.set_cons_zero, List.set_cons_succ, bind_ok, lift_ok, List.length_cons, List.length_nil, Nat.reduceAdd, Nat.reduceLeDiff, ↓reduceIte, if_true, if_false, Bool.false_eq_true, ev_raise, and_self, List.map_cons, List.map_nil, List.replicate, List.cons_append, List.nil_append, Nat.reduceSub, i1]
    refine (seq_nx (ρ1 := [some (.int (m : Int)), some (leafD es), some (.str key), some v, some (.int (a.length : Nat)), some (.tup (es.map enD)), none]) (A1 := A) ?_).trans ?_
    · simp only [EVa, List.getElem?_cons_zero, List.getElem?_cons_succ, List.set_cons_zero, List.set_cons_succ, bind_ok, lift_ok, List.length_cons, List.length_nil, Nat.reduceAdd, Nat.reduceLeDiff, ↓reduceIte, if_true, if_false, Bool.false_eq_true, ev_raise, and_self, List.map_cons, List.map_nil, List.replicate, List.cons_append, List.nil_append, Nat.reduceSub, en]
    refine (seq_nx (ρ1 := [some (.int (m : Int)), some (leafD es), some (.str key), some v, some (.int (a.length : Nat)), some (.tup (es.map enD)), some (.tup ((es.filter fun e => decide (sLt key e.1)).map enD))]) (A1 := A) ?_).trans ?_
    · rw [ev_set, rest, lift_ok]
      rfl
    · simp only [EVa, List.getElem?_cons_zero, List.getElem?_cons_succ, List.set_cons_zero, List.set_cons_succ, bind_ok, lift_ok, List.length_cons, List.length_nil, Nat.reduceAdd, Nat.reduceLeDiff, ↓reduceIte, if_true, if_false, Bool.false_eq_true, ev_raise, and_self, List.map_cons, List.map_nil, List.replicate, List.cons_append, List.nil_append, Nat.reduceSub, sT, a1, a2, e9]
  | n + 1, N + 1, d, es, hN, o, hs => by
    have o : ∃ ks cs, d = brD ks (cs.map (·.1)) ∧ Sep ks cs ∧ cs.length ≤ m ∧ es = ents cs ∧ ∀ c ∈ cs, Ok m n c.1 c.2 ∧ half m ≤ count c.1 := o
    obtain ⟨ks, cs, rfl, s, hc, rfl, ok⟩ := o
    obtain ⟨a, b, l, x, r, rfl, rfl, hl, hr, ha, hb, gl, gr, gx⟩ := s.find (key := key)
    obtain ⟨z1, z2, z3, z4, z5, z6⟩ := Sep.zone (ys := [x]) (mid := []) rfl s hl
    rw [ents3, ents1] at hs
    have hxs := srt_mid hs
    obtain ⟨okx, hcx⟩ := ok x (List.mem_append_right _ (List.mem_append_left _ List.mem_cons_self))
    obtain ⟨ps, kx, e1, xs, rfl, sx, ex, okxs, cx⟩ := put_ok (v := v) h3 hm n N x.1 x.2 (by omega) okx hxs
    have cl : (l ++ ([x] ++ r)).length = l.length + (1 + r.length) := by rw [List.length_append, List.length_append]; rfl
    rw [cl] at hc
    have ch := child_ok (A := A) (key := key) (a := a) (b := b) ha (fun k hk => not_le (hb k hk)) (by rw [List.length_append]; omega)
    rw [← hl] at ch
    have xl : xs.length ≤ 2 := by rcases cx with ⟨h, _⟩ | ⟨h, _⟩ <;> omega
    have kl : kx.length ≤ 2 := by have := sx.len; omega
    have sS := z6 sx fun e he => by
      rw [← ex] at he
      rcases insE_in he with h | rfl
      · exact gx e h
      · exact ⟨fun k hk => nlt_of_le (ha k hk), fun k hk => hb k hk⟩
    obtain ⟨ps2, k2, e2, pc⟩ := packed_branch_ok (A := A) (m := m) (n := n) (cs := l ++ (xs ++ r)) h3 hm (by rw [List.length_append, List.length_append]; omega) sS fun c hc2 => by
      rcases List.mem_append.mp hc2 with h | h
      · exact ok c (List.mem_append_left _ h)
      · rcases List.mem_append.mp h with h | h
        · refine ⟨okxs c h, ?_⟩
          rcases cx with ⟨_, g⟩ | ⟨_, g⟩
          · exact Nat.le_trans hcx (g c h)
          · exact g c h
        · exact ok c (List.mem_append_right _ (List.mem_append_right _ h))
    have x1 : 1 ≤ xs.length := by rcases cx with ⟨h, _⟩ | ⟨h, _⟩ <;> omega
    refine ⟨ps2, k2, ?_, ?_⟩
    · have i1 : fIx (brD (a ++ ([] ++ b)) ((l ++ ([x] ++ r)).map (·.1))) (.int 1) A = .ok (.tup ((a ++ b).map D.str)) A := rfl
      have i2 : fIx (brD (a ++ ([] ++ b)) ((l ++ ([x] ++ r)).map (·.1))) (.int 2) A = .ok (.tup ((l ++ ([x] ++ r)).map (·.1))) A := rfl
      have hx : ((l ++ ([x] ++ r)).map (·.1))[l.length]? = some x.1 := by rw [List.getElem?_map]; simp
      have ix := ixt (A := A) hx
      have il := is_leaf_b (A := A) (ks := a ++ ([] ++ b)) (ps := (l ++ ([x] ++ r)).map (·.1))
      have pe : ((l.length : Nat) : Int) + 1 = ((l.length + 1 : Nat) : Int) := by omega
      have sp := spliced_ok (m := m) (A := A) (a := a) (mid := []) (b := b) (kx := kx) (l := l.map (·.1)) (ys := [x.1]) (r := r.map (·.1)) (xs := xs.map (·.1)) (by rw [List.length_map]; exact hl) rfl (by rw [List.length_map]; exact hr) (by rw [List.length_append, List.length_append, List.length_map, List.length_map]; show _ + (1 + _) ≤ _; omega) (by rw [List.length_map]; omega) (by omega) (e := ((l.length + 1 : Nat) : Int)) (by rw [List.length_map]; rfl)
      rw [← map3 l r xs, e2, List.length_map] at sp
      have sp : f_spliced [.int (m : Int), brD (a ++ ([] ++ b)) ((l ++ ([x] ++ r)).map (·.1)), .int (l.length : Nat), .int ((l.length + 1 : Nat) : Int), psD (xs.map (·.1)) kx] A = .ok (psD ps2 k2) A := by rw [map3]; exact sp
      have t : mTst (mCallF 1 f_is_leaf (mCons (mVar 1) (mNil))) [some (.int (m : Int)), some (brD (a ++ ([] ++ b)) ((l ++ ([x] ++ r)).map (·.1))), some (.str key), some v, none, none, none] A = .ok false A := leaf_test il
      show g_put_pieces (f_put_pieces N) _ A = _
      unfold g_put_pieces
      refine fun_rt ?_
      simp only [List.map_cons, List.map_nil, List.length_cons, List.length_nil, Nat.reduceAdd, Nat.reduceSub, List.replicate, List.cons_append, List.nil_append]
      refine (seq_nx (ρ1 := [some (.int (m : Int)), some (brD (a ++ ([] ++ b)) ((l ++ ([x] ++ r)).map (·.1))), some (.str key), some v, none, none, none]) (A1 := A) ?_).trans ?_
      · have t' := t
        rw [ev_ifs]
        exact (congrArg (fun z => lift z _ _) t').trans rfl
      refine (seq_nx (ρ1 := [some (.int (m : Int)), some (brD (a ++ ([] ++ b)) ((l ++ ([x] ++ r)).map (·.1))), some (.str key), some v, some (.int (l.length : Nat)), none, none]) (A1 := A) ?_).trans ?_
      · have q : mCallF 2 f_child_number (mCons (mOp fIx (mVar 1) (mK (.int 1))) (mCons (mVar 2) (mNil))) [some (.int (m : Int)), some (brD (a ++ ([] ++ b)) ((l ++ ([x] ++ r)).map (·.1))), some (.str key), some v, none, none, none] A = .ok (.int (l.length : Nat)) A := callF_at (A1 := A) (ds := [.tup ((a ++ b).map D.str), .str key]) rfl rfl ch
        rw [ev_set]
        exact (congrArg (fun z => lift z _ _) q).trans rfl
      have q4 : mCallF 4 (f_put_pieces N) (mCons (mVar 0) (mCons (mOp fIx (mOp fIx (mVar 1) (mK (.int 2))) (mVar 4)) (mCons (mVar 2) (mCons (mVar 3) (mNil))))) [some (.int (m : Int)), some (brD (a ++ ([] ++ b)) ((l ++ ([x] ++ r)).map (·.1))), some (.str key), some v, some (.int (l.length : Nat)), none, none] A = .ok (psD (xs.map (·.1)) kx) A := by
        refine callF_at (A1 := A) (ds := [.int (m : Int), x.1, .str key, v]) ?_ rfl e1
        rw [ev_cons, ev_var]
        simp only [List.getElem?_cons_zero, List.getElem?_cons_succ, bind_ok]
        rw [ev_cons, ev_op, ev_op, ev_var]
        simp only [List.getElem?_cons_zero, List.getElem?_cons_succ, bind_ok, ev_K, i2]
        rw [ev_var]
        simp only [List.getElem?_cons_zero, List.getElem?_cons_succ, bind_ok, ix]
        simp only [EVa, List.getElem?_cons_zero, List.getElem?_cons_succ, List.set_cons_zero, List.set_cons_succ, bind_ok, lift_ok, List.length_cons, List.length_nil, Nat.reduceAdd, Nat.reduceLeDiff, ↓reduceIte, if_true, if_false, Bool.false_eq_true, ev_raise, and_self, List.map_cons, List.map_nil, List.replicate, List.cons_append, List.nil_append, Nat.reduceSub]
      have q5 : mCallF 5 f_spliced (mCons (mVar 0) (mCons (mVar 1) (mCons (mVar 4) (mCons (mOp fAdd (mVar 4) (mK (.int 1))) (mCons (mCallF 4 (f_put_pieces N) (mCons (mVar 0) (mCons (mOp fIx (mOp fIx (mVar 1) (mK (.int 2))) (mVar 4)) (mCons (mVar 2) (mCons (mVar 3) (mNil)))))) (mNil)))))) [some (.int (m : Int)), some (brD (a ++ ([] ++ b)) ((l ++ ([x] ++ r)).map (·.1))), some (.str key), some v, some (.int (l.length : Nat)), none, none] A = .ok (psD ps2 k2) A := by
        refine callF_at (A1 := A) (ds := [.int (m : Int), brD (a ++ ([] ++ b)) ((l ++ ([x] ++ r)).map (·.1)), .int (l.length : Nat), .int ((l.length + 1 : Nat) : Int), psD (xs.map (·.1)) kx]) ?_ rfl sp
        rw [ev_cons, ev_var]
        simp only [List.getElem?_cons_zero, List.getElem?_cons_succ, bind_ok]
        rw [ev_cons, ev_var]
        simp only [List.getElem?_cons_zero, List.getElem?_cons_succ, bind_ok]
        rw [ev_cons, ev_var]
        simp only [List.getElem?_cons_zero, List.getElem?_cons_succ, bind_ok]
        rw [ev_cons, ev_op, ev_var]
        simp only [List.getElem?_cons_zero, List.getElem?_cons_succ, bind_ok, ev_K, add_ii, pe]
        rw [ev_cons, q4, bind_ok, ev_nil]
        simp only [bind_ok]
      rw [ev_ret]
      exact (congrArg (fun z => lift z _ _) q5).trans rfl
    · rw [ents3, ents1, insE_mid gl gr, ex, ← ents3]
      refine pc.mono ?_
      rw [count_b, List.length_map, cl, List.length_append, List.length_append]
      omega
end
end TR
end
section
set_option maxHeartbeats 1000000
namespace TR
open PySem PySem.Spec PyProof.Rows L2 DM
section
variable {m : Nat} {A : AH} {key : Str}
theorem ge_ii {a b : Int} : fGe (.int a) (.int b) A = .ok (.bl (decide (b ≤ a))) A := rfl
end
end TR
end
section
set_option maxHeartbeats 1000000
namespace TR
open PySem PySem.Spec PyProof.Rows L2 DM
/-! ### a root -/
def Root (m n : Nat) (d : D) (es : List En) : Prop := Ok m n d es ∧ (1 ≤ n → 2 ≤ count d)
theorem ents_len {K : Nat} : ∀ {cs : List Ch}, (∀ c ∈ cs, K ≤ c.2.length) → cs.length * K ≤ (ents cs).length
  | [], _ => by simp
  | c :: cs, h => by
    have := ents_len (cs := cs) fun z hz => h z (List.mem_cons_of_mem _ hz)
    have := h c List.mem_cons_self
    rw [ents_cons, List.length_append, List.length_cons, Nat.add_mul]
    omega
theorem deep {m : Nat} (h3 : 3 ≤ m) : ∀ (n : Nat) (d : D) (es : List En), Ok m n d es → half m ≤ count d → 2 ^ (n + 1) ≤ es.length
  | 0, d, es, o, h => by
    have o : d = leafD es ∧ es.length ≤ m := o
    rw [o.1, count_l] at h
    have : 2 ≤ half m := by unfold half; omega
    show 2 ≤ _
    omega
  | n + 1, d, es, o, h => by
    have o : ∃ ks cs, d = brD ks (cs.map (·.1)) ∧ Sep ks cs ∧ cs.length ≤ m ∧ es = ents cs ∧ ∀ c ∈ cs, Ok m n c.1 c.2 ∧ half m ≤ count c.1 := o
    obtain ⟨ks, cs, rfl, s, _, rfl, ok⟩ := o
    rw [count_b, List.length_map] at h
    have h2 : 2 ≤ half m := by unfold half; omega
    have := ents_len (K := 2 ^ (n + 1)) fun c hc => deep h3 n c.1 c.2 (ok c hc).1 (ok c hc).2
    have : 2 * 2 ^ (n + 1) ≤ cs.length * 2 ^ (n + 1) := Nat.mul_le_mul_right _ (by omega)
    rw [Nat.pow_succ]
    omega
theorem Root.deep {m n : Nat} {d : D} {es : List En} (r : Root m n d es) (h3 : 3 ≤ m) (hl : es.length ≤ 255) : n ≤ 7 := by
  obtain ⟨o, h2⟩ := r
  cases n with
  | zero => omega
  | succ n =>
    have h2 := h2 (Nat.succ_le_succ (Nat.zero_le n))
    have o : ∃ ks cs, d = brD ks (cs.map (·.1)) ∧ Sep ks cs ∧ cs.length ≤ m ∧ es = ents cs ∧ ∀ c ∈ cs, Ok m n c.1 c.2 ∧ half m ≤ count c.1 := o
    obtain ⟨ks, cs, rfl, s, _, rfl, ok⟩ := o
    rw [count_b, List.length_map] at h2
    have := ents_len (K := 2 ^ (n + 1)) fun c hc => TR.deep h3 n c.1 c.2 (ok c hc).1 (ok c hc).2
    have : 2 * 2 ^ (n + 1) ≤ cs.length * 2 ^ (n + 1) := Nat.mul_le_mul_right _ h2
    by_cases z : n + 1 ≤ 7
    · exact z
    · exfalso
      have : 2 ^ 8 ≤ 2 ^ (n + 1) := Nat.pow_le_pow_right (by decide) (by omega)
      have : (2 : Nat) ^ 8 = 256 := by decide
      omega
section
variable {m : Nat} {A : AH} {key : Str}
end
end TR
end
section
set_option maxHeartbeats 1000000
namespace TR
open PySem PySem.Spec PyProof.Rows L2 DM
theorem Ok.small {m n : Nat} {d : D} {es : List En} (o : Ok m n d es) : count d ≤ m := by
  cases n with
  | zero =>
    have o : d = leafD es ∧ es.length ≤ m := o
    rw [o.1, count_l]; exact o.2
  | succ n =>
    obtain ⟨ks, cs, rfl, _, h, _⟩ := o
    rw [count_b, List.length_map]; exact h
section
variable {m : Nat} {A : AH} {key : Str}
def getE (es : List En) (k : Str) : Option En := es.find? fun e => decide (e.1 = k)
end
end TR
end
section
set_option maxHeartbeats 1000000
namespace TR
open PySem PySem.Spec PyProof.Rows L2 DM
section
variable {m : Nat} {A : AH} {key : Str}
/-! ### the first and the last entry -/
/-! ### the key behind another one -/
end
end TR
end
section
set_option maxHeartbeats 1000000
namespace TR
open PySem PySem.Spec PyProof.Rows L2 DM
/-! ### what is a key -/
def SG : Str := "0123456789_abcdefghijklmnopqrstuvwxyz"
structure KG (k : Str) : Prop where
  ne : k.cps.toList ≠ []
  len : k.cps.toList.length ≤ 16
  sg : ∀ c ∈ k.cps.toList, c ∈ SG.cps.toList
section
variable {m : Nat} {A : AH} {key : Str}
theorem getE_of {es : List En} (hs : Srt es) {e : En} (he : e ∈ es) : getE es e.1 = some e := by
  induction es with
  | nil => cases he
  | cons x es ih =>
    obtain ⟨h1, h2⟩ := List.pairwise_cons.mp hs
    unfold getE
    rcases List.mem_cons.mp he with rfl | he
    · rw [List.find?_cons_of_pos (by simp)]
    · rw [List.find?_cons_of_neg (by
        have := h1 e he
        simp only [decide_eq_true_eq]
        intro z
        rw [z] at this
        exact lt_ir this)]
      exact ih h2 he
end
end TR
end
section
set_option maxHeartbeats 1000000
namespace DM
open PySem PySem.Spec PyProof.Rows L2
/-! ### the other way to draw -/
noncomputable def dealN : List D → AH → Res D := mFun 5 (mSeq (mSet 2 (mLc false (mSq (mSl (mVar 0) (mNone) (mSome (mK (.int 63))))) (.nm 4) (mYes) (mCall fAbs (mCons (mCall fInt (mCons (mVar 4)
    (mNil))) (mNil))) [4])) (mSeq (mSet 3 (mOp fAdd (mOp fMulA (mK (.int 40127)) (mVar 1)) (mK (.int 863)))) (mSeq (mFor (mSq (mVar 2)) (.nm 4) (mSet 3 (mOp fMod (mCall fInt (mCons (mOp fAdd (mOp fAdd
    (mOp fMulA (mVar 3) (mK (.int 48271))) (mOp fMod (mVar 4) (mK (.int 2147483579)))) (mK (.int 61))) (mNil))) (mK (.int 2147483647))))) (mRet (mNew (mCons (mRev true (mLc false (mSq (mVar 2)) (.nm 4)
    (mTst (mOp fGe (mVar 4) (mOp fPow (mK (.int 10)) (mK (.int 18))))) (mVar 4) [4])) (mCons (mVar 3) (mNil))))))))
noncomputable def anyN : List D → AH → Res D := mFun 3 (mSeq (mWhile (mAnd (mTst (mOp (fEq true) (mOp fIx (mVar 0) (mK (.int 0))) (mLst (mNil)))) (mTst (mOp (fEq false) (mOp fIx (mOp fIx (mVar 0)
    (mK (.int 0))) (mNeg (mK (.int 1)))) (mK (.int 0))))) (mDrop (mPop (mOp fIx (mVar 0) (mK (.int 0)))))) (mSeq (mIfS (mTst (mOp (fEq true) (mOp fIx (mVar 0) (mK (.int 0))) (mLst (mNil)))) (mSeq (mSet
    2 (mCall fInt (mCons (mPop (mOp fIx (mVar 0) (mK (.int 0)))) (mNil)))) (mSeq (mDrop (mMet fApp (mOp fIx (mVar 0) (mK (.int 0))) (mCons (mOp fDiv (mVar 2) (mVar 1)) (mNil)))) (mRet (mOp fMod (mVar
    2) (mVar 1))))) (mNext)) (mSeq (mSto (mOp fMod (mCall fInt (mCons (mOp fAdd (mOp fMulA (mOp fIx (mVar 0) (mK (.int 1))) (mK (.int 48271))) (mK (.int 83))) (mNil))) (mK (.int 2147483647))) (mVar 0)
    (mK (.int 1))) (mRet (mOp fMod (mCall fInt (mCons (mOp fDiv (mOp fIx (mVar 0) (mK (.int 1))) (mK (.int 64))) (mNil))) (mVar 1))))))
theorem anyN_ok {h q : Nat} {A : AH} {k : Int} (hs : HS h q A) (h0 : 0 < k) (h1 : k < 1073741824) : ∃ v A', anyN [.ref h, .int k] A = .ok (.int v) A' ∧ 0 ≤ v ∧ v < k ∧ Drawn h q A A' := by
  obtain ⟨hq, L, s, e1, e2, hl, s0, s1⟩ := hs
  have cw : ∀ i : Int, CDivW i k := fun i => cdw_big h0 (by omega)
  have c64 : ∀ i : Int, CDivW i 64 := fun i => cdw_big (by decide) (by decide)
  obtain ⟨L', A1, l1, P, w⟩ := zeros_go (k := k) hq L.length L A rfl e1 e2
  have w' : mWhile tstM popM [some (.ref h), some (.int k), none] A = .nx [some (.ref h), some (.int k), none] A1 := mWhile_eq w (by intro z; cases z)
  have f1 : A1[h]? = some (.lst [.ref q, .int s]) := (P.2.2 h hq).trans e1
  have f2 := P.2.1
  have hm : anyN [.ref h, .int k] A = mFun 3 (mSeq (mWhile tstM popM) (mSeq (mIfS (mTst (mOp (fEq true) (mOp fIx (mVar 0) (mK (.int 0))) (mLst (mNil)))) (mSeq (mSet 2 (mCall fInt (mCons (mPop (mOp fIx (mVar 0) (mK (.int 0)))) (mNil)))) (mSeq (mDrop (mMet fApp (mOp fIx (mVar 0) (mK (.int 0))) (mCons (mOp fDiv (mVar 2) (mVar 1)) (mNil)))) (mRet (mOp fMod (mVar 2) (mVar 1))))) (mNext)) (mSeq (mSto (mOp fMod (mCall fInt (mCons (mOp fAdd (mOp fMulA (mOp fIx (mVar 0) (mK (.int 1))) (mK (.int 48271))) (mK (.int 83))) (mNil))) (mK (.int 2147483647))) (mVar 0) (mK (.int 1))) (mRet (mOp fMod (mCall fInt (mCons (mOp fDiv (mOp fIx (mVar 0) (mK (.int 1))) (mK (.int 64))) (mNil))) (mVar 1)))))) [.ref h, .int k] A := rfl
  rw [hm]
  cases hL : L' with
  | nil =>
    subst hL
    have cm : CMul s 48271 := .inl ⟨by omega, by omega⟩
    have A2 := Put.set (o := .lst [.ref q, .int ((s * 48271 + 83) % 2147483647)]) f1
    refine ⟨((s * 48271 + 83) % 2147483647) / 64 % k, A1.set h (.lst [.ref q, .int ((s * 48271 + 83) % 2147483647)]), ?_, Int.emod_nonneg _ (by omega), Int.emod_lt_of_pos _ h0, ?_, ⟨hq, [], (s * 48271 + 83) % 2147483647, A2.2.1, (A2.2.2 q (Ne.symm hq)).trans f2, by simp, Int.emod_nonneg _ (by omega), Int.emod_lt_of_pos _ (by omega)⟩, fun n a b => (A2.2.2 n a).trans (P.2.2 n b)⟩
    · have g1 := A2.2.1
      have ixn : ixN 2 1 = some 1 := rfl
      simp [mFun, mSeq, w', mIfS, mTst, mOp, mVar, mK, mLst, mNil, mCons, mCall, mRet, mSto, mNext, ix_ref f1 at_ref0, ix_ref f1 at_ref1, eq_refnil f2, fAdd, fMulA, fMod, fDiv, fI, fInt, cm, f1, ixn, ix_ref g1 at_ref1, cw, c64, h0, h1]
    · exact A2.1.trans P.1
  | cons x0 R =>
    obtain ⟨M, x, e⟩ : ∃ M x, L' = M ++ [x] := ⟨L'.dropLast, L'.getLast (by rw [hL]; simp), (List.dropLast_concat_getLast (by rw [hL]; simp)).symm⟩
    have hne : L'.isEmpty = false := by rw [hL]; rfl
    have hg : (L'.map D.int)[L'.length - 1]? = some (D.int x) := by
      rw [e]; simp
    have hd : (L'.map D.int).dropLast = M.map D.int := by
      rw [e]; simp
    have B := Put.set (o := .lst (M.map D.int)) f2
    have b1 : (A1.set q (.lst (M.map D.int)))[h]? = some (.lst [.ref q, .int s]) := (B.2.2 h hq).trans f1
    have b2 := B.2.1
    have C := Put.set (o := .lst (M.map D.int ++ [D.int (x / k)])) b2
    have ml : M.length ≤ 62 := by
      have : L'.length = M.length + 1 := by rw [e]; simp
      omega
    refine ⟨x % k, _, ?_, Int.emod_nonneg _ (by omega), Int.emod_lt_of_pos _ h0, ?_, ⟨hq, M ++ [x / k], s, (C.2.2 h hq).trans b1, ?_, by simp; omega, s0, s1⟩, fun n a b => (C.2.2 n b).trans ((B.2.2 n b).trans (P.2.2 n b))⟩
    · have hlen : (M.map D.int).length < 16777216 := by rw [List.length_map]; omega
      rw [List.length_map] at hlen
      simp only [hg, hd, mFun, mSeq, w', mIfS, mTst, mOp, mVar, mK, mLst, mNil, mCons, mCall, mRet, mSet, mDrop, mPop, mMet, ix_ref f1 at_ref0, eq_refnil f2, hne, f2, b2, ix_ref b1 at_ref0, fApp, fMod, fDiv, fI, fInt, cw, c64, h0, h1, hlen,
        List.map_cons, List.map_nil, List.cons_append, List.nil_append, List.length_cons, List.length_nil, List.getElem?_cons_zero, List.getElem?_cons_succ, List.set_cons_succ, List.set_cons_zero, bind_ok, lift_ok, List.replicate, Nat.reduceAdd, Nat.reduceSub, Nat.reduceLeDiff, if_true, and_self, Bool.not_false, List.length_map]
    · exact C.1.trans (B.1.trans P.1)
    · rw [C.2.1]; simp
theorem ofN_ok {h q : Nat} {A : AH} {xs : List D} (hs : HS h q A) (h0 : 0 < xs.length) (h1 : xs.length < 1073741824) : ∃ (i : Nat) (hi : i < xs.length) (A' : AH), pickM anyN [.ref h, .lst xs] A = .ok xs[i] A' ∧ Drawn h q A A' := by
  obtain ⟨v, A', e, v0, v1, dr⟩ := anyN_ok (k := (xs.length : Int)) hs (by omega) (by omega)
  obtain ⟨i, rfl⟩ : ∃ i : Nat, v = i := ⟨v.toNat, by omega⟩
  have hi : i < xs.length := by omega
  refine ⟨i, hi, A', ?_, dr⟩
  have ha : atI xs (i : Int) = some xs[i] := atI_nat (List.getElem?_eq_getElem hi)
  simp [pickM, mFun, mRet, mOp, mVar, mCallF, mCons, mNil, mCall, fLen, seqOf, e, ix_lst ha]
/-- a comprehension whose parts change nothing -/
theorem nstir_go {d0 d1 d2 d4 : Option D} {all : List D} {A : AH} : ∀ (L : List Int) (s : Int), 0 ≤ s → s < 2147483647 → ∃ s' d, 0 ≤ s' ∧ s' < 2147483647 ∧
    forGo (.sq (.lst all)) all (.nm 4) (mSet 3 (mOp fMod (mCall fInt (mCons (mOp fAdd (mOp fAdd (mOp fMulA (mVar 3) (mK (.int 48271))) (mOp fMod (mVar 4) (mK (.int 2147483579)))) (mK (.int 61))) (mNil))) (mK (.int 2147483647)))) (L.map D.int) [d0, d1, d2, some (.int s), d4] A
      = .nx [d0, d1, d2, some (.int s'), d] A
  | [], s, h0, h1 => ⟨s, d4, h0, h1, by simp [forGo, itemsOf, seqOf]⟩
  | x :: L, s, h0, h1 => by
    obtain ⟨s', d, a, b, e⟩ := nstir_go (d0 := d0) (d1 := d1) (d2 := d2) (d4 := some (.int x)) (all := all) (A := A) L ((s * 48271 + x % 2147483579 + 61) % 2147483647) (Int.emod_nonneg _ (by omega)) (Int.emod_lt_of_pos _ (by omega))
    refine ⟨s', d, a, b, ?_⟩
    have cm : CMul s 48271 := .inl ⟨by omega, by omega⟩
    rw [List.map_cons]
    unfold forGo
    simp only [itemsOf, seqOf, if_true, bindT, List.set_cons_succ, List.set_cons_zero, mSet, mOp, mCall, mCons, mNil, mVar, mK, List.getElem?_cons_zero, List.getElem?_cons_succ, bind_ok, fMulA, fI, cm, fMod, fAdd, fInt, lift_ok, show (0 : Int) < 2147483579 by decide, show (0 : Int) < 2147483647 by decide]
    exact e
theorem dealN_ok {A : AH} {ns : List Int} {b : Int} (b0 : 0 ≤ b) (b1 : b < 1000) : ∃ h q A', dealN [.lst (ns.map D.int), .int b] A = .ok (.ref h) A' ∧ HS h q A' ∧ A'.length = A.length + 2 ∧ h = A.length + 1 ∧ q = A.length ∧ ∀ n, n < A.length → A'[n]? = A[n]? := by
  have cz : ∀ L : List Int, (L.map D.int).map (fun d => match d with | .int i => D.int (if i < 0 then -i else i) | d => d) = (L.map fun i => if i < 0 then -i else i).map D.int := fun L => by
    rw [List.map_map, List.map_map]; rfl
  obtain ⟨M, hMl, e63⟩ : ∃ M : List Int, M.length ≤ 63 ∧ DM.cutD (ns.map D.int) none (some 63) = M.map D.int := by
    unfold DM.cutD
    rw [HT.sIx_none, show (63 : Int) = ((63 : Nat) : Int) from rfl, HT.sIx_nat]
    exact ⟨(ns.drop 0).take (min 63 (ns.map D.int).length - 0), by rw [List.length_take]; omega, by rw [List.map_take, List.map_drop]⟩
  have cm : CMul 40127 b := .inl ⟨by decide, by decide⟩
  generalize hC : (M.map fun i => if i < 0 then -i else i) = C at *
  have hCl : C.length ≤ 63 := by rw [← hC, List.length_map]; exact hMl
  have c1 : ∀ d1 d3, compGo (.sq (.lst (M.map D.int))) (M.map D.int) (.nm 4) mYes (mCall fAbs (mCons (mCall fInt (mCons (mVar 4) mNil)) mNil)) [some (.lst (ns.map D.int)), d1, none, d3, none] (M.map D.int) [] A = .ok (C.map D.int) A := fun d1 d3 => by
    rw [comp_pure (p := fun _ => true) (f := fun d => match d with | .int i => D.int (if i < 0 then -i else i) | d => d) rfl _ _ fun x hx => ?_]
    · rw [filter_true, cz, hC]; rfl
    · obtain ⟨i, _, rfl⟩ := List.mem_map.mp hx
      exact ⟨_, rfl, rfl, fun _ => rfl⟩
  obtain ⟨s', d, s0, s1, st⟩ := nstir_go (d0 := some (.lst (ns.map D.int))) (d1 := some (.int b)) (d2 := some (.lst (C.map D.int))) (d4 := none) (all := C.map D.int) (A := A) C (40127 * b + 863) (by omega) (by omega)
  have pw : CPow 10 18 := ⟨by decide, by decide, by decide⟩
  have c2 : ∀ d3, compGo (.sq (.lst (C.map D.int))) (C.map D.int) (.nm 4) (mTst (mOp fGe (mVar 4) (mOp fPow (mK (.int 10)) (mK (.int 18))))) (mVar 4) [some (.lst (ns.map D.int)), some (.int b), some (.lst (C.map D.int)), d3, none] (C.map D.int) [] A = .ok ((C.filter fun i => decide ((10 : Int) ^ 18 ≤ i)).map D.int) A := fun d3 => by
    rw [comp_pure (p := fun d => match d with | .int i => decide ((10 : Int) ^ 18 ≤ i) | _ => true) (f := fun d => d) rfl _ _ fun x hx => ?_]
    · rw [List.map_id', List.filter_map]; rfl
    · obtain ⟨i, _, rfl⟩ := List.mem_map.mp hx
      refine ⟨_, rfl, ?_, fun _ => rfl⟩
      simp only [mTst, mOp, mVar, mK, bindT, List.set_cons_succ, List.set_cons_zero, List.getElem?_cons_zero, List.getElem?_cons_succ, bind_ok, fPow, fI, pw, if_true, fGe, fI0]
      rfl
  generalize hF : (C.filter fun i => decide ((10 : Int) ^ 18 ≤ i)) = F at *
  have hFl : F.length ≤ 63 := by rw [← hF]; exact Nat.le_trans (List.length_filter_le _ _) hCl
  have z1 : (M.map D.int).length ≤ 16777216 := by rw [List.length_map]; omega
  have z2 : (C.map D.int).length ≤ 16777216 := by rw [List.length_map]; omega
  refine ⟨A.length + 1, A.length, A ++ [.lst (F.map D.int).reverse] ++ [.lst [.ref A.length, .int s']], ?_, ⟨by omega, F.reverse, s', ?_, ?_, by rw [List.length_reverse]; exact hFl, s0, s1⟩, by simp, rfl, rfl, fun n hn => ?_⟩
  · unfold dealN
    refine fun_rt ?_
    refine (seq_nx (ρ1 := [some (.lst (ns.map D.int)), some (.int b), some (.lst (C.map D.int)), none, none]) (A1 := A) ?_).trans ?_
    · simp only [ev_var, ev_K, ev_op, ev_neg, ev_tst, ev_and, ev_or, ev_not, ev_andV, ev_orV, ev_notV, ev_if, ev_chn, ev_nil, ev_cons, ev_tup, ev_lst, ev_new, ev_call, ev_callF, ev_callK, ev_met, ev_sl, ev_some, ev_none, ev_rev, ev_yes, ev_sq, ev_r1, ev_next, ev_drop, ev_ret, ev_ifs, ev_set, ev_par2, ev_par3, ev_asg, ev_nm, List.getElem?_cons_zero, List.getElem?_cons_succ, List.set_cons_zero, List.set_cons_succ, bind_ok, lift_ok, List.length_cons, List.length_nil, Nat.reduceAdd, Nat.reduceLeDiff, ↓reduceIte, if_true, if_false, Bool.false_eq_true, ev_lc, fSl, fAdd, fInt, seqOf, e63, itemsOf, z1, wipeD, List.map_cons, List.map_nil, List.replicate, List.cons_append, List.nil_append, List.foldl_cons, List.foldl_nil, Nat.reduceSub, c1]
    refine (seq_nx (ρ1 := [some (.lst (ns.map D.int)), some (.int b), some (.lst (C.map D.int)), some (.int (40127 * b + 863)), none]) (A1 := A) ?_).trans ?_
    · simp only [ev_var, ev_K, ev_op, ev_neg, ev_tst, ev_and, ev_or, ev_not, ev_andV, ev_orV, ev_notV, ev_if, ev_chn, ev_nil, ev_cons, ev_tup, ev_lst, ev_new, ev_call, ev_callF, ev_callK, ev_met, ev_sl, ev_some, ev_none, ev_rev, ev_yes, ev_sq, ev_r1, ev_next, ev_drop, ev_ret, ev_ifs, ev_set, ev_par2, ev_par3, ev_asg, ev_nm, List.getElem?_cons_zero, List.getElem?_cons_succ, List.set_cons_zero, List.set_cons_succ, bind_ok, lift_ok, List.length_cons, List.length_nil, Nat.reduceAdd, Nat.reduceLeDiff, ↓reduceIte, if_true, if_false, Bool.false_eq_true, fMulA, fI, cm, fAdd]
    refine (seq_nx (ρ1 := [some (.lst (ns.map D.int)), some (.int b), some (.lst (C.map D.int)), some (.int s'), d]) (A1 := A) ?_).trans ?_
    · simp only [ev_var, ev_K, ev_op, ev_neg, ev_tst, ev_and, ev_or, ev_not, ev_andV, ev_orV, ev_notV, ev_if, ev_chn, ev_nil, ev_cons, ev_tup, ev_lst, ev_new, ev_call, ev_callF, ev_callK, ev_met, ev_sl, ev_some, ev_none, ev_rev, ev_yes, ev_sq, ev_r1, ev_next, ev_drop, ev_ret, ev_ifs, ev_set, ev_par2, ev_par3, ev_asg, ev_nm, List.getElem?_cons_zero, List.getElem?_cons_succ, List.set_cons_zero, List.set_cons_succ, bind_ok, lift_ok, List.length_cons, List.length_nil, Nat.reduceAdd, Nat.reduceLeDiff, ↓reduceIte, if_true, if_false, Bool.false_eq_true, ev_for, itemsOf, seqOf]
      exact st
    simp only [ev_var, ev_K, ev_op, ev_neg, ev_tst, ev_and, ev_or, ev_not, ev_andV, ev_orV, ev_notV, ev_if, ev_chn, ev_nil, ev_cons, ev_tup, ev_lst, ev_new, ev_call, ev_callF, ev_callK, ev_met, ev_sl, ev_some, ev_none, ev_rev, ev_yes, ev_sq, ev_r1, ev_next, ev_drop, ev_ret, ev_ifs, ev_set, ev_par2, ev_par3, ev_asg, ev_nm, List.getElem?_cons_zero, List.getElem?_cons_succ, List.set_cons_zero, List.set_cons_succ, bind_ok, lift_ok, List.length_cons, List.length_nil, Nat.reduceAdd, Nat.reduceLeDiff, ↓reduceIte, if_true, if_false, Bool.false_eq_true, ev_lc, seqOf, itemsOf, z2, wipeD, List.foldl_cons, List.foldl_nil, c2, isTup]
    simp
  · rw [List.getElem?_append_right (by simp)]; simp
  · rw [List.getElem?_append_left (by simp), List.getElem?_append_right (by simp)]; simp
  · rw [List.getElem?_append_left (by simp; omega), List.getElem?_append_left hn]
end DM
end
section
set_option maxHeartbeats 1000000
namespace TR
open PySem PySem.Spec PyProof.Rows L2 DM
/-! ### dicts with the keys of a row of entries -/
def kvM (es : List En) (f : En → D) : List (Key × D) := es.map fun e => ((.inr e.1 : Key), f e)
abbrev KvP (kvs : List (Key × D)) (es : List En) (f : En → D) : Prop := kvs.Perm (kvM es f)
theorem valD_mem {k : Key} {x : D} : ∀ {kvs : List (Key × D)}, (kvs.map (·.1)).Nodup → (k, x) ∈ kvs → valD kvs k = some x
  | y :: r, nd, h => by
    rw [List.map_cons, List.nodup_cons] at nd
    unfold valD
    rw [List.find?_cons]
    rcases List.mem_cons.mp h with h | h
    · rw [← h]; simp
    · have hy : y.1 ≠ k := fun z => nd.1 (z ▸ List.mem_map_of_mem (f := (·.1)) h)
      rw [decide_eq_false hy]
      exact valD_mem nd.2 h
theorem valD_no {k : Key} {kvs : List (Key × D)} (h : k ∉ kvs.map (·.1)) : valD kvs k = none := by
  unfold valD
  have q : kvs.find? (fun kv => decide (kv.1 = k)) = none := List.find?_eq_none.mpr fun kv hkv z => by
    have z : kv.1 = k := of_decide_eq_true z
    exact h (z ▸ List.mem_map_of_mem (f := (·.1)) hkv)
  rw [q]
  rfl
theorem kvM_nodup {es : List En} {f : En → D} (hs : Srt es) : ((kvM es f).map (·.1)).Nodup := by
  unfold kvM
  rw [List.map_map, List.Nodup, List.pairwise_map]
  refine hs.imp fun {a b} h z => ?_
  have : a.1 = b.1 := Sum.inr.inj z
  exact lt_ir (this ▸ h)
variable {kvs : List (Key × D)} {es : List En} {f : En → D} {k : Str} {v : D} {A : AH}
theorem KvP.nodup (h : KvP kvs es f) (hs : Srt es) : (kvs.map (·.1)).Nodup := (List.Perm.nodup_iff (h.map (·.1))).mpr (kvM_nodup hs)
theorem KvP.len (h : KvP kvs es f) : kvs.length = es.length := by
  rw [h.length_eq]; exact List.length_map ..
theorem KvP.val (h : KvP kvs es f) (hs : Srt es) : valD kvs (.inr k) = (getE es k).map f := by
  cases hg : getE es k with
  | none =>
    refine valD_no fun hk => ?_
    have hk := (h.map (·.1)).mem_iff.mp hk
    unfold kvM at hk
    rw [List.map_map] at hk
    obtain ⟨e, he, z⟩ := List.mem_map.mp hk
    have z : e.1 = k := Sum.inr.inj z
    rw [← z, getE_of hs he] at hg
    cases hg
  | some e =>
    have he : e ∈ es := List.mem_of_find?_eq_some hg
    have hk : e.1 = k := by have := List.find?_some hg; simpa using this
    refine valD_mem (h.nodup hs) (h.mem_iff.mpr ?_)
    rw [← hk]
    exact List.mem_map.mpr ⟨e, he, rfl⟩
theorem putKD_perm {a : Key} {x : D} : ∀ {kvs : List (Key × D)}, (kvs.map (·.1)).Nodup → (putKD kvs a x).Perm ((a, x) :: dropKD kvs a) := by
  intro kvs nd
  by_cases h : a ∈ kvs.map (·.1)
  · have e : putKD kvs a x = kvs.map (fun kv => if kv.1 = a then (kv.1, x) else kv) := by
      unfold putKD
      rw [if_pos]
      obtain ⟨kv, h1, h2⟩ := List.mem_map.mp h
      exact List.any_eq_true.mpr ⟨kv, h1, decide_eq_true h2⟩
    rw [e]
    clear e
    induction kvs with
    | nil => simp at h
    | cons y r ih =>
      rw [List.map_cons, List.nodup_cons] at nd
      rw [List.map_cons]
      unfold dropKD
      rw [List.filter_cons]
      by_cases hy : y.1 = a
      · have hr : ∀ z ∈ r, z.1 ≠ a := fun z hz e => nd.1 (hy ▸ e ▸ List.mem_map_of_mem (f := (·.1)) hz)
        have m1 : r.map (fun kv => if kv.1 = a then (kv.1, x) else kv) = r := by
          conv => rhs; rw [← List.map_id r]
          exact List.map_congr_left fun z hz => by rw [if_neg (hr z hz)]; rfl
        have m2 : r.filter (fun kv => decide (kv.1 ≠ a)) = r := List.filter_eq_self.mpr fun z hz => decide_eq_true (hr z hz)
        rw [if_pos hy, m1, m2, if_neg (by rw [decide_eq_true_eq]; exact fun z => z hy), hy]
      · have ha : a ∈ r.map (·.1) := by
          rcases List.mem_cons.mp h with z | z
          · exact absurd z.symm hy
          · exact z
        rw [if_neg hy, if_pos (decide_eq_true hy)]
        exact ((ih nd.2 ha).cons y).trans (.swap ..)
  · have hr : ∀ z ∈ kvs, z.1 ≠ a := fun z hz e => h (e ▸ List.mem_map_of_mem (f := (·.1)) hz)
    have e : putKD kvs a x = kvs ++ [(a, x)] := by
      unfold putKD
      rw [if_neg]
      rw [List.any_eq_true]
      rintro ⟨z, hz, q⟩
      exact hr z hz (of_decide_eq_true q)
    have m2 : dropKD kvs a = kvs := List.filter_eq_self.mpr fun z hz => decide_eq_true (hr z hz)
    rw [e, m2]
    exact List.perm_append_singleton ..
theorem insE_perm (hs : Srt es) : (insE es k v).Perm ((k, v) :: delE es k) := by
  obtain ⟨a, b, e, ha, hb, e1, h⟩ := srt_cut (k := k) hs
  unfold insE
  rw [← e1]
  have fa : a.filter (fun e => decide (e.1 ≠ k)) = a := fil_all fun e he => decide_eq_true fun z => lt_ir (z ▸ ha e he)
  have ng : ∀ {l : List En}, (∀ e ∈ l, sLt k e.1) → l.filter (fun e => decide (e.1 ≠ k)) = l := fun {l} hl => fil_all fun e he => decide_eq_true fun z => lt_ir (z ▸ hl e he)
  have key : delE es k = a ++ es.filter (fun e => decide (sLt k e.1)) := by
    rcases h with ⟨h1, h2⟩ | ⟨w, b', h1, h2, h3⟩
    · rw [← h1, e]
      unfold delE
      rw [List.filter_append, fa, ng h2]
    · rw [← h2, e, h1]
      unfold delE
      rw [List.filter_append, fa, List.filter_cons, if_neg (by simp), ng h3]
  rw [key]
  exact List.perm_middle
theorem kvM_del : kvM (delE es k) f = (kvM es f).filter fun kv => decide (kv.1 ≠ Sum.inr k) := by
  unfold kvM delE
  rw [List.filter_map]
  congr 1
  refine List.filter_congr fun e _ => ?_
  show decide (e.1 ≠ k) = decide ((Sum.inr e.1 : Key) ≠ Sum.inr k)
  refine decide_eq_decide.mpr ⟨fun h z => h (Sum.inr.inj z), fun h z => h (by rw [z])⟩
theorem KvP.drop (h : KvP kvs es f) : KvP (dropKD kvs (.inr k)) (delE es k) f := by
  show (dropKD kvs (.inr k)).Perm (kvM (delE es k) f)
  rw [kvM_del]
  exact h.filter _
theorem KvP.put (h : KvP kvs es f) (hs : Srt es) : KvP (putKD kvs (.inr k) (f (k, v))) (insE es k v) f := by
  have := (insE_perm (k := k) (v := v) hs).map fun e : En => ((.inr e.1 : Key), f e)
  exact (putKD_perm (h.nodup hs)).trans ((List.Perm.cons _ (KvP.drop h)).trans this.symm)
theorem strKeys_inr : ∀ {kvs : List (Key × D)} {ks : List Str}, kvs.map (·.1) = ks.map Sum.inr → strKeys kvs = some ks
  | [], ks, h => by cases ks with
    | nil => rfl
    | cons a b => simp at h
  | (a, x) :: r, ks, h => by
    cases ks with
    | nil => simp at h
    | cons b bs =>
      rw [List.map_cons, List.map_cons, List.cons.injEq] at h
      obtain ⟨h1, h2⟩ := h
      simp only at h1
      subst h1
      unfold strKeys
      rw [strKeys_inr h2]
      rfl
theorem srt_keys {es : List En} (hs : Srt es) : (es.map (·.1)).Pairwise fun a b => sLe a b = true := by
  rw [List.pairwise_map]
  exact hs.imp fun h => le_of_nlt (lt_as h)
theorem KvP.sorted {n : Nat} (h : KvP kvs es f) (hs : Srt es) (hn : A[n]? = some (.dk kvs)) (hl : es.length < 64) : fSortD [.ref n] A = .ok (.lst (es.map fun e => .str e.1)) A := by
  have hall : ∀ kv ∈ kvs, ∃ s, kv.1 = Sum.inr s := fun kv hkv => by
    obtain ⟨e, _, z⟩ := List.mem_map.mp (h.mem_iff.mp hkv)
    exact ⟨e.1, by rw [← z]⟩
  obtain ⟨ks, h1, h2⟩ : ∃ ks : List Str, kvs.map (·.1) = ks.map Sum.inr ∧ (es.map (·.1)).Perm ks := by
    refine ⟨kvs.map (fun kv => match kv.1 with | .inr s => s | _ => ""), ?_, ?_⟩
    · rw [List.map_map]
      exact List.map_congr_left fun kv hkv => by
        obtain ⟨s, z⟩ := hall kv hkv
        rcases kv with ⟨a, b⟩
        cases z
        rfl
    · have := h.map (fun kv : Key × D => match kv.1 with | .inr s => s | _ => "")
      refine List.Perm.symm (this.trans (.of_eq ?_))
      unfold kvM
      rw [List.map_map]
      rfl
  have hlk : ks.length < 64 := by rw [← h2.length_eq, List.length_map]; exact hl
  unfold fSortD
  simp only [hn, strKeys_inr h1, hlk, if_true, ← srtS_uniq h2 (srt_keys hs), List.map_map]
  rfl
/-! ### a tree that changes -/
def tF (m : Nat) (d : D) (Kn : Nat) : List (Str × D) := [("most", .int (m : Int)), ("_page", d), ("_known", .ref Kn)]
structure Tr (T Kn m : Nat) (es : List En) (A : AH) : Prop where
  h3 : 3 ≤ m
  hm : m ≤ 16
  srt : Srt es
  ne : T ≠ Kn
  ex : ∃ n d kvs, A[T]? = some (.ins "Tree" (tF m d Kn)) ∧ Root m n d es ∧ A[Kn]? = some (.dk kvs) ∧ KvP kvs es (fun _ => .bl true)
theorem Tr.keep {T Kn m : Nat} {A B : AH} (t : Tr T Kn m es A) (h1 : B[T]? = A[T]?) (h2 : B[Kn]? = A[Kn]?) : Tr T Kn m es B := by
  obtain ⟨n, d, kvs, a, b, c, e⟩ := t.ex
  exact ⟨t.h3, t.hm, t.srt, t.ne, n, d, kvs, h1.trans a, b, h2.trans c, e⟩
theorem Tr.lt {T Kn m : Nat} {A : AH} (t : Tr T Kn m es A) : T < A.length ∧ Kn < A.length := by
  obtain ⟨n, d, kvs, a, b, c, e⟩ := t.ex
  exact ⟨(List.getElem?_eq_some_iff.mp a).1, (List.getElem?_eq_some_iff.mp c).1⟩
end TR
end
section
set_option maxHeartbeats 1000000
namespace TR
open PySem PySem.Spec PyProof.Rows L2 DM
/-! ### data shown -/
def Shd (k w : Nat) (d : D) (q : PyData) : Prop := toPy d = some q ∧ FewB 20 k w q
def ShdL (k w : Nat) (ds : List D) (ps : List PyData) : Prop := toPys ds = some ps ∧ ∀ p ∈ ps, FewB 20 k w p
theorem shl_nil {k w : Nat} : ShdL k w [] [] := ⟨rfl, fun _ h => nomatch h⟩
theorem shl_cons {k w k' w' : Nat} {d : D} {p : PyData} {ds : List D} {ps : List PyData} (h : Shd k' w' d p) (hk : k' ≤ k) (hw : w' ≤ w) (r : ShdL k w ds ps) : ShdL k w (d :: ds) (p :: ps) := by
  refine ⟨?_, fun q hq => (List.mem_cons.mp hq).elim (fun e => by rw [e]; exact h.2.mono hk hw) (r.2 q)⟩
  rw [toPys, h.1, r.1]
theorem shd_tup {k w : Nat} {ds : List D} {ps : List PyData} (h : ShdL k w ds ps) : Shd (k + 1) (ps.length * (w + 1)) (.tup ds) (.tuple ps) := ⟨by simp only [toPy, h.1, Option.map_some], fewB_tuple h.2⟩
theorem shd_int {i : Int} (h : i.natAbs < 10 ^ 19) : Shd 0 64 (.int i) (.int i) := ⟨rfl, fewB_int (by decide) h⟩
theorem repr_shd {k w : Nat} {d : D} {p : PyData} {A : AH} (h : Shd k w d p) (hk : k ≤ 32) (hw : 22 * w + 20 ≤ 16777216) : fRepr [d] A = .ok (.str p.shown) A := repr_fewB (toPyA_of h.1) h.2 hk (by decide) hw
def Th (v : D) : Prop := ∃ p, Shd 2 262 v p
theorem Shd.up {k w k' w' : Nat} {d : D} {p : PyData} (h : Shd k w d p) (hk : k ≤ k') (hw : w ≤ w') : Shd k' w' d p := ⟨h.1, h.2.mono hk hw⟩
/-! ### texts -/
def sT (cs : List Nat) : Str := ⟨cs.toArray⟩
theorem sT_len (cs : List Nat) : (sT cs).length = cs.length := by simp [sT, Str.length]
theorem sT_list (cs : List Nat) : (sT cs).cps.toList = cs := by simp [sT]
theorem sT_app (a b : List Nat) : sT a ++ sT b = sT (a ++ b) := by
  show (Str.mk (a.toArray ++ b.toArray)) = _
  simp [sT]
theorem add_sT {a b : List Nat} {A : AH} (h : a.length + b.length ≤ 1000) : fAdd (.str (sT a)) (.str (sT b)) A = .ok (.str (sT (a ++ b))) A := by
  simp only [fAdd, sT_len, show a.length + b.length ≤ 16777216 by omega, if_true, sT_app]
theorem cut_sT {cs : List Nat} {A : AH} (h : cs.length ≤ 16) : fSlX (.str (sT cs)) none (some 16) A = .ok (.str (sT cs)) A := by
  have e : cutS (sT cs) none (some 16) = sT cs := by
    unfold cutS
    rw [HT.sIx_none, show (16 : Int) = ((16 : Nat) : Int) from rfl, HT.sIx_nat, sT_list, sT_len, List.drop_zero, Nat.sub_zero, List.take_of_length_le (by omega)]
    rfl
  unfold fSlX
  simp only [sT_len, show cs.length ≤ 16777216 by omega, if_true, e]
theorem join_fold : ∀ (cs : List Nat) (a : Array Nat), (cs.map fun c => (⟨#[c]⟩ : Str)).foldl (fun acc p => acc ++ ("" : Str).cps ++ p.cps) a = a ++ cs.toArray
  | [], a => by simp
  | c :: cs, a => by
    rw [List.map_cons, List.foldl_cons, join_fold cs]
    show (a ++ #[] ++ #[c]) ++ cs.toArray = a ++ (c :: cs).toArray
    simp
theorem join_one (cs : List Nat) : Txt.join "" (cs.map fun c => (⟨#[c]⟩ : Str)) = sT cs := by
  cases cs with
  | nil => rfl
  | cons c cs =>
    show (Str.mk ((cs.map fun c => (⟨#[c]⟩ : Str)).foldl (fun acc p => acc ++ ("" : Str).cps ++ p.cps) #[c])) = _
    rw [join_fold]
    simp [sT]
/-! ### drawing -/
section
variable {h q c : Nat} {A : AH}
theorem any_nat {k : Nat} (hs : HS h q A) (h0 : 0 < k) (h1 : k < 1073741824) : ∃ (v : Nat) (A' : AH), anyN [.ref h, .int (k : Int)] A = .ok (.int (v : Int)) A' ∧ v < k ∧ Drawn h q A A' := by
  obtain ⟨v, A', e, v0, v1, dr⟩ := anyN_ok (k := (k : Int)) hs (by omega) (by omega)
  exact ⟨v.toNat, A', by rw [show ((v.toNat : Nat) : Int) = v by omega]; exact e, by omega, dr⟩
theorem of_lst {xs : List D} (hs : HS h q A) (h0 : 0 < xs.length) (h1 : xs.length < 1000) : ∃ d ∈ xs, ∃ A', pickM anyN [.ref h, .lst xs] A = .ok d A' ∧ Drawn h q A A' := by
  obtain ⟨i, hi, A', e, dr⟩ := ofN_ok hs h0 (by omega)
  exact ⟨_, List.getElem_mem hi, A', e, dr⟩
theorem hs_lt {h q : Nat} {A : AH} (hs : HS h q A) : h < A.length ∧ q < A.length := by
  obtain ⟨_, L, s, e1, e2, _⟩ := hs
  exact ⟨(List.getElem?_eq_some_iff.mp e1).1, (List.getElem?_eq_some_iff.mp e2).1⟩
theorem hs_keep {h q : Nat} {A A' : AH} (hs : HS h q A) (k1 : A'[h]? = A[h]?) (k2 : A'[q]? = A[q]?) : HS h q A' := by
  obtain ⟨hq, L, s, e1, e2, r⟩ := hs
  exact ⟨hq, L, s, k1.trans e1, k2.trans e2, r⟩
theorem hs_push {h q : Nat} {A : AH} (hs : HS h q A) (B : AH) : HS h q (A ++ B) := hs_keep hs (List.getElem?_append_left (hs_lt hs).1) (List.getElem?_append_left (hs_lt hs).2)
theorem hs_set {h q n : Nat} {A : AH} {o : AO} (hs : HS h q A) (h1 : n ≠ h) (h2 : n ≠ q) : HS h q (A.set n o) := hs_keep hs (List.getElem?_set_ne h1) (List.getElem?_set_ne h2)
def AS : Str := "abcdefghijklmnopqrstuvwxyz0123456789_"
theorem AS_in : ∀ c ∈ AS.cps.toList, c ∈ SG.cps.toList := by decide +kernel
theorem AS_len : AS.cps.toList.length = 37 := by decide +kernel
theorem AS_at {n : Nat} (hj : n < AS.cps.toList.length) {B : AH} : fIx (.str AS) (.int (n : Int)) B = .ok (.str ⟨#[AS.cps.toList[n]]⟩) B := by
  have ha : atI AS.cps.toList (n : Int) = some AS.cps.toList[n] := atI_nat (List.getElem?_eq_getElem hj)
  have hl : AS.length ≤ 16777216 := by decide +kernel
  unfold fIx
  simp only [hl, if_true, ha]
/-- ''.join([signs[any(37)] for turn in range(n)]) -/
theorem signs_draw {i j n : Nat} {ρ : DM.Env} {me : ME} {A A0 : AH} (hs : HS h q A) (hme : me ρ A0 = .ok (.int (n : Int)) A) (hn : n ≤ 1000)
    (hρ : ρ[0]? = some (some (.ref h))) (hi : ρ[i]? = some (some (.str AS))) (hj : j < ρ.length) (hij : j ≠ i) (hj0 : j ≠ 0) :
    ∃ cs A', mJoin (mK (.str "")) (mLc false (mR1 (mCons me (mNil))) (.nm j) (mYes) (mOp fIx (mVar i) (mCallF 2 anyN (mCons (mVar 0) (mCons (mK (.int 37)) (mNil))))) [j]) ρ A0 = .ok (.str (sT cs)) A' ∧ cs.length = n ∧ (∀ c ∈ cs, c ∈ SG.cps.toList) ∧ Drawn h q A A' := by
  have hw : wipeD ρ [j] = ρ.set j none := rfl
  have hit : ∀ A, itemsOf A (.rng 0 (n : Int)) = some ((List.range n).map fun i => D.int (0 + (i : Nat))) := fun A => by
    show some ((List.range ((n : Int) - 0).toNat).map _) = _
    rw [show ((n : Int) - 0).toNat = n by omega]
  obtain ⟨ys, A', w, l, ps, d'⟩ := comp_draw (t := .nm j) (tt := mYes) (me := mOp fIx (mVar i) (mCallF 2 anyN (mCons (mVar 0) (mCons (mK (.int 37)) (mNil))))) (ρ := wipeD ρ [j]) (Pd := fun d => ∃ c ∈ AS.cps.toList, d = .str ⟨#[c]⟩) (G := fun _ => True) hit (fun _ _ _ _ => trivial) ((List.range n).map fun i => D.int (0 + (i : Nat))) [] A hs trivial (fun y _ A hs _ => by
    obtain ⟨v, A2, e2, hv, dr2⟩ := any_nat (k := 37) hs (by decide) (by decide)
    rw [show ((37 : Nat) : Int) = 37 from rfl] at e2
    have hv2 : v < AS.cps.toList.length := by rw [AS_len]; exact hv
    refine ⟨(wipeD ρ [j]).set j (some y), _, A2, rfl, rfl, ?_, ⟨_, List.getElem_mem hv2, rfl⟩, dr2⟩
    have v0 : ((wipeD ρ [j]).set j (some y))[0]? = some (some (.ref h)) := by rw [hw, List.set_set, List.getElem?_set_ne hj0, hρ]
    have vi : ((wipeD ρ [j]).set j (some y))[i]? = some (some (.str AS)) := by rw [hw, List.set_set, List.getElem?_set_ne hij, hi]
    have ix := AS_at (B := A2) hv2
    generalize AS.cps.toList[v] = cc at ix
    simp only [ev_op, ev_callF, ev_cons, ev_var, ev_K, v0, vi, bind_ok, ev_nil, List.length_cons, List.length_nil, Nat.reduceAdd, if_true, e2, ix])
  obtain ⟨cs, hcs, hmem⟩ : ∃ cs : List Nat, ys = cs.map (fun c => D.str ⟨#[c]⟩) ∧ ∀ c ∈ cs, c ∈ AS.cps.toList := by
    clear w l d'
    induction ys with
    | nil => exact ⟨[], rfl, fun _ h => nomatch h⟩
    | cons y ys ih =>
      obtain ⟨cs, e, hm⟩ := ih fun z hz => ps z (List.mem_cons_of_mem _ hz)
      obtain ⟨c, hc, rfl⟩ := ps y List.mem_cons_self
      exact ⟨c :: cs, by rw [e]; rfl, fun z hz => (List.mem_cons.mp hz).elim (fun e => by rw [e]; exact hc) (hm z)⟩
  have hlen : cs.length = n := by rw [hcs, List.length_map, List.length_map, List.length_range] at l; exact l
  refine ⟨cs, A', ?_, hlen, fun c hc => AS_in c (hmem c hc), d'⟩
  have er : mR1 (mCons me (mNil)) ρ A0 = .ok (.rng 0 (n : Int)) A := r1_at (by rw [ev_cons, hme, bind_ok, ev_nil]; rfl) (by omega)
  have hst : strsOf (cs.map (fun c => D.str ⟨#[c]⟩)) = some (cs.map fun c => (⟨#[c]⟩ : Str)) := by
    have := strsOf_map (cs.map fun c => (⟨#[c]⟩ : Str))
    rwa [List.map_map] at this
  unfold mJoin
  rw [ev_K, bind_ok]
  simp only [ev_lc, er, bind_ok, hit]
  rw [if_pos (by rw [List.length_map, List.length_range]; omega), w]
  simp only [bind_ok, List.nil_append, Bool.false_eq_true, if_false, seqOf, hcs, hst]
  rw [if_pos, join_one]
  rw [List.map_map, List.length_map]
  have h1 : ((cs.map ((fun x => x.length) ∘ fun c => (⟨#[c]⟩ : Str)))).sum = cs.length := by
    clear hst hlen hmem hcs w
    induction cs with
    | nil => rfl
    | cons c cs ih => rw [List.map_cons, List.sum_cons, ih, List.length_cons, Nat.add_comm]; rfl
  rw [h1]
  show cs.length + cs.length * 0 ≤ _
  omega
/-! ### keys -/
noncomputable def b_keysN : MS := (mSeq (mSet 6 (mCallF 2 (pickM anyN) (mCons (mVar 0) (mCons (mLst (mCons (mK (.int 1)) (mCons (mK (.int 1)) (mCons (mK (.int 2)) (mCons (mK (.int 2)) (mCons (mK (.int 2)) (mCons (mK (.int 3)) (mNil)))))))) (mNil))))) (mSeq (mSet 7 (mSlX (mOp fAdd (mVar 4) (mJoin (mK (.str "")) (mLc false (mR1 (mCons (mVar 6) (mNil))) (.nm 8) (mYes) (mOp fIx (mVar 2) (mCallF 2 anyN (mCons (mVar 0) (mCons (mK (.int 37)) (mNil))))) [8]))) (mNone) (mSome (mK (.int 16))))) (mSeq (mIfS (mAnd (mTst (mOp (fIn true) (mVar 7) (mVar 3))) (mTst (mOp fLt (mCall fLen (mCons (mVar 3) (mNil))) (mVar 1)))) (mDrop (mMet fApp (mVar 3) (mCons (mVar 7) (mNil)))) (mNext)) (mIfS (mAnd (mTst (mOp (fEq true) (mVar 4) (mK (.str "")))) (mAnd (mTst (mOp (fIn true) (mVar 4) (mVar 3))) (mAnd (mTst (mOp fLt (mCall fLen (mCons (mVar 3) (mNil))) (mVar 1))) (mTst (mOp (fEq false) (mVar 5) (mK (.int 2))))))) (mDrop (mMet fApp (mVar 3) (mCons (mVar 4) (mNil)))) (mNext)))))
noncomputable def keysN : List D → AH → Res D := mFun 9 (mSeq (mAsg (.tp [.nm 2, .nm 3]) (mTup (mCons (mK (.str "abcdefghijklmnopqrstuvwxyz0123456789_")) (mCons (mNew (mNil)) (mNil))))) (mSeq (mSet 4 (mJoin (mK (.str "")) (mLc false (mR1 (mCons (mCallF 2 (pickM anyN) (mCons (mVar 0) (mCons (mLst (mCons (mK (.int 0)) (mCons (mK (.int 0)) (mCons (mK (.int 1)) (mCons (mK (.int 2)) (mCons (mK (.int 9)) (mCons (mK (.int 13)) (mNil)))))))) (mNil)))) (mNil))) (.nm 5) (mYes) (mOp fIx (mVar 2) (mCallF 2 anyN (mCons (mVar 0) (mCons (mK (.int 37)) (mNil))))) [5]))) (mSeq (mFor (mR1 (mCons (mOp fMulA (mK (.int 3)) (mVar 1)) (mNil))) (.nm 5) b_keysN) (mRet (mCall fSortS (mCons (mVar 3) (mNil)))))))
def ksD (ks : List Str) : List D := ks.map D.str
theorem ks_any {k : Str} : ∀ ks : List Str, ((ksD ks).any fun z => eqD z (.str k)) = decide (k ∈ ks)
  | [] => rfl
  | a :: ks => by
    show (eqD (.str a) (.str k) || (ksD ks).any fun z => eqD z (.str k)) = _
    rw [ks_any ks]
    show ((a == k) || decide (k ∈ ks)) = _
    by_cases h : a = k
    · subst h; simp
    · rw [show (a == k) = false from beq_eq_false_iff_ne.mpr h, Bool.false_or]
      by_cases h2 : k ∈ ks
      · rw [decide_eq_true h2, decide_eq_true (List.mem_cons_of_mem _ h2)]
      · rw [decide_eq_false h2, decide_eq_false (fun z => (List.mem_cons.mp z).elim (fun e => h e.symm) h2)]
theorem ks_flat (ks : List Str) : (ksD ks).all flatD = true := by
  induction ks with
  | nil => rfl
  | cons a ks ih => exact ih
theorem in_ks {k : Str} {ks : List Str} {d : D} {neg : Bool} (h : seqOf A d = some (ksD ks)) : fIn neg (.str k) d A = .ok (.bl (if neg then !decide (k ∈ ks) else decide (k ∈ ks))) A := by
  unfold fIn
  rw [h]
  show (if flatD (.str k) = true ∧ (ksD ks).all flatD = true then _ else _) = _
  rw [if_pos ⟨rfl, ks_flat ks⟩, ks_any]
theorem app_ks {ks : List Str} {k : Str} (h : A[c]? = some (.lst (ksD ks))) (hl : ks.length < 1000) : fApp c [.str k] A = .ok .non (A.set c (.lst (ksD (ks ++ [k])))) := by
  have e : ksD ks ++ [.str k] = ksD (ks ++ [k]) := by unfold ksD; rw [List.map_append]; rfl
  rw [← e]
  unfold fApp
  simp only [h, show (ksD ks).length < 16777216 by unfold ksD; rw [List.length_map]; omega, if_true]
structure Kd (many : Nat) (ks : List Str) : Prop where
  nd : ks.Nodup
  gk : ∀ k ∈ ks, KG k
  ln : ks.length ≤ many
theorem Kd.snoc {many : Nat} {ks : List Str} {k : Str} (K : Kd many ks) (h1 : k ∉ ks) (h2 : ks.length < many) (g : KG k) : Kd many (ks ++ [k]) :=
  ⟨List.nodup_append.mpr ⟨K.nd, by simp, fun a ha b hb e => h1 (by rw [List.mem_singleton] at hb; rw [← hb, ← e]; exact ha)⟩, fun z hz => (List.mem_append.mp hz).elim (K.gk z) fun z' => by rw [List.mem_singleton] at z'; rw [z']; exact g, by rw [List.length_append, List.length_singleton]; omega⟩
variable {many : Nat} {stem : List Nat}
/-- what a row of keys is behind the end of a turn -/
theorem put_if {R : DM.Env} {mt : MT} {j : Nat} {k : Str} {ks : List Str} {b : Bool} (h1 : c ≠ h) (h2 : c ≠ q) (hs : HS h q A) (hA : A[c]? = some (.lst (ksD ks))) (K : Kd many ks) (hm : many ≤ 63)
    (r3 : R[3]? = some (some (.ref c))) (rj : R[j]? = some (some (.str k))) (ht : mt R A = .ok b A) (hb : b = true → k ∉ ks ∧ ks.length < many ∧ KG k) :
    ∃ ks' A', mIfS mt (mDrop (mMet fApp (mVar 3) (mCons (mVar j) (mNil)))) (mNext) R A = .nx R A' ∧ A'.length = A.length ∧ HS h q A' ∧ (∀ n, n ≠ h → n ≠ q → n ≠ c → A'[n]? = A[n]?) ∧ A'[c]? = some (.lst (ksD ks')) ∧ Kd many ks' ∧ (b = true ∨ ks ≠ [] → ks' ≠ []) := by
  cases b with
  | false =>
    refine ⟨ks, A, ?_, rfl, hs, fun _ _ _ _ => rfl, hA, K, fun h => h.elim (fun z => nomatch z) id⟩
    rw [ev_ifs, ht]
    rfl
  | true =>
    obtain ⟨a1, a2, a3⟩ := hb rfl
    have K' := K.snoc a1 a2 a3
    refine ⟨ks ++ [k], A.set c (.lst (ksD (ks ++ [k]))), ?_, List.length_set, hs_set hs h1 h2, fun n _ _ z => List.getElem?_set_ne (fun e => z e.symm), List.getElem?_set_self (List.getElem?_eq_some_iff.mp hA).1, K', fun _ => by simp⟩
    have ap := app_ks (k := k) hA (by omega)
    have e : mMet fApp (mVar 3) (mCons (mVar j) (mNil)) R A = .ok .non (A.set c (.lst (ksD (ks ++ [k])))) := by
      rw [ev_met, ev_var, r3]
      simp only [bind_ok, hA, ev_cons, ev_var, rj, ev_nil]
      exact ap
    rw [ev_ifs, ht]
    show mDrop (mMet fApp (mVar 3) (mCons (mVar j) (mNil))) R A = _
    rw [ev_drop, e]
    rfl
theorem op_at {f : D → D → AH → Res D} {ma mb : ME} {ρ : DM.Env} {A A1 A2 : AH} {x y : D} {r : Res D} (h1 : ma ρ A = .ok x A1) (h2 : mb ρ A1 = .ok y A2) (h3 : f x y A2 = r) : mOp f ma mb ρ A = r := by
  subst h3
  rw [ev_op, h1, bind_ok, h2]
  rfl
theorem slx_at {me : ME} {ρ : DM.Env} {A A1 : AH} {d : D} {k : Int} {r : Res D} (h1 : me ρ A = .ok d A1) (h2 : fSlX d none (some k) A1 = r) : mSlX me (mNone) (mSome (mK (.int k))) ρ A = r := by
  subst h2
  unfold mSlX
  rw [h1]
  rfl
theorem set_at {me : ME} {ρ : DM.Env} {A A1 : AH} {d : D} {i : Nat} (h1 : me ρ A = .ok d A1) : mSet i me ρ A = .nx (ρ.set i (some d)) A1 := by
  rw [ev_set, h1]
  rfl
theorem turn_draw {t : Nat} {x6 x7 x8 : Option D} (hs : HS h q A) (hst : stem.length ≤ 13) (hsg : ∀ z ∈ stem, z ∈ SG.cps.toList) : ∃ (n : Nat) (key : Str) (A2 : AH), (∀ rest : MS, mSeq (mSet 6 (mCallF 2 (pickM anyN) (mCons (mVar 0) (mCons (mLst (mCons (mK (.int 1)) (mCons (mK (.int 1)) (mCons (mK (.int 2)) (mCons (mK (.int 2)) (mCons (mK (.int 2)) (mCons (mK (.int 3)) (mNil)))))))) (mNil))))) (mSeq (mSet 7 (mSlX (mOp fAdd (mVar 4) (mJoin (mK (.str "")) (mLc false (mR1 (mCons (mVar 6) (mNil))) (.nm 8) (mYes) (mOp fIx (mVar 2) (mCallF 2 anyN (mCons (mVar 0) (mCons (mK (.int 37)) (mNil))))) [8]))) (mNone) (mSome (mK (.int 16))))) rest) [some (.ref h), some (.int (many : Int)), some (.str AS), some (.ref c), some (.str (sT stem)), some (.int (t : Int)), x6, x7, x8] A = rest [some (.ref h), some (.int (many : Int)), some (.str AS), some (.ref c), some (.str (sT stem)), some (.int (t : Int)), some (.int (n : Int)), some (.str key), x8] A2) ∧ KG key ∧ Drawn h q A A2 := by
  obtain ⟨d, hd, A1, e1, d1⟩ := of_lst (xs := [.int 1, .int 1, .int 2, .int 2, .int 2, .int 3]) hs (by simp) (by simp)
  obtain ⟨n, rfl, n1, n3⟩ : ∃ n : Nat, d = .int (n : Int) ∧ 1 ≤ n ∧ n ≤ 3 := by
    simp only [List.mem_cons, List.not_mem_nil, or_false] at hd
    rcases hd with rfl | rfl | rfl | rfl | rfl | rfl
    · exact ⟨1, rfl, by decide, by decide⟩
    · exact ⟨1, rfl, by decide, by decide⟩
    · exact ⟨2, rfl, by decide, by decide⟩
    · exact ⟨2, rfl, by decide, by decide⟩
    · exact ⟨2, rfl, by decide, by decide⟩
    · exact ⟨3, rfl, by decide, by decide⟩
  obtain ⟨cs, A2, e2, lc, mc, d2⟩ := signs_draw (i := 2) (j := 8) (ρ := [some (.ref h), some (.int (many : Int)), some (.str AS), some (.ref c), some (.str (sT stem)), some (.int (t : Int)), some (.int (n : Int)), x7, x8]) (me := mVar 6) (A0 := A1) d1.2.1 rfl (by omega) rfl rfl (by simp) (by decide) (by decide)
  have dr := d1.trans d2
  have gk : KG (sT (stem ++ cs)) := ⟨by rw [sT_list]; intro z; rw [List.append_eq_nil_iff] at z; rw [z.2] at lc; rw [List.length_nil] at lc; omega, by rw [sT_list, List.length_append]; omega, fun z hz => by
    rw [sT_list] at hz
    exact (List.mem_append.mp hz).elim (hsg z) (mc z)⟩
  have a1 : fAdd (.str (sT stem)) (.str (sT cs)) A2 = .ok (.str (sT (stem ++ cs))) A2 := add_sT (by omega)
  have a2 : fSlX (.str (sT (stem ++ cs))) none (some 16) A2 = .ok (.str (sT (stem ++ cs))) A2 := cut_sT (by rw [List.length_append]; omega)
  have b0 : (mSet 6 (mCallF 2 (pickM anyN) (mCons (mVar 0) (mCons (mLst (mCons (mK (.int 1)) (mCons (mK (.int 1)) (mCons (mK (.int 2)) (mCons (mK (.int 2)) (mCons (mK (.int 2)) (mCons (mK (.int 3)) (mNil)))))))) (mNil))))) [some (.ref h), some (.int (many : Int)), some (.str AS), some (.ref c), some (.str (sT stem)), some (.int (t : Int)), x6, x7, x8] A = .nx [some (.ref h), some (.int (many : Int)), some (.str AS), some (.ref c), some (.str (sT stem)), some (.int (t : Int)), some (.int (n : Int)), x7, x8] A1 := by
    simp only [EVa, List.getElem?_cons_zero, List.getElem?_cons_succ, List.set_cons_zero, List.set_cons_succ, bind_ok, lift_ok, List.length_cons, List.length_nil, Nat.reduceAdd, Nat.reduceLeDiff, ↓reduceIte, if_true, if_false, Bool.false_eq_true, ev_raise, and_self, List.map_cons, List.map_nil, List.replicate, List.cons_append, List.nil_append, Nat.reduceSub, e1]
  have j1 : mOp fAdd (mVar 4) (mJoin (mK (.str "")) (mLc false (mR1 (mCons (mVar 6) (mNil))) (.nm 8) (mYes) (mOp fIx (mVar 2) (mCallF 2 anyN (mCons (mVar 0) (mCons (mK (.int 37)) (mNil))))) [8])) [some (.ref h), some (.int (many : Int)), some (.str AS), some (.ref c), some (.str (sT stem)), some (.int (t : Int)), some (.int (n : Int)), x7, x8] A1 = .ok (.str (sT (stem ++ cs))) A2 := op_at rfl e2 a1
  generalize sT (stem ++ cs) = key at *
  have b1 : (mSet 7 (mSlX (mOp fAdd (mVar 4) (mJoin (mK (.str "")) (mLc false (mR1 (mCons (mVar 6) (mNil))) (.nm 8) (mYes) (mOp fIx (mVar 2) (mCallF 2 anyN (mCons (mVar 0) (mCons (mK (.int 37)) (mNil))))) [8]))) (mNone) (mSome (mK (.int 16))))) [some (.ref h), some (.int (many : Int)), some (.str AS), some (.ref c), some (.str (sT stem)), some (.int (t : Int)), some (.int (n : Int)), x7, x8] A1 = .nx [some (.ref h), some (.int (many : Int)), some (.str AS), some (.ref c), some (.str (sT stem)), some (.int (t : Int)), some (.int (n : Int)), some (.str key), x8] A2 := set_at (slx_at j1 a2)
  exact ⟨n, key, A2, fun rest => (seq_nx b0).trans (seq_nx b1), gk, dr⟩
theorem len_ks {B : AH} {ls : List Str} (z : B[c]? = some (.lst (ksD ls))) : fLen [.ref c] B = .ok (.int (ls.length : Nat)) B := by
  unfold fLen
  simp only [seqOf_ref z]
  unfold ksD
  rw [List.length_map]
theorem turn_key {t n : Nat} {key : Str} {ks : List Str} {x4 x8 : Option D} (h1 : c ≠ h) (h2 : c ≠ q) (hs : HS h q A) (hA : A[c]? = some (.lst (ksD ks))) (K : Kd many ks) (h0 : 0 < many) (hm : many ≤ 63) (gk : KG key) : ∃ ks' A', (mIfS (mAnd (mTst (mOp (fIn true) (mVar 7) (mVar 3))) (mTst (mOp fLt (mCall fLen (mCons (mVar 3) (mNil))) (mVar 1)))) (mDrop (mMet fApp (mVar 3) (mCons (mVar 7) (mNil)))) (mNext)) [some (.ref h), some (.int (many : Int)), some (.str AS), some (.ref c), x4, some (.int (t : Int)), some (.int (n : Int)), some (.str key), x8] A = .nx [some (.ref h), some (.int (many : Int)), some (.str AS), some (.ref c), x4, some (.int (t : Int)), some (.int (n : Int)), some (.str key), x8] A' ∧ A'.length = A.length ∧ HS h q A' ∧ (∀ n, n ≠ h → n ≠ q → n ≠ c → A'[n]? = A[n]?) ∧ A'[c]? = some (.lst (ksD ks')) ∧ Kd many ks' ∧ ks' ≠ [] := by
  have i2 := in_ks (k := key) (neg := true) (seqOf_ref hA)
  have l2 := len_ks hA
  obtain ⟨ks', A', p1, p2, p3, p4, p5, p6, p7⟩ := put_if (R := [some (.ref h), some (.int (many : Int)), some (.str AS), some (.ref c), x4, some (.int (t : Int)), some (.int (n : Int)), some (.str key), x8]) (j := 7) (k := key) (b := decide (key ∉ ks) && decide (ks.length < many)) (mt := mAnd (mTst (mOp (fIn true) (mVar 7) (mVar 3))) (mTst (mOp fLt (mCall fLen (mCons (mVar 3) (mNil))) (mVar 1)))) h1 h2 hs hA K hm rfl rfl (by
    by_cases z : key ∈ ks
    · simp only [EVa, List.getElem?_cons_zero, List.getElem?_cons_succ, List.set_cons_zero, List.set_cons_succ, bind_ok, lift_ok, List.length_cons, List.length_nil, Nat.reduceAdd, Nat.reduceLeDiff, ↓reduceIte, if_true, if_false, Bool.false_eq_true, ev_raise, and_self, List.map_cons, List.map_nil, List.replicate, List.cons_append, List.nil_append, Nat.reduceSub, i2, decide_eq_true z, if_true, Bool.not_true]
      simp [z]
    · simp only [EVa, List.getElem?_cons_zero, List.getElem?_cons_succ, List.set_cons_zero, List.set_cons_succ, bind_ok, lift_ok, List.length_cons, List.length_nil, Nat.reduceAdd, Nat.reduceLeDiff, ↓reduceIte, if_true, if_false, Bool.false_eq_true, ev_raise, and_self, List.map_cons, List.map_nil, List.replicate, List.cons_append, List.nil_append, Nat.reduceSub, i2, decide_eq_false z, if_true, Bool.not_false, l2, lt_ii]
      simp [z]) (fun z => by simp at z; exact ⟨z.1, z.2, gk⟩)
  refine ⟨ks', A', p1, p2, p3, p4, p5, p6, p7 ?_⟩
  by_cases z : key ∈ ks
  · exact .inr fun e => by rw [e] at z; cases z
  · by_cases z2 : ks.length < many
    · exact .inl (by simp [z, z2])
    · exact .inr fun e => by rw [e] at z2; exact z2 h0
theorem stem_emp : (sT stem = ("" : Str)) ↔ stem = [] := ⟨fun z => by have := congrArg (fun s : Str => s.cps.toList) z; rw [sT_list] at this; exact this, fun z => by rw [z]; rfl⟩
theorem turn_stem {t : Nat} {ks3 : List Str} {x6 x7 x8 : Option D} (h1 : c ≠ h) (h2 : c ≠ q) (hs : HS h q A) (hA : A[c]? = some (.lst (ksD ks3))) (K : Kd many ks3) (h0 : ks3 ≠ []) (hm : many ≤ 63) (gs : stem ≠ [] → KG (sT stem)) : ∃ ks' A', (mIfS (mAnd (mTst (mOp (fEq true) (mVar 4) (mK (.str "")))) (mAnd (mTst (mOp (fIn true) (mVar 4) (mVar 3))) (mAnd (mTst (mOp fLt (mCall fLen (mCons (mVar 3) (mNil))) (mVar 1))) (mTst (mOp (fEq false) (mVar 5) (mK (.int 2))))))) (mDrop (mMet fApp (mVar 3) (mCons (mVar 4) (mNil)))) (mNext)) [some (.ref h), some (.int (many : Int)), some (.str AS), some (.ref c), some (.str (sT stem)), some (.int (t : Int)), x6, x7, x8] A = .nx [some (.ref h), some (.int (many : Int)), some (.str AS), some (.ref c), some (.str (sT stem)), some (.int (t : Int)), x6, x7, x8] A' ∧ A'.length = A.length ∧ HS h q A' ∧ (∀ n, n ≠ h → n ≠ q → n ≠ c → A'[n]? = A[n]?) ∧ A'[c]? = some (.lst (ksD ks')) ∧ Kd many ks' ∧ ks' ≠ [] := by
  have i2 := in_ks (k := sT stem) (neg := true) (seqOf_ref hA)
  have l2 := len_ks hA
  have se := stem_emp (stem := stem)
  generalize sT stem = sm at *
  have t0 : ∃ b : Bool, (mAnd (mTst (mOp (fEq true) (mVar 4) (mK (.str "")))) (mAnd (mTst (mOp (fIn true) (mVar 4) (mVar 3))) (mAnd (mTst (mOp fLt (mCall fLen (mCons (mVar 3) (mNil))) (mVar 1))) (mTst (mOp (fEq false) (mVar 5) (mK (.int 2))))))) [some (.ref h), some (.int (many : Int)), some (.str AS), some (.ref c), some (.str sm), some (.int (t : Int)), x6, x7, x8] A = .ok b A ∧ (b = true → sm ∉ ks3 ∧ ks3.length < many ∧ KG sm) := by
    by_cases z0 : stem = []
    · refine ⟨false, ?_, fun z => nomatch z⟩
      simp only [EVa, List.getElem?_cons_zero, List.getElem?_cons_succ, List.set_cons_zero, List.set_cons_succ, bind_ok, lift_ok, List.length_cons, List.length_nil, Nat.reduceAdd, Nat.reduceLeDiff, ↓reduceIte, if_true, if_false, Bool.false_eq_true, ev_raise, and_self, List.map_cons, List.map_nil, List.replicate, List.cons_append, List.nil_append, Nat.reduceSub, eq_ss, decide_eq_true (se.mpr z0), if_true, Bool.not_true]
    · have q0 := decide_eq_false (fun y => z0 (se.mp y))
      by_cases z : sm ∈ ks3
      · refine ⟨false, ?_, fun z => nomatch z⟩
        simp only [EVa, List.getElem?_cons_zero, List.getElem?_cons_succ, List.set_cons_zero, List.set_cons_succ, bind_ok, lift_ok, List.length_cons, List.length_nil, Nat.reduceAdd, Nat.reduceLeDiff, ↓reduceIte, if_true, if_false, Bool.false_eq_true, ev_raise, and_self, List.map_cons, List.map_nil, List.replicate, List.cons_append, List.nil_append, Nat.reduceSub, eq_ss, q0, i2, decide_eq_true z, if_true, Bool.not_true, Bool.not_false]
      · by_cases z2 : ks3.length < many
        · refine ⟨decide ((t : Int) = 2), ?_, fun _ => ⟨z, z2, gs z0⟩⟩
          simp only [EVa, List.getElem?_cons_zero, List.getElem?_cons_succ, List.set_cons_zero, List.set_cons_succ, bind_ok, lift_ok, List.length_cons, List.length_nil, Nat.reduceAdd, Nat.reduceLeDiff, ↓reduceIte, if_true, if_false, Bool.false_eq_true, ev_raise, and_self, List.map_cons, List.map_nil, List.replicate, List.cons_append, List.nil_append, Nat.reduceSub, eq_ss, q0, i2, decide_eq_false z, if_true, Bool.not_true, Bool.not_false, l2, lt_ii, decide_eq_true (show ((ks3.length : Nat) : Int) < (many : Int) by omega), eq_ii]
        · refine ⟨false, ?_, fun z => nomatch z⟩
          simp only [EVa, List.getElem?_cons_zero, List.getElem?_cons_succ, List.set_cons_zero, List.set_cons_succ, bind_ok, lift_ok, List.length_cons, List.length_nil, Nat.reduceAdd, Nat.reduceLeDiff, ↓reduceIte, if_true, if_false, Bool.false_eq_true, ev_raise, and_self, List.map_cons, List.map_nil, List.replicate, List.cons_append, List.nil_append, Nat.reduceSub, eq_ss, q0, i2, decide_eq_false z, if_true, Bool.not_true, Bool.not_false, l2, lt_ii, decide_eq_false (show ¬ ((ks3.length : Nat) : Int) < (many : Int) by omega)]
  obtain ⟨b, t1, t2⟩ := t0
  obtain ⟨ks', A', p1, p2, p3, p4, p5, p6, p7⟩ := put_if (R := [some (.ref h), some (.int (many : Int)), some (.str AS), some (.ref c), some (.str sm), some (.int (t : Int)), x6, x7, x8]) (j := 4) (k := sm) h1 h2 hs hA K hm rfl rfl t1 t2
  exact ⟨ks', A', p1, p2, p3, p4, p5, p6, p7 (.inr h0)⟩
theorem keys_turn {ks : List Str} {t : Nat} {x6 x7 x8 : Option D} (h1 : c ≠ h) (h2 : c ≠ q) (hs : HS h q A) (hA : A[c]? = some (.lst (ksD ks))) (K : Kd many ks) (h0 : 0 < many) (hm : many ≤ 63) (hst : stem.length ≤ 13) (hsg : ∀ z ∈ stem, z ∈ SG.cps.toList) :
    ∃ ks' A' x6' x7' x8', b_keysN [some (.ref h), some (.int (many : Int)), some (.str AS), some (.ref c), some (.str (sT stem)), some (.int (t : Int)), x6, x7, x8] A =
      .nx [some (.ref h), some (.int (many : Int)), some (.str AS), some (.ref c), some (.str (sT stem)), some (.int (t : Int)), x6', x7', x8'] A' ∧ A'.length = A.length ∧ HS h q A' ∧ (∀ n, n ≠ h → n ≠ q → n ≠ c → A'[n]? = A[n]?) ∧ A'[c]? = some (.lst (ksD ks')) ∧ Kd many ks' ∧ ks' ≠ [] := by
  have gs : stem ≠ [] → KG (sT stem) := fun z => ⟨by rw [sT_list]; exact z, by rw [sT_list]; omega, fun z hz => by rw [sT_list] at hz; exact hsg z hz⟩
  obtain ⟨n, key, A2, e, gk, dr⟩ := turn_draw (many := many) (c := c) (t := t) (x6 := x6) (x7 := x7) (x8 := x8) hs hst hsg
  have hA2 : A2[c]? = some (.lst (ksD ks)) := (dr.2.2 c h1 h2).trans hA
  obtain ⟨ks3, A3, c21, c22, c23, c24, c25, c26, c27⟩ := turn_key (t := t) (n := n) (x4 := some (.str (sT stem))) (x8 := x8) h1 h2 dr.2.1 hA2 K h0 hm gk
  obtain ⟨ks4, A4, c31, c32, c33, c34, c35, c36, c37⟩ := turn_stem (t := t) (x6 := some (.int (n : Int))) (x7 := some (.str key)) (x8 := x8) h1 h2 c23 c25 c26 c27 hm gs
  refine ⟨ks4, A4, some (.int (n : Int)), some (.str key), x8, ?_, c32.trans (c22.trans dr.1), c33, fun n a b z => (c34 n a b z).trans ((c24 n a b z).trans (dr.2.2 n a b)), c35, c36, c37⟩
  unfold b_keysN
  rw [e, seq_nx c21]
  exact c31
theorem keys_go {iv : ItV} {all : List D} (hit : ∀ A, itemsOf A iv = some all) (h1 : c ≠ h) (h2 : c ≠ q) (h0 : 0 < many) (hm : many ≤ 63) (hst : stem.length ≤ 13) (hsg : ∀ z ∈ stem, z ∈ SG.cps.toList) : ∀ (ts : List Nat) (ks : List Str) (A : AH) (x5 x6 x7 x8 : Option D), HS h q A → A[c]? = some (.lst (ksD ks)) → Kd many ks →
    ∃ ks' A' x5' x6' x7' x8', forGo iv all (.nm 5) b_keysN (ts.map fun t : Nat => .int (t : Int)) [some (.ref h), some (.int (many : Int)), some (.str AS), some (.ref c), some (.str (sT stem)), x5, x6, x7, x8] A =
      .nx [some (.ref h), some (.int (many : Int)), some (.str AS), some (.ref c), some (.str (sT stem)), x5', x6', x7', x8'] A' ∧ A'.length = A.length ∧ HS h q A' ∧ (∀ n, n ≠ h → n ≠ q → n ≠ c → A'[n]? = A[n]?) ∧ A'[c]? = some (.lst (ksD ks')) ∧ Kd many ks' ∧ (ks ≠ [] ∨ ts ≠ [] → ks' ≠ [])
  | [], ks, A, x5, x6, x7, x8, hs, hA, hk => ⟨ks, A, x5, x6, x7, x8, for_nil (hit A), rfl, hs, (fun _ _ _ _ => rfl), hA, hk, fun h => h.elim id fun z => absurd rfl z⟩
  | t :: ts, ks, A, x5, x6, x7, x8, hs, hA, hk => by
    obtain ⟨ks1, A1, y6, y7, y8, e1, l1, s1, k1, a1, d1, z1⟩ := keys_turn (t := t) (x6 := x6) (x7 := x7) (x8 := x8) h1 h2 hs hA hk h0 hm hst hsg
    obtain ⟨ks2, A2, u5, u6, u7, u8, e2, l2, s2, k2, a2, d2, z2⟩ := keys_go hit h1 h2 h0 hm hst hsg ts ks1 A1 (some (.int (t : Int))) y6 y7 y8 s1 a1 d1
    refine ⟨ks2, A2, u5, u6, u7, u8, ?_, l2.trans l1, s2, fun n a b z => (k2 n a b z).trans (k1 n a b z), a2, d2, fun _ => z2 (.inl z1)⟩
    rw [List.map_cons, for_nx (ρ1 := [some (.ref h), some (.int (many : Int)), some (.str AS), some (.ref c), some (.str (sT stem)), some (.int (t : Int)), x6, x7, x8]) (hit A) rfl e1]
    exact e2
/-- keys, ascending -/
structure Ks (many : Nat) (ks : List Str) : Prop where
  st : ks.Pairwise sLt
  gk : ∀ k ∈ ks, KG k
  ln : ks.length ≤ many
  ne : ks ≠ []
theorem keysN_ok (hs : HS h q A) (h0 : 0 < many) (hm : many ≤ 63) : ∃ ks A', keysN [.ref h, .int (many : Int)] A = .ok (.lst (ksD ks)) A' ∧ A'.length = A.length + 1 ∧ HS h q A' ∧ (∀ n, n < A.length → n ≠ h → n ≠ q → A'[n]? = A[n]?) ∧ Ks many ks := by
  have hlt := hs_lt hs
  have hs0 : HS h q (A ++ [.lst (ksD [])]) := hs_push hs _
  obtain ⟨d, hd, A1, e1, d1⟩ := of_lst (xs := [.int 0, .int 0, .int 1, .int 2, .int 9, .int 13]) hs0 (by simp) (by simp)
  obtain ⟨n, rfl, n3⟩ : ∃ n : Nat, d = .int (n : Int) ∧ n ≤ 13 := by
    simp only [List.mem_cons, List.not_mem_nil, or_false] at hd
    rcases hd with rfl | rfl | rfl | rfl | rfl | rfl
    · exact ⟨0, rfl, by decide⟩
    · exact ⟨0, rfl, by decide⟩
    · exact ⟨1, rfl, by decide⟩
    · exact ⟨2, rfl, by decide⟩
    · exact ⟨9, rfl, by decide⟩
    · exact ⟨13, rfl, by decide⟩
  have me1 : mCallF 2 (pickM anyN) (mCons (mVar 0) (mCons (mLst (mCons (mK (.int 0)) (mCons (mK (.int 0)) (mCons (mK (.int 1)) (mCons (mK (.int 2)) (mCons (mK (.int 9)) (mCons (mK (.int 13)) (mNil)))))))) (mNil))) [some (.ref h), some (.int (many : Int)), some (.str AS), some (.ref A.length), none, none, none, none, none] (A ++ [.lst (ksD [])]) = .ok (.int (n : Int)) A1 := by
    simp only [EVa, List.getElem?_cons_zero, List.getElem?_cons_succ, List.set_cons_zero, List.set_cons_succ, bind_ok, lift_ok, List.length_cons, List.length_nil, Nat.reduceAdd, Nat.reduceLeDiff, ↓reduceIte, if_true, if_false, Bool.false_eq_true, ev_raise, and_self, List.map_cons, List.map_nil, List.replicate, List.cons_append, List.nil_append, Nat.reduceSub, e1]
  obtain ⟨stem, A2, e2, lc, mc, d2⟩ := signs_draw (i := 2) (j := 5) (ρ := [some (.ref h), some (.int (many : Int)), some (.str AS), some (.ref A.length), none, none, none, none, none]) (A0 := A ++ [.lst (ksD [])]) d1.2.1 me1 (by omega) rfl rfl (by simp) (by decide) (by decide)
  have dr := d1.trans d2
  have l2 : A2.length = A.length + 1 := by rw [dr.1]; simp
  have hA2 : A2[A.length]? = some (.lst (ksD [])) := by
    rw [dr.2.2 _ (by omega) (by omega)]
    simp
  have hit : ∀ B : AH, itemsOf B (.rng 0 ((3 * many : Nat) : Int)) = some ((List.range (3 * many)).map fun t : Nat => D.int (t : Int)) := fun B => by
    show some ((List.range (((3 * many : Nat) : Int) - 0).toNat).map fun i => D.int (0 + (i : Nat))) = _
    rw [show (((3 * many : Nat) : Int) - 0).toNat = 3 * many by omega]
    simp
  obtain ⟨ks, A', y5, y6, y7, y8, e4, l4, s4, k4, a4, K4, z4⟩ := keys_go (c := A.length) (many := many) (stem := stem) hit (by omega) (by omega) h0 hm (by omega) mc (List.range (3 * many)) [] A2 none none none none dr.2.1 hA2 ⟨List.nodup_nil, fun _ h => (nomatch h), Nat.zero_le _⟩
  have hk0 : ks ≠ [] := z4 (.inr fun z => by have := congrArg List.length z; rw [List.length_range, List.length_nil] at this; omega)
  have sp := srtS_perm ks
  refine ⟨srtS ks, A', ?_, by rw [l4, l2], s4, fun n n1 n2 n3 => ?_, ⟨?_, fun k hk => K4.gk k (sp.mem_iff.mp hk), by rw [sp.length_eq]; exact K4.ln, fun z => hk0 (by have := sp.length_eq; rw [z] at this; exact List.length_eq_zero_iff.mp this.symm)⟩⟩
  · have so : fSortS [.ref A.length] A' = .ok (.lst (ksD (srtS ks))) A' := by
      unfold fSortS
      have i0 : isTup (.ref A.length) = false := rfl
      have so2 : strsOf (ksD ks) = some ks := strsOf_map ks
      simp only [i0, Bool.false_eq_true, if_false, seqOf_ref a4, so2, show ks.length < 64 from Nat.lt_of_le_of_lt K4.ln (by omega), if_true]
      rfl
    have mm : fMulA (.int 3) (.int (many : Int)) A2 = .ok (.int ((3 * many : Nat) : Int)) A2 := by
      simp only [fMulA, show CMul 3 (many : Int) from .inl ⟨by decide, by decide⟩, if_true]
      rw [show (3 : Int) * (many : Int) = ((3 * many : Nat) : Int) by omega]
    unfold keysN
    refine fun_rt ?_
    refine (seq_nx (ρ1 := [some (.ref h), some (.int (many : Int)), some (.str AS), some (.ref A.length), none, none, none, none, none]) (A1 := A ++ [.lst (ksD [])]) ?_).trans ?_
    · simp only [EVa, List.getElem?_cons_zero, List.getElem?_cons_succ, List.set_cons_zero, List.set_cons_succ, bind_ok, lift_ok, List.length_cons, List.length_nil, Nat.reduceAdd, Nat.reduceLeDiff, ↓reduceIte, if_true, if_false, Bool.false_eq_true, ev_raise, and_self, List.map_cons, List.map_nil, List.replicate, List.cons_append, List.nil_append, Nat.reduceSub]
      rfl
    refine (seq_nx (ρ1 := [some (.ref h), some (.int (many : Int)), some (.str AS), some (.ref A.length), some (.str (sT stem)), none, none, none, none]) (A1 := A2) ?_).trans ?_
    · rw [ev_set, e2]; rfl
    refine (seq_nx (ρ1 := [some (.ref h), some (.int (many : Int)), some (.str AS), some (.ref A.length), some (.str (sT stem)), y5, y6, y7, y8]) (A1 := A') ?_).trans ?_
    · rw [ev_for, r1_at (j := ((3 * many : Nat) : Int)) (A1 := A2) (by simp only [EVa, List.getElem?_cons_zero, List.getElem?_cons_succ, List.set_cons_zero, List.set_cons_succ, bind_ok, lift_ok, List.length_cons, List.length_nil, Nat.reduceAdd, Nat.reduceLeDiff, ↓reduceIte, if_true, if_false, Bool.false_eq_true, ev_raise, and_self, List.map_cons, List.map_nil, List.replicate, List.cons_append, List.nil_append, Nat.reduceSub, mm]) (by omega), lift_ok]
      simp only [hit]
      exact e4
    simp only [EVa, List.getElem?_cons_zero, List.getElem?_cons_succ, List.set_cons_zero, List.set_cons_succ, bind_ok, lift_ok, List.length_cons, List.length_nil, Nat.reduceAdd, Nat.reduceLeDiff, ↓reduceIte, if_true, if_false, Bool.false_eq_true, ev_raise, and_self, List.map_cons, List.map_nil, List.replicate, List.cons_append, List.nil_append, Nat.reduceSub, so]
  · rw [k4 n n2 n3 (by omega), dr.2.2 n n2 n3, List.getElem?_append_left n1]
  · have nd : (srtS ks).Nodup := sp.nodup_iff.mpr K4.nd
    exact List.Pairwise.imp₂ (fun a b h1 h2 => by
      rcases tri a b with z | z | z
      · exact z
      · exact absurd z h2
      · exact absurd z (nlt_of_le h1)) (srtS_sorted ks) nd
/-! ### things -/
end
end TR
end
section
set_option maxHeartbeats 1000000
namespace TR
open PySem PySem.Spec PyProof.Rows L2 DM
/-! ### a tree beside a plain dict -/
variable {A : AH} {h q T Kn R m : Nat} {ks : List Str} {es : List En} {ρ : DM.Env}
theorem var_at {i : Nat} {d : D} (h : ρ[i]? = some (some d)) : mVar i ρ A = .ok d A := by
  unfold mVar
  rw [h]
theorem drop_at {me : ME} {A1 : AH} {d : D} (h1 : me ρ A = .ok d A1) : mDrop me ρ A = .nx ρ A1 := by
  rw [ev_drop, h1]
  rfl
theorem drop_exc {me : ME} {A1 : AH} {C : Str} {fs : List (Str × D)} (h1 : me ρ A = .exc C fs A1) : mDrop me ρ A = .exc C fs ρ A1 := by
  rw [ev_drop, h1]
  rfl
theorem tst_at {me : ME} {A1 : AH} {k : Bool} (h1 : me ρ A = .ok (.bl k) A1) : mTst me ρ A = .ok k A1 := by
  rw [ev_tst, h1]
  rfl
theorem ret_at {me : ME} {A1 : AH} {d : D} (h1 : me ρ A = .ok d A1) : mRet me ρ A = .rt d A1 := by
  rw [ev_ret, h1]
  rfl
theorem ifs_at {mt : MT} {sa sb : MS} {A1 : AH} {k : Bool} {r : SRes} (h1 : mt ρ A = .ok k A1) (h2 : (if k = true then sa ρ A1 else sb ρ A1) = r) : mIfS mt sa sb ρ A = r := by
  rw [ev_ifs, h1]
  exact h2
theorem callK_at {n l a : Nat} {pm : List Nat} {g : List D → AH → Res D} {ms mk : MA} {A1 A2 : AH} {ds es zs : List D} {r : Res D} (h1 : ms ρ A = .ok ds A1) (h2 : mk ρ A1 = .ok es A2) (c1 : ds.length = n) (c2 : es.length = l) (hp : DM.pick pm (ds ++ es) = zs) (c3 : zs.length = a) (hg : g zs A2 = r) : mCallK n l a pm g ms mk ρ A = r := by
  rw [ev_callK, h1, bind_ok, h2, bind_ok, hp, if_pos ⟨c1, c2, c3⟩]
  exact hg
theorem sub_len : ∀ {b a : List Str}, a.Pairwise sLt → b.Pairwise sLt → (∀ x ∈ a, x ∈ b) → a.length ≤ b.length
  | [], a, _, _, h => by
    cases a with
    | nil => exact Nat.le_refl _
    | cons x as => exact absurd (h x List.mem_cons_self) (by simp)
  | y :: bs, [], _, _, _ => Nat.zero_le _
  | y :: bs, x :: as, ha, hb, h => by
    obtain ⟨h1, h2⟩ := List.pairwise_cons.mp ha
    obtain ⟨h3, h4⟩ := List.pairwise_cons.mp hb
    by_cases e : x = y
    · subst e
      have := sub_len h2 h4 fun z hz => by
        rcases List.mem_cons.mp (h z (List.mem_cons_of_mem _ hz)) with w | w
        · exact absurd (h1 z hz) (w ▸ lt_ir)
        · exact w
      rw [List.length_cons, List.length_cons]
      omega
    · have hx : x ∈ bs := by
        rcases List.mem_cons.mp (h x List.mem_cons_self) with w | w
        · exact absurd w e
        · exact w
      have yx := h3 x hx
      have := sub_len ha h4 fun z hz => by
        rcases List.mem_cons.mp (h z hz) with w | w
        · subst w
          rcases List.mem_cons.mp hz with w2 | w2
          · exact absurd w2.symm e
          · exact absurd (h1 _ w2) (lt_as yx)
        · exact w
      rw [List.length_cons]
      rw [List.length_cons] at this ⊢
      omega
structure Wd (h q T Kn R m : Nat) (ks : List Str) (es : List En) (A : AH) : Prop where
  hs : HS h q A
  tr : Tr T Kn m es A
  rw : ∃ kvs, A[R]? = some (.dk kvs) ∧ KvP kvs es (·.2)
  ne : (T ≠ h ∧ T ≠ q ∧ Kn ≠ h ∧ Kn ≠ q) ∧ (R ≠ h ∧ R ≠ q ∧ R ≠ T ∧ R ≠ Kn)
  sub : ∀ e ∈ es, e.1 ∈ ks ∧ Th e.2
  K : Ks 30 ks
theorem Wd.len (w : Wd h q T Kn R m ks es A) : es.length ≤ 30 := by
  have := sub_len (a := es.map (·.1)) (b := ks) (by rw [List.pairwise_map]; exact w.tr.srt) w.K.st fun x hx => by
    obtain ⟨e, he, rfl⟩ := List.mem_map.mp hx
    exact (w.sub e he).1
  rw [List.length_map] at this
  exact Nat.le_trans this w.K.ln
theorem Wd.gk (w : Wd h q T Kn R m ks es A) : ∀ e ∈ es, KG e.1 := fun e he => w.K.gk _ (w.sub e he).1
theorem Wd.drawn (w : Wd h q T Kn R m ks es A) {B : AH} (d : Drawn h q A B) : Wd h q T Kn R m ks es B := by
  obtain ⟨kvs, a, b⟩ := w.rw
  obtain ⟨⟨n1, n2, n3, n4⟩, n5, n6, n7, n8⟩ := w.ne
  exact ⟨d.2.1, w.tr.keep (d.2.2 T n1 n2) (d.2.2 Kn n3 n4), ⟨kvs, (d.2.2 R n5 n6).trans a, b⟩, w.ne, w.sub, w.K⟩
/-- what stays when the world goes on -/
def Kp (h q T Kn R : Nat) (A B : AH) : Prop := B.length = A.length ∧ ∀ n, n ≠ h → n ≠ q → n ≠ T → n ≠ Kn → n ≠ R → B[n]? = A[n]?
theorem Kp.trans {A B C : AH} (a : Kp h q T Kn R A B) (b : Kp h q T Kn R B C) : Kp h q T Kn R A C := ⟨b.1.trans a.1, fun n h1 h2 h3 h4 h5 => (b.2 n h1 h2 h3 h4 h5).trans (a.2 n h1 h2 h3 h4 h5)⟩
theorem Kp.refl : Kp h q T Kn R A A := ⟨rfl, fun _ _ _ _ _ _ => rfl⟩
theorem Kp.of {B : AH} (d : Drawn h q A B) : Kp h q T Kn R A B := ⟨d.1, fun n h1 h2 _ _ _ => d.2.2 n h1 h2⟩
theorem Wd.sorted (w : Wd h q T Kn R m ks es A) : fSortD [.ref R] A = .ok (.lst (ksD (es.map (·.1)))) A := by
  obtain ⟨kvs, a, b⟩ := w.rw
  rw [b.sorted w.tr.srt a (by have := w.len; omega)]
  unfold ksD
  rw [List.map_map]
  rfl
theorem Wd.get (w : Wd h q T Kn R m ks es A) {e : En} (he : e ∈ es) : fDGet (.ref R) (.str e.1) A = .ok e.2 A := by
  obtain ⟨kvs, a, b⟩ := w.rw
  refine dget_run a rfl ?_
  rw [b.val w.tr.srt, getE_of w.tr.srt he]
  rfl
end TR
end
section
set_option maxHeartbeats 1000000
namespace K67
open PySem PySem.Spec PyProof.Rows L2 DM TR ST
variable {A : AH} {ρ : DM.Env}
/-! ### small rules -/
theorem cons_at {me : ME} {ms : MA} {A1 A2 : AH} {d : D} {ds : List D} (h1 : me ρ A = .ok d A1) (h2 : ms ρ A1 = .ok ds A2) : mCons me ms ρ A = .ok (d :: ds) A2 := by
  rw [ev_cons, h1, bind_ok, h2, bind_ok]
theorem call_at {g : List D → AH → Res D} {ms : MA} {A1 : AH} {ds : List D} {r : Res D} (h1 : ms ρ A = .ok ds A1) (h2 : g ds A1 = r) : mCall g ms ρ A = r := by
  rw [ev_call, h1, bind_ok, h2]
theorem nil_at : mNil ρ A = .ok [] A := rfl
theorem and_yes {mt mu : MT} {A1 : AH} {r : Res Bool} (h1 : mt ρ A = .ok true A1) (h2 : mu ρ A1 = r) : mAnd mt mu ρ A = r := by
  rw [ev_and, h1, bind_ok, if_pos rfl, h2]
theorem and_no {mt mu : MT} {A1 : AH} (h1 : mt ρ A = .ok false A1) : mAnd mt mu ρ A = .ok false A1 := by
  rw [ev_and, h1, bind_ok]
  rfl
theorem and_at {mt mu : MT} {A1 : AH} {a b : Bool} (h1 : mt ρ A = .ok a A1) (h2 : mu ρ A1 = .ok b A1) : mAnd mt mu ρ A = .ok (a && b) A1 := by
  cases a with
  | true => exact and_yes h1 (by rw [h2]; rfl)
  | false => exact and_no h1
theorem or_at {mt mu : MT} {A1 : AH} {a b : Bool} (h1 : mt ρ A = .ok a A1) (h2 : a = false → mu ρ A1 = .ok b A1) : mOr mt mu ρ A = .ok (a || b) A1 := by
  rw [ev_or, h1, bind_ok]
  cases a with
  | true => rfl
  | false =>
    rw [if_neg (by decide), h2 rfl]
    rfl
theorem ev_r2 {ms : MA} : mR2 ms ρ A = (ms ρ A).bind fun ds A1 => (match ds with
  | [.int i, .int j] => if -(2 ^ 62) ≤ i ∧ i < 2 ^ 62 ∧ -(2 ^ 62) ≤ j ∧ j < 2 ^ 62 then .ok (.rng i j) A1 else .no
  | _ => .no) := id rfl
theorem ev_zipR {ms : MA} : mZipR ms ρ A = (ms ρ A).bind fun ds A1 => (match ds with
  | [d, e] => (match seqOf A1 d, seqOf A1 e with
    | some xs, some ys => .ok (.zp d e) A1
    | _, _ => .no)
  | _ => .no) := id rfl
theorem for_at {iv : ItV} {all : List D} {mi : MI} {tg : Tg} {sb : MS} {A1 : AH} {r : SRes} (h1 : mi ρ A = .ok iv A1) (h2 : itemsOf A1 iv = some all) (h3 : forGo iv all tg sb all ρ A1 = r) : mFor mi tg sb ρ A = r := by
  rw [ev_for, h1, lift_ok, h2]
  exact h3
theorem sq_at {me : ME} {A1 : AH} {d : D} {xs : List D} (h : me ρ A = .ok d A1) (hs : seqOf A1 d = some xs) : mSq me ρ A = .ok (.sq d) A1 := by
  rw [ev_sq, h, bind_ok, hs]
theorem zipR_at {ms : MA} {A1 : AH} {d e : D} {xs ys : List D} (h : ms ρ A = .ok [d, e] A1) (h1 : seqOf A1 d = some xs) (h2 : seqOf A1 e = some ys) : mZipR ms ρ A = .ok (.zp d e) A1 := by
  rw [ev_zipR, h, bind_ok]
  simp only [h1, h2]
theorem r2_at {ms : MA} {A1 : AH} {i j : Int} (h : ms ρ A = .ok [.int i, .int j] A1) (hz : -(2 ^ 62) ≤ i ∧ i < 2 ^ 62 ∧ -(2 ^ 62) ≤ j ∧ j < 2 ^ 62) : mR2 ms ρ A = .ok (.rng i j) A1 := by
  rw [ev_r2, h, bind_ok]
  exact if_pos hz
theorem tup_at {ms : MA} {A1 : AH} {ds : List D} (h : ms ρ A = .ok ds A1) (hl : ds.length ≤ 1000) : mTup ms ρ A = .ok (.tup ds) A1 := by
  rw [ev_tup, h, bind_ok, if_pos hl]
theorem met_at {g2 : Nat → List D → AH → Res D} {mo : ME} {ms : MA} {A1 A2 : AH} {n : Nat} {xs ds : List D} {r : Res D} (ho : mo ρ A = .ok (.ref n) A1) (hn : A1[n]? = some (.lst xs)) (ha : ms ρ A1 = .ok ds A2) (hg : g2 n ds A2 = r) : mMet g2 mo ms ρ A = r := by
  rw [ev_met, ho, bind_ok]
  simp only [hn, ha, bind_ok, hg]
/-! ### rows as data -/
abbrev Vn := Int × D
def vnD (v : Vn) : D := .tup [.int v.1, v.2]
def vnsD (r : List Vn) : List D := r.map vnD
def oD : Option Int → D
  | none => .non
  | some l => .int l
def spD (p : Spn) : D := .tup [.int p.1, oD p.2]
def spO : List Vn → List Spn
  | [] => []
  | [v] => [(v.1, none)]
  | v :: w :: r => (v.1, some (w.1 - 1)) :: spO (w :: r)
def spanD (r : List Vn) : List D := (spO r).map spD
def lastD (r : List Vn) : List D := (r.drop 1).map (fun v => D.int (v.1 - 1)) ++ [.non]
def spF (d : D) : D := match d with
  | .qtup [.tup [x, _], y] => .tup [x, y]
  | d => d
theorem span_zip : ∀ r : List Vn, (zipD (vnsD r) (lastD r)).map spF = spanD r
  | [] => rfl
  | [v] => rfl
  | v :: w :: r => by
    have ih := span_zip (w :: r)
    show spF (.qtup [vnD v, .int (w.1 - 1)]) :: (zipD (vnsD (w :: r)) (lastD (w :: r))).map spF = _
    rw [ih]
    rfl
theorem spO_len : ∀ r : List Vn, (spO r).length = r.length
  | [] => rfl
  | [_] => rfl
  | v :: w :: r => by
    show (spO (w :: r)).length + 1 = _
    rw [spO_len (w :: r)]; rfl
theorem zip_lastD_mem : ∀ (r : List Vn) (x : D), x ∈ zipD (vnsD r) (lastD r) → ∃ v y, x = .qtup [vnD v, y]
  | r, x, h => by
    obtain ⟨i, hi⟩ := List.mem_iff_getElem?.mp h
    obtain ⟨a, b, rfl, h1, _⟩ := zip_at _ _ _ _ hi
    obtain ⟨v, _, rfl⟩ := List.mem_map.mp (List.mem_of_getElem? h1)
    exact ⟨v, b, rfl⟩
theorem vns_len (r : List Vn) : (vnsD r).length = r.length := List.length_map ..
theorem spans_ok {r : List Vn} (hl : r.length ≤ 6) : m_spans [.tup (vnsD r)] A = .ok (.tup (spanD r)) A := by
  have e1 : fSl (.tup (vnsD r)) (some 1) none A = .ok (.tup (vnsD (r.drop 1))) A := by
    simp only [fSl]
    rw [show (1 : Int) = ((1 : Nat) : Int) from rfl, cut_from]
    unfold vnsD
    rw [List.map_drop]
  have c1 : compGo (.sq (.tup (vnsD (r.drop 1)))) (vnsD (r.drop 1)) (.nm 2) mYes (mOp fSub (mOp fIx (mVar 2) (mK (.int 0))) (mK (.int 1))) [some (.tup (vnsD r)), none, none, none] (vnsD (r.drop 1)) [] A = .ok ((r.drop 1).map fun v => D.int (v.1 - 1)) A := by
    rw [comp_pure (p := fun _ => true) (f := fun d => match d with | .tup [.int i, _] => D.int (i - 1) | d => d) rfl _ _ fun x hx => ?_]
    · rw [filter_true, List.nil_append]
      unfold vnsD
      rw [List.map_map]
      rfl
    · obtain ⟨v, _, rfl⟩ := List.mem_map.mp hx
      exact ⟨_, rfl, rfl, fun _ => rfl⟩
  have c2 : compGo (.zp (.tup (vnsD r)) (.lst (lastD r))) (zipD (vnsD r) (lastD r)) (.tp [.nm 2, .nm 3]) mYes (mTup (mCons (mOp fIx (mVar 2) (mK (.int 0))) (mCons (mVar 3) (mNil)))) [some (.tup (vnsD r)), some (.lst (lastD r)), none, none] (zipD (vnsD r) (lastD r)) [] A = .ok (spanD r) A := by
    rw [comp_pure (p := fun _ => true) (f := spF) rfl _ _ fun x hx => ?_]
    · rw [filter_true, List.nil_append, span_zip]
    · obtain ⟨v, y, rfl⟩ := zip_lastD_mem r x hx
      exact ⟨_, rfl, rfl, fun _ => rfl⟩
  have z1 : (vnsD (r.drop 1)).length ≤ 16777216 := by rw [vns_len, List.length_drop]; omega
  have z2 : (zipD (vnsD r) (lastD r)).length ≤ 16777216 := by rw [zip_length, vns_len]; omega
  have a1 : fAdd (.lst ((r.drop 1).map fun v => D.int (v.1 - 1))) (.lst [.non]) A = .ok (.lst (lastD r)) A := if_pos (by simp; omega)
  unfold m_spans
  refine fun_rt ?_
  refine (seq_nx (by simp only [EVa, List.getElem?_cons_zero, List.getElem?_cons_succ, List.set_cons_zero, List.set_cons_succ, bind_ok, lift_ok, List.length_cons, List.length_nil, Nat.reduceAdd, Nat.reduceLeDiff, ↓reduceIte, if_true, if_false, Bool.false_eq_true, ev_lc, wipeD, seqOf, itemsOf, e1, z1, c1, a1, List.map_cons, List.map_nil, List.replicate, List.cons_append, List.nil_append, Nat.reduceSub]; rfl)).trans ?_
  simp only [EVa, List.getElem?_cons_zero, List.getElem?_cons_succ, List.set_cons_zero, List.set_cons_succ, bind_ok, lift_ok, List.length_cons, List.length_nil, Nat.reduceAdd, Nat.reduceLeDiff, ↓reduceIte, if_true, if_false, Bool.false_eq_true, ev_lc, ev_zipR, wipeD, seqOf, itemsOf, z2, c2]
  rfl
theorem sees_ok {t : Int} {p : Spn} : m_sees [.int t, spD p] A = .ok (.bl (see t p)) A := by
  obtain ⟨s, o⟩ := p
  unfold m_sees
  refine fun_rt (ret_at ?_)
  have h1 : mOp fLe (mOp fIx (mVar 1) (mK (.int 0))) (mVar 0) [some (.int t), some (spD (s, o))] A = .ok (.bl (decide (s ≤ t))) A := op_at (op_at (var_at rfl) rfl (ix_tup rfl)) (var_at rfl) le_ii
  rw [show ([D.int t, spD (s, o)].map some ++ List.replicate (2 - [D.int t, spD (s, o)].length) none) = [some (.int t), some (spD (s, o))] from rfl, ev_andV, h1, bind_ok]
  have i1 : mOp fIx (mVar 1) (mK (.int 1)) [some (.int t), some (spD (s, o))] A = .ok (oD o) A := op_at (var_at rfl) rfl (ix_tup rfl)
  by_cases hs : s ≤ t
  · rw [decide_eq_true hs]
    cases o with
    | none =>
      have h2 : mOp (fIsN false) (mOp fIx (mVar 1) (mK (.int 1))) (mK .non) [some (.int t), some (spD (s, none))] A = .ok (.bl true) A := op_at i1 rfl rfl
      simp only [ev_orV, h2, bind_ok]
      simp [see, hs]
    | some l =>
      have h2 : mOp (fIsN false) (mOp fIx (mVar 1) (mK (.int 1))) (mK .non) [some (.int t), some (spD (s, some l))] A = .ok (.bl false) A := op_at i1 rfl rfl
      have h3 : mOp fLe (mVar 0) (mOp fIx (mVar 1) (mK (.int 1))) [some (.int t), some (spD (s, some l))] A = .ok (.bl (decide (t ≤ l))) A := op_at (var_at rfl) i1 le_ii
      simp only [ev_orV, h2, bind_ok, h3]
      simp [see, hs]
  · rw [decide_eq_false hs]
    simp [see, hs]
/-! ### new values -/
def isV (v : Vn) : Bool := !isNon v.2
def rowZ (r : List Vn) : List (Vn × Spn) := r.zip (spO r)
def rowSp (r : List Vn) : List Spn := ((rowZ r).filter fun z => isV z.1).map (·.2)
def zD (z : Vn × Spn) : D := .qtup [vnD z.1, spD z.2]
theorem zip_zD : ∀ (r : List Vn) (s : List Spn), zipD (vnsD r) (s.map spD) = (r.zip s).map zD
  | [], _ => by simp [vnsD, zipD]
  | _ :: _, [] => by simp [vnsD, zipD]
  | v :: r, p :: s => by
    show zipD (vnD v :: vnsD r) (spD p :: s.map spD) = _
    rw [zipD, zip_zD r s]
    rfl
noncomputable def nvB : MS := (mIfS (mAnd (mTst (mOp (fIsN true) (mOp fIx (mVar 6) (mK (.int 1))) (mK .non)))
    (mAnd (mTst (mCallF 2 m_sees (mCons (mVar 2) (mCons (mVar 7) (mNil))))) (mOr (mTst (mOp (fIsN false) (mVar 1) (mK .non))) (mTst (mOp fLt (mVar 1) (mOp fIx (mVar 7) (mK (.int 0)))))))) (mAug 3 fAug
    (mK (.int 1))) (mNext))
def nvT (b : Option Int) (t : Int) (z : Vn × Spn) : Bool := isV z.1 && (see t z.2 && past b z.2)
theorem nv_turn {r0 k5 k4 : Option D} {b : Option Int} {t : Int} {n : Nat} {z : Vn × Spn} :
    nvB [r0, some (oD b), some (.int t), some (.int (n : Int)), k4, k5, some (vnD z.1), some (spD z.2)] A = .nx [r0, some (oD b), some (.int t), some (.int ((n + if nvT b t z = true then 1 else 0 : Nat) : Int)), k4, k5, some (vnD z.1), some (spD z.2)] A := by
  obtain ⟨v, p⟩ := z
  unfold nvB
  have t1 : mTst (mOp (fIsN true) (mOp fIx (mVar 6) (mK (.int 1))) (mK .non)) [r0, some (oD b), some (.int t), some (.int (n : Int)), k4, k5, some (vnD v), some (spD p)] A = .ok (isV v) A :=
    tst_at (op_at (op_at (var_at rfl) rfl (ix_tup rfl)) rfl rfl)
  have t2 : mTst (mCallF 2 m_sees (mCons (mVar 2) (mCons (mVar 7) (mNil)))) [r0, some (oD b), some (.int t), some (.int (n : Int)), k4, k5, some (vnD v), some (spD p)] A = .ok (see t p) A :=
    tst_at (callF_at (cons_at (var_at rfl) (cons_at (var_at rfl) nil_at)) rfl sees_ok)
  have t3 : mOr (mTst (mOp (fIsN false) (mVar 1) (mK .non))) (mTst (mOp fLt (mVar 1) (mOp fIx (mVar 7) (mK (.int 0))))) [r0, some (oD b), some (.int t), some (.int (n : Int)), k4, k5, some (vnD v), some (spD p)] A = .ok (past b p) A := by
    cases b with
    | none => exact or_at (a := true) (b := true) (tst_at (op_at (var_at rfl) rfl rfl)) (fun h => nomatch h)
    | some x => exact or_at (a := false) (b := decide (x < p.1)) (tst_at (op_at (var_at rfl) rfl rfl)) fun _ => tst_at (op_at (var_at rfl) (op_at (var_at rfl) rfl (ix_tup rfl)) lt_ii)
  refine ifs_at (and_at t1 (and_at t2 t3)) ?_
  show (if nvT b t (v, p) = true then _ else _) = _
  cases h : nvT b t (v, p) with
  | true =>
    rw [if_pos rfl, if_pos rfl]
    rfl
  | false =>
    rw [if_neg (by decide), if_neg (by decide)]
    rfl
theorem nv_in {iv : ItV} {all : List D} {r0 k5 k4 : Option D} {b : Option Int} {t : Int} (hit : itemsOf A iv = some all) : ∀ (L : List (Vn × Spn)) (n : Nat) (x6 x7 : Option D), ∃ y6 y7,
    forGo iv all (.tp [.nm 6, .nm 7]) nvB (L.map zD) [r0, some (oD b), some (.int t), some (.int (n : Int)), k4, k5, x6, x7] A
      = .nx [r0, some (oD b), some (.int t), some (.int ((n + L.countP (nvT b t) : Nat) : Int)), k4, k5, y6, y7] A
  | [], n, x6, x7 => ⟨x6, x7, for_nil hit⟩
  | z :: L, n, x6, x7 => by
    obtain ⟨y6, y7, e⟩ := nv_in (r0 := r0) (k5 := k5) (k4 := k4) (b := b) (t := t) hit L (n + if nvT b t z = true then 1 else 0) (some (vnD z.1)) (some (spD z.2))
    refine ⟨y6, y7, (for_nx (ρ1 := [r0, some (oD b), some (.int t), some (.int (n : Int)), k4, k5, some (vnD z.1), some (spD z.2)]) hit rfl nv_turn).trans ?_⟩
    have c : n + List.countP (nvT b t) (z :: L) = (n + if nvT b t z = true then 1 else 0) + List.countP (nvT b t) L := by
      rw [List.countP_cons]
      omega
    rw [e, c]
theorem row_count {b : Option Int} {t : Int} (r : List Vn) : (rowZ r).countP (nvT b t) = newN (rowSp r) b t := by
  unfold newN rowSp
  rw [List.countP_map, List.countP_filter]
  refine List.countP_congr fun z _ => ?_
  show nvT b t z = true ↔ _
  simp [nvT]
  exact and_comm
abbrev Rw := Str × List Vn
def rwD (w : Rw) : D := .tup [.str w.1, .tup (vnsD w.2)]
def rowsD (ws : List Rw) : D := .tup (ws.map rwD)
def allSp (ws : List Rw) : List Spn := ws.flatMap fun w => rowSp w.2
structure OkR (ws : List Rw) : Prop where
  few : ws.length ≤ 63
  low : ∀ w ∈ ws, w.2.length ≤ 6
noncomputable def nvO : MS := (mFor (mZipR (mCons (mVar 5) (mCons (mCallF 1 m_spans (mCons (mVar 5) (mNil))) (mNil)))) (.tp [.nm 6, .nm 7]) nvB)
theorem nv_row {r0 : Option D} {b : Option Int} {t : Int} {n : Nat} {w : Rw} {k4 x6 x7 : Option D} (hw : w.2.length ≤ 6) : ∃ y6 y7,
    nvO [r0, some (oD b), some (.int t), some (.int (n : Int)), k4, some (.tup (vnsD w.2)), x6, x7] A = .nx [r0, some (oD b), some (.int t), some (.int ((n + newN (rowSp w.2) b t : Nat) : Int)), k4, some (.tup (vnsD w.2)), y6, y7] A := by
  have hit : itemsOf A (.zp (.tup (vnsD w.2)) (.tup (spanD w.2))) = some ((rowZ w.2).map zD) := by
    simp only [itemsOf, seqOf]
    unfold spanD
    rw [zip_zD]
    rfl
  obtain ⟨y6, y7, e⟩ := nv_in (r0 := r0) (k5 := some (.tup (vnsD w.2))) (k4 := k4) (b := b) (t := t) hit (rowZ w.2) n x6 x7
  rw [row_count] at e
  refine ⟨y6, y7, ?_⟩
  unfold nvO
  exact for_at (zipR_at (cons_at (var_at rfl) (cons_at (callF_at (cons_at (var_at rfl) nil_at) rfl (spans_ok hw)) nil_at)) rfl rfl) hit e
theorem nv_out {iv : ItV} {all : List D} {r0 : Option D} {b : Option Int} {t : Int} (hit : itemsOf A iv = some all) : ∀ (L : List Rw) (n : Nat) (x4 x5 x6 x7 : Option D), (∀ w ∈ L, w.2.length ≤ 6) → ∃ y4 y5 y6 y7,
    forGo iv all (.tp [.nm 4, .nm 5]) nvO (L.map rwD) [r0, some (oD b), some (.int t), some (.int (n : Int)), x4, x5, x6, x7] A
      = .nx [r0, some (oD b), some (.int t), some (.int ((n + newN (allSp L) b t : Nat) : Int)), y4, y5, y6, y7] A
  | [], n, x4, x5, x6, x7, _ => ⟨x4, x5, x6, x7, for_nil hit⟩
  | w :: L, n, x4, x5, x6, x7, h => by
    obtain ⟨u6, u7, e1⟩ := nv_row (A := A) (r0 := r0) (b := b) (t := t) (n := n) (w := w) (k4 := some (.str w.1)) (x6 := x6) (x7 := x7) (h w List.mem_cons_self)
    obtain ⟨y4, y5, y6, y7, e⟩ := nv_out (r0 := r0) (b := b) (t := t) hit L (n + newN (rowSp w.2) b t) (some (.str w.1)) (some (.tup (vnsD w.2))) u6 u7 fun v hv => h v (List.mem_cons_of_mem _ hv)
    refine ⟨y4, y5, y6, y7, (for_nx (ρ1 := [r0, some (oD b), some (.int t), some (.int (n : Int)), some (.str w.1), some (.tup (vnsD w.2)), x6, x7]) hit rfl e1).trans ?_⟩
    have c : newN (allSp (w :: L)) b t = newN (rowSp w.2) b t + newN (allSp L) b t := by
      unfold newN allSp
      rw [List.flatMap_cons, List.countP_append]
    rw [e, c, Nat.add_assoc]
noncomputable abbrev newX := m_new_values m_spans m_sees
theorem new_ok {ws : List Rw} {b : Option Int} {t : Int} (o : OkR ws) : newX [rowsD ws, oD b, .int t] A = .ok (.int ((newN (allSp ws) b t : Nat) : Int)) A := by
  obtain ⟨y4, y5, y6, y7, e⟩ := nv_out (A := A) (iv := .sq (rowsD ws)) (all := ws.map rwD) (r0 := some (rowsD ws)) (b := b) (t := t) rfl ws 0 none none none none o.low
  rw [Nat.zero_add] at e
  unfold newX m_new_values
  refine fun_rt ?_
  refine (seq_nx (ρ1 := [some (rowsD ws), some (oD b), some (.int t), some (.int ((0 : Nat) : Int)), none, none, none, none]) (A1 := A) rfl).trans ?_
  refine (seq_nx (ρ1 := [some (rowsD ws), some (oD b), some (.int t), some (.int ((newN (allSp ws) b t : Nat) : Int)), y4, y5, y6, y7]) (A1 := A) ?_).trans (ret_at (var_at rfl))
  exact for_at (sq_at (var_at rfl) rfl) rfl e
/-! ### values kept -/
noncomputable def vkB : MS := (mSeq (mAug 3 fAug (mCallF 3 newX (mCons (mVar 0) (mCons (mVar 4) (mCons (mVar 5) (mNil)))))) (mSet 4 (mVar 5)))
theorem vk_go {iv : ItV} {all : List D} {x1 x2 : Option D} {ws : List Rw} (o : OkR ws) (hit : itemsOf A iv = some all) : ∀ (L : List Int) (n : Nat) (b : Option Int) (x5 : Option D), ∃ y4 y5,
    forGo iv all (.nm 5) vkB (L.map D.int) [some (rowsD ws), x1, x2, some (.int (n : Int)), some (oD b), x5] A = .nx [some (rowsD ws), x1, x2, some (.int ((n + kept (allSp ws) b L : Nat) : Int)), y4, y5] A
  | [], n, b, x5 => ⟨some (oD b), x5, for_nil hit⟩
  | t :: L, n, b, x5 => by
    obtain ⟨y4, y5, e⟩ := vk_go (x1 := x1) (x2 := x2) o hit L (n + newN (allSp ws) b t) (some t) (some (.int t))
    refine ⟨y4, y5, (for_nx (ρ1 := [some (rowsD ws), x1, x2, some (.int (n : Int)), some (oD b), some (.int t)]) (ρ2 := [some (rowsD ws), x1, x2, some (.int ((n + newN (allSp ws) b t : Nat) : Int)), some (oD (some t)), some (.int t)]) (A2 := A) hit rfl ?_).trans ?_⟩
    · unfold vkB
      have c : mCallF 3 newX (mCons (mVar 0) (mCons (mVar 4) (mCons (mVar 5) (mNil)))) [some (rowsD ws), x1, x2, some (.int (n : Int)), some (oD b), some (.int t)] A = .ok (.int ((newN (allSp ws) b t : Nat) : Int)) A :=
        callF_at (cons_at (var_at rfl) (cons_at (var_at rfl) (cons_at (var_at rfl) nil_at))) rfl (new_ok o)
      refine (seq_nx (ρ1 := [some (rowsD ws), x1, x2, some (.int ((n + newN (allSp ws) b t : Nat) : Int)), some (oD b), some (.int t)]) (A1 := A) ?_).trans (set_at (var_at rfl))
      rw [ev_aug]
      simp only [List.getElem?_cons_succ, List.getElem?_cons_zero, c, bind_ok, fAug, lift_ok, List.set_cons_succ, List.set_cons_zero]
      rw [Int.natCast_add]
    · rw [e]
      show _ = SRes.nx [_, _, _, some (.int ((n + (newN (allSp ws) b t + kept (allSp ws) (some t) L) : Nat) : Int)), _, _] A
      rw [Nat.add_assoc]
noncomputable abbrev keptX := m_values_kept newX
theorem kept_ok {ws : List Rw} {S : List Int} {now : Int} (o : OkR ws) (hS : S.length ≤ 100) : keptX [rowsD ws, .tup (S.map D.int), .int now] A = .ok (.int ((kept (allSp ws) none (S ++ [now]) : Nat) : Int)) A := by
  obtain ⟨y4, y5, e⟩ := vk_go (A := A) (iv := .sq (.tup ((S ++ [now]).map D.int))) (all := (S ++ [now]).map D.int) (x1 := some (.tup (S.map D.int))) (x2 := some (.int now)) o rfl (S ++ [now]) 0 none none
  rw [Nat.zero_add] at e
  have a1 : fAdd (.tup (S.map D.int)) (.tup [.int now]) A = .ok (.tup ((S ++ [now]).map D.int)) A := by
    rw [List.map_append]
    exact if_pos (by simp; omega)
  have a2 : mOp fAdd (mVar 1) (mTup (mCons (mVar 2) (mNil))) [some (rowsD ws), some (.tup (S.map D.int)), some (.int now), some (.int ((0 : Nat) : Int)), some (oD none), none] A = .ok (.tup ((S ++ [now]).map D.int)) A :=
    op_at (var_at rfl) (tup_at (cons_at (var_at rfl) nil_at) (by simp)) a1
  unfold keptX m_values_kept
  refine fun_rt ?_
  refine (seq_nx (ρ1 := [some (rowsD ws), some (.tup (S.map D.int)), some (.int now), some (.int ((0 : Nat) : Int)), some (oD none), none]) (A1 := A) rfl).trans ?_
  refine (seq_nx (ρ1 := [some (rowsD ws), some (.tup (S.map D.int)), some (.int now), some (.int ((kept (allSp ws) none (S ++ [now]) : Nat) : Int)), y4, y5]) (A1 := A) ?_).trans (ret_at (var_at rfl))
  exact for_at (sq_at a2 rfl) rfl e
end K67
end
section
set_option maxHeartbeats 1000000
namespace K67
open PySem PySem.Spec PyProof.Rows L2 DM TR ST
variable {A : AH} {ρ : DM.Env}
/-! ### choices as data -/
def chD (x : Cho) : D := .tup [.int (x.1 : Int), .tup (x.2.map D.int)]
def chPy (x : Cho) : PyData := .tuple [.int (x.1 : Int), .tuple (x.2.map .int)]
theorem toPy_ch (x : Cho) : toPy (chD x) = some (chPy x) := by
  unfold chD chPy
  simp only [toPy, toPys, toPys_ints, Option.map_some]
theorem toPys_ch : ∀ X : List Cho, toPys (X.map chD) = some (X.map chPy)
  | [] => rfl
  | x :: X => by
    rw [List.map_cons, toPys, toPy_ch, toPys_ch X]
    rfl
theorem alike_ints : ∀ xs ys : List Int, PySem.W.alikeAll (xs.map .int) (ys.map .int) = true
  | [], _ => by rw [List.map_nil, PySem.W.alikeAll]
  | _ :: _, [] => rfl
  | x :: xs, y :: ys => by
    rw [List.map_cons, List.map_cons, PySem.W.alikeAll, alike_ints xs ys]
    rfl
theorem alike_tup (xs ys : List Int) : PySem.W.alike (.tuple (xs.map .int)) (.tuple (ys.map .int)) = true := by
  rw [PySem.W.alike]
  exact alike_ints xs ys
theorem alike_ch (x y : Cho) : PySem.W.alike (chPy x) (chPy y) = true := by
  unfold chPy
  rw [PySem.W.alike, PySem.W.alikeAll, PySem.W.alikeAll, alike_tup]
  rfl
theorem eqv_ints : ∀ xs ys : List Int, PyData.eqvAll (xs.map .int) (ys.map .int) = decide (xs = ys)
  | [], [] => rfl
  | [], _ :: _ => rfl
  | _ :: _, [] => rfl
  | x :: xs, y :: ys => by
    simp only [List.map_cons, PyData.eqvAll, PyData.eqv, eqv_ints xs ys]
    rw [Bool.eq_iff_iff]
    simp
theorem lt_ch (x y : Cho) : PySem.W.dataLt (chPy x) (chPy y) = decide (Lx x y) := by
  unfold chPy
  rw [PySem.W.dataLt_pair (by rfl) (alike_tup _ _), PySem.W.dataLt_tuple, PySem.W.dataLt_int]
  have e : PySem.W.rowLt (x.2.map .int) (y.2.map .int) = decide (x.2 < y.2) := PySem.W.dataLt_ints x.2 y.2
  unfold PySem.W.rowLt at e
  rw [e]
  simp only [PyData.eqv, eqv_ints]
  by_cases h : x.1 = y.1
  · by_cases k : x.2 = y.2
    · have : ¬ Lx x y := by
        rintro (z | ⟨_, z⟩)
        · omega
        · exact ll_irr _ (k ▸ z)
      simp [h, k, this]
    · simp [h, k, Lx]
  · have h2 : ¬ (x.1 : Int) = (y.1 : Int) := by omega
    have h3 : ((x.1 : Int) == (y.1 : Int)) = false := beq_eq_false_iff_ne.mpr h2
    simp [Lx, h, h3]
theorem depth_ints : ∀ xs : List Int, PyData.depthAll (xs.map .int) = 0
  | [] => by rw [List.map_nil, PyData.depthAll]
  | x :: xs => by rw [List.map_cons, PyData.depthAll, depth_ints xs, PyData.depth]; rfl
theorem depth_ch (x : Cho) : (chPy x).depth ≤ 2 := by
  unfold chPy
  simp only [PyData.depth, PyData.depthAll, depth_ints]
  omega
theorem depth_chs : ∀ X : List Cho, PyData.depthAll (X.map chPy) ≤ 2
  | [] => by rw [List.map_nil, PyData.depthAll]; omega
  | x :: X => by
    have a := depth_ch x
    have b := depth_chs X
    rw [List.map_cons, PyData.depthAll]
    omega
theorem ltD_ch {x y : Cho} : fLtD (chD x) (chD y) A = .ok (.bl (decide (Lx x y))) A := by
  have d := depth_ch x
  unfold fLtD
  rw [toPyA_of (toPy_ch x), toPyA_of (toPy_ch y)]
  simp only [lt_ch]
  rw [if_pos ⟨alike_ch x y, rfl, by omega⟩]
theorem arg_least (X : List Cho) (f : Nat → Nat → Bool) (hf : ∀ i j, i < X.length → j < X.length → f i j = decide (Lx (X.getD i (0, [])) (X.getD j (0, [])))) :
    ∀ k, k < X.length → argBest f k ≤ k ∧ ∀ j, j ≤ k → ¬ Lx (X.getD j (0, [])) (X.getD (argBest f k) (0, []))
  | 0, h => ⟨Nat.le_refl _, fun j hj => by
    have : j = 0 := by omega
    subst this
    exact lx_irr _⟩
  | k + 1, h => by
    obtain ⟨h1, h2⟩ := arg_least X f hf k (by omega)
    unfold argBest
    have e := hf (k + 1) (argBest f k) h (by omega)
    split
    · rename_i z
      rw [e] at z
      refine ⟨Nat.le_refl _, fun j hj q => ?_⟩
      by_cases hk : j = k + 1
      · rw [hk] at q
        exact lx_irr _ q
      · exact h2 j (by omega) (lx_trans q (of_decide_eq_true z))
    · rename_i z
      rw [e] at z
      refine ⟨by omega, fun j hj => ?_⟩
      by_cases hk : j = k + 1
      · rw [hk]
        exact fun q => z (decide_eq_true q)
      · exact h2 j (by omega)
theorem min_ch {X : List Cho} {w : Nat} (hA : A[w]? = some (.lst (X.map chD))) (h0 : X ≠ []) : ∃ x ∈ X, (∀ y ∈ X, ¬ Lx y x) ∧ fMinD [.ref w] A = .ok (chD x) A := by
  have hl : 0 < X.length := List.length_pos_iff.mpr h0
  have hf : ∀ i j, i < X.length → j < X.length → ltAt (X.map chPy) i j = decide (Lx (X.getD i (0, [])) (X.getD j (0, []))) := by
    intro i j hi hj
    unfold ltAt
    rw [← lt_ch]
    simp [List.getD_eq_getElem?_getD, List.getElem?_map, List.getElem?_eq_getElem hi, List.getElem?_eq_getElem hj]
  obtain ⟨h1, h2⟩ := arg_least X (ltAt (X.map chPy)) hf (X.length - 1) (by omega)
  generalize hb : argBest (ltAt (X.map chPy)) (X.length - 1) = b at h1 h2
  have hbl : b < X.length := by omega
  refine ⟨X.getD b (0, []), ?_, fun y hy => ?_, ?_⟩
  · rw [List.getD_eq_getElem?_getD, List.getElem?_eq_getElem hbl]
    exact List.getElem_mem hbl
  · obtain ⟨j, hj, rfl⟩ := List.mem_iff_getElem.mp hy
    have := h2 j (by omega)
    rwa [List.getD_eq_getElem?_getD, List.getElem?_eq_getElem hj] at this
  · have al : alikes (X.map chPy) = true := by
      unfold alikes
      rw [List.all_eq_true]
      intro p hp
      obtain ⟨x, _, rfl⟩ := List.mem_map.mp hp
      rw [Bool.and_eq_true, List.all_eq_true]
      refine ⟨rfl, fun q hq => ?_⟩
      obtain ⟨y, _, rfl⟩ := List.mem_map.mp hq
      exact alike_ch x y
    have dp := depth_chs X
    have i0 : isTup (.ref w) = false := rfl
    have g : (X.map chD)[argBest (ltAt (X.map chPy)) ((X.map chD).length - 1)]? = some (chD (X.getD b (0, []))) := by
      rw [List.length_map, hb, List.getElem?_map, List.getElem?_eq_getElem hbl, List.getD_eq_getElem?_getD, List.getElem?_eq_getElem hbl]
      rfl
    unfold fMinD
    simp only [i0, Bool.false_eq_true, if_false, seqOf_ref hA, toPys_ch, al, true_and, show PyData.depthAll (X.map chPy) ≤ 32 by omega, if_true, g]
end K67
end
section
set_option maxHeartbeats 1000000
namespace K67
open PySem PySem.Spec PyProof.Rows L2 DM TR ST
variable {A : AH} {ρ : DM.Env} {ws : List Rw} {ts : List Int} {now : Int}
/-! ### ranges -/
def upL : Nat → Int → List D
  | 0, _ => []
  | k + 1, i => .int i :: upL k (i + 1)
theorem rng_up : ∀ (k : Nat) (i : Int), ((List.range k).map fun j : Nat => D.int (i + (j : Int))) = upL k i
  | 0, _ => rfl
  | k + 1, i => by
    rw [List.range_succ_eq_map, List.map_cons, List.map_map, upL, ← rng_up k (i + 1)]
    congr 1
    · simp
    · refine List.map_congr_left fun j _ => ?_
      show D.int (i + ((j + 1 : Nat) : Int)) = _
      congr 1
      omega
theorem up_items {lo hi : Int} {k : Nat} (h : hi - lo = (k : Int)) (B : AH) : itemsOf B (.rng lo hi) = some (upL k lo) := by
  show some ((List.range (hi - lo).toNat).map fun i : Nat => D.int (lo + (i : Int))) = _
  rw [h, Int.toNat_natCast, rng_up]
def told (ts : List Int) : Nat → Option Int
  | 0 => none
  | i + 1 => ts[i]?
noncomputable def toldE : ME := (mIf (mTst (mOp fLt (mVar 8) (mK (.int 0)))) (mK .non) (mOp fIx (mVar 1) (mVar 8)))
theorem told_at {i : Nat} (h1 : ρ[1]? = some (some (.tup (ts.map D.int)))) (h8 : ρ[8]? = some (some (.int ((i : Int) - 1)))) (hi : i ≤ ts.length) : toldE ρ A = .ok (oD (told ts i)) A := by
  unfold toldE
  rw [ev_if]
  have t1 : mTst (mOp fLt (mVar 8) (mK (.int 0))) ρ A = .ok (decide ((i : Int) - 1 < 0)) A := tst_at (op_at (var_at h8) rfl lt_ii)
  rw [t1, bind_ok]
  cases i with
  | zero => rfl
  | succ i =>
    rw [if_neg (by rw [decide_eq_true_iff]; omega)]
    refine op_at (var_at h1) (var_at h8) ?_
    rw [show ((i + 1 : Nat) : Int) - 1 = (i : Int) by omega]
    show _ = Res.ok (oD ts[i]?) A
    rw [List.getElem?_eq_getElem (by omega)]
    exact DM.ix_tup (TR.atI_nat (by rw [List.getElem?_map, List.getElem?_eq_getElem (by omega)]; rfl))
/-! ### the dict of the first row -/
abbrev ky (i : Nat) : Key := .inl ((i : Int) - 1)
def At (d : Nat) (A B : AH) : Prop := B.length = A.length ∧ ∀ n, n ≠ d → B[n]? = A[n]?
theorem At.refl {d : Nat} : At d A A := ⟨rfl, fun _ _ => rfl⟩
theorem At.trans {d : Nat} {B C : AH} (a : At d A B) (b : At d B C) : At d A C := ⟨b.1.trans a.1, fun n h => (b.2 n h).trans (a.2 n h)⟩
theorem At.set {d : Nat} {o u : AO} (h : A[d]? = some u) : At d A (A.set d o) ∧ (A.set d o)[d]? = some o :=
  have p := Put.set (o := o) h
  ⟨⟨p.1, p.2.2⟩, p.2.1⟩
def DS (ts : List Int) (ws : List Rw) (now : Int) (c : Nat) (kvs : List (Key × D)) (g : Nat → Cho) : Prop :=
  ∀ i, i ≤ ts.length - c → valD kvs (ky i) = some (chD (g i)) ∧ Best (allSp ws) now (told ts i) (ts.drop i) c (g i)
noncomputable def cellE : ME := (mTup (mCons (mCallF 3 newX (mCons (mVar 0) (mCons toldE (mCons (mVar 2) (mNil))))) (mCons (mTup (mNil)) (mNil))))
theorem cell_at {i : Nat} (o : OkR ws) (h0 : ρ[0]? = some (some (rowsD ws))) (h1 : ρ[1]? = some (some (.tup (ts.map D.int)))) (h2 : ρ[2]? = some (some (.int now))) (h8 : ρ[8]? = some (some (.int ((i : Int) - 1)))) (hi : i ≤ ts.length) :
    cellE ρ A = .ok (chD (newN (allSp ws) (told ts i) now, [])) A := by
  unfold cellE
  exact tup_at (cons_at (callF_at (cons_at (var_at h0) (cons_at (told_at h1 h8 hi) (cons_at (var_at h2) nil_at))) rfl (new_ok o)) (cons_at (tup_at nil_at (Nat.zero_le _)) nil_at)) (by simp)
theorem ky_ne {i j : Nat} (h : i ≠ j) : ky i ≠ ky j := by
  intro z
  injection z with z
  omega
theorem dc_init {iv : ItV} {all : List D} {d : Nat} (o : OkR ws) (h0 : ρ[0]? = some (some (rowsD ws))) (h1 : ρ[1]? = some (some (.tup (ts.map D.int)))) (h2 : ρ[2]? = some (some (.int now))) (hl : 8 < ρ.length) (hit : ∀ B, itemsOf B iv = some all) :
    ∀ (k i : Nat) (kvs : List (Key × D)) (A : AH), i + k ≤ ts.length + 1 → kvs.length + k < 1000 → A[d]? = some (.dk kvs) → ∃ kvs' A', dcGo iv all (.nm 8) mYes (mVar 8) cellE ρ d (upL k ((i : Int) - 1)) A = .ok () A' ∧ At d A A' ∧ A'[d]? = some (.dk kvs') ∧
      kvs'.length ≤ kvs.length + k ∧ ∀ j : Nat, valD kvs' (ky j) = if i ≤ j ∧ j < i + k then some (chD (newN (allSp ws) (told ts j) now, [])) else valD kvs (ky j)
  | 0, i, kvs, A, _, _, hd => by
    refine ⟨kvs, A, ?_, At.refl, hd, Nat.le_refl _, fun j => ?_⟩
    · unfold upL dcGo
      rw [if_pos (hit A)]
    · rw [if_neg (by omega)]
  | k + 1, i, kvs, A, hi, hk, hd => by
    obtain ⟨s1, s2⟩ := At.set (o := .dk (putKD kvs (ky i) (chD (newN (allSp ws) (told ts i) now, [])))) hd
    have pl := putKD_len (kvs := kvs) (a := ky i) (x := chD (newN (allSp ws) (told ts i) now, []))
    obtain ⟨kvs', A', e, a1, a2, a3, a4⟩ := dc_init o h0 h1 h2 hl hit k (i + 1) _ _ (by omega) (by omega) s2
    refine ⟨kvs', A', ?_, s1.trans a1, a2, by omega, fun j => ?_⟩
    · have g : ∀ m, m ≠ 8 → (ρ.set 8 (some (.int ((i : Int) - 1))))[m]? = ρ[m]? := fun m hm => List.getElem?_set_ne (Ne.symm hm)
      have g8 : (ρ.set 8 (some (.int ((i : Int) - 1))))[8]? = some (some (.int ((i : Int) - 1))) := List.getElem?_set_self hl
      have ce : cellE (ρ.set 8 (some (.int ((i : Int) - 1)))) A = .ok (chD (newN (allSp ws) (told ts i) now, [])) A := cell_at o ((g 0 (by decide)).trans h0) ((g 1 (by decide)).trans h1) ((g 2 (by decide)).trans h2) g8 (by omega)
      have kv : mVar 8 (ρ.set 8 (some (.int ((i : Int) - 1)))) A = .ok (.int ((i : Int) - 1)) A := var_at g8
      unfold upL dcGo
      rw [if_pos (hit A)]
      have ko : keyOf (.int ((i : Int) - 1)) = some (ky i) := rfl
      simp only [ev_nm, mYes, kv, ce, hd, ko]
      rw [if_pos (by omega), ← e]
      congr 2
      omega
    · rw [a4 j, valD_put]
      by_cases z : j = i
      · subst z
        rw [if_neg (by omega), if_pos rfl, if_pos (by omega)]
      · rw [if_neg (Ne.symm (ky_ne z))]
        by_cases w : i + 1 ≤ j ∧ j < i + 1 + k
        · rw [if_pos w, if_pos (by omega)]
        · rw [if_neg w, if_neg (by omega)]
/-! ### the ways on -/
noncomputable def wB : MS := (mSeq (mAsg (.tp [.nm 12, .nm 13]) (mOp fDGet (mVar 5) (mVar 11))) (mDrop (mMet fApp (mVar 10) (mCons (mTup (mCons (mOp fAdd (mCallF 3 newX (mCons (mVar 0)
    (mCons (mVar 9) (mCons (mOp fIx (mVar 1) (mVar 11)) (mNil))))) (mVar 12)) (mCons (mOp fAdd (mTup (mCons (mOp fIx (mVar 1) (mVar 11)) (mNil))) (mVar 13)) (mNil)))) (mNil)))))
theorem w_turn {x3 x4 x6 x7 x8 x12 x13 : Option D} {b : Option Int} {d w i : Nat} {t : Int} {x : Cho} {W : List Cho} {kvs : List (Key × D)} (o : OkR ws) (hd : A[d]? = some (.dk kvs)) (hv : valD kvs (.inl (i : Int)) = some (chD x)) (hx : x.2.length ≤ 100)
    (hw : A[w]? = some (.lst (W.map chD))) (hW : W.length < 1000) (ht : ts[i]? = some t) :
    wB [some (rowsD ws), some (.tup (ts.map D.int)), some (.int now), x3, x4, some (.ref d), x6, x7, x8, some (oD b), some (.ref w), some (.int (i : Int)), x12, x13] A
      = .nx [some (rowsD ws), some (.tup (ts.map D.int)), some (.int now), x3, x4, some (.ref d), x6, x7, x8, some (oD b), some (.ref w), some (.int (i : Int)), some (.int (x.1 : Int)), some (.tup (x.2.map D.int))]
        (A.set w (.lst ((W ++ [(newN (allSp ws) b t + x.1, t :: x.2)]).map chD))) := by
  have s1 : mAsg (.tp [.nm 12, .nm 13]) (mOp fDGet (mVar 5) (mVar 11)) [some (rowsD ws), some (.tup (ts.map D.int)), some (.int now), x3, x4, some (.ref d), x6, x7, x8, some (oD b), some (.ref w), some (.int (i : Int)), x12, x13] A
      = .nx [some (rowsD ws), some (.tup (ts.map D.int)), some (.int now), x3, x4, some (.ref d), x6, x7, x8, some (oD b), some (.ref w), some (.int (i : Int)), some (.int (x.1 : Int)), some (.tup (x.2.map D.int))] A := by
    have z : mOp fDGet (mVar 5) (mVar 11) [some (rowsD ws), some (.tup (ts.map D.int)), some (.int now), x3, x4, some (.ref d), x6, x7, x8, some (oD b), some (.ref w), some (.int (i : Int)), x12, x13] A = .ok (chD x) A := op_at (var_at rfl) (var_at rfl) (dget_run hd rfl hv)
    rw [ev_asg, z, lift_ok]
    rfl
  have ix : ∀ y12 y13, mOp fIx (mVar 1) (mVar 11) [some (rowsD ws), some (.tup (ts.map D.int)), some (.int now), x3, x4, some (.ref d), x6, x7, x8, some (oD b), some (.ref w), some (.int (i : Int)), y12, y13] A = .ok (.int t) A := fun _ _ =>
    op_at (var_at rfl) (var_at rfl) (DM.ix_tup (TR.atI_nat (by rw [List.getElem?_map, ht]; rfl)))
  unfold wB
  refine (seq_nx s1).trans ?_
  have a1 : fAdd (.tup [.int t]) (.tup (x.2.map D.int)) A = .ok (.tup ((t :: x.2).map D.int)) A := if_pos (by simp; omega)
  have ap : fApp w [chD (newN (allSp ws) b t + x.1, t :: x.2)] A = .ok .non (A.set w (.lst ((W ++ [(newN (allSp ws) b t + x.1, t :: x.2)]).map chD))) := by
    rw [List.map_append]
    unfold fApp
    simp only [hw]
    rw [if_pos (by rw [List.length_map]; omega)]
    rfl
  have ds : mTup (mCons (mOp fAdd (mCallF 3 newX (mCons (mVar 0) (mCons (mVar 9) (mCons (mOp fIx (mVar 1) (mVar 11)) (mNil))))) (mVar 12)) (mCons (mOp fAdd (mTup (mCons (mOp fIx (mVar 1) (mVar 11)) (mNil))) (mVar 13)) (mNil)))
      [some (rowsD ws), some (.tup (ts.map D.int)), some (.int now), x3, x4, some (.ref d), x6, x7, x8, some (oD b), some (.ref w), some (.int (i : Int)), some (.int (x.1 : Int)), some (.tup (x.2.map D.int))] A = .ok (chD (newN (allSp ws) b t + x.1, t :: x.2)) A := by
    have e : chD (newN (allSp ws) b t + x.1, t :: x.2) = .tup [.int (((newN (allSp ws) b t : Nat) : Int) + (x.1 : Int)), .tup ((t :: x.2).map D.int)] := by
      unfold chD
      rw [Int.natCast_add]
    rw [e]
    refine tup_at (cons_at (A1 := A) ?_ (cons_at ?_ nil_at)) (by simp)
    · refine op_at (callF_at (cons_at (var_at rfl) (cons_at (var_at rfl) (cons_at (ix _ _) nil_at))) rfl (new_ok o)) (var_at rfl) add_ii
    · exact op_at (tup_at (cons_at (ix _ _) nil_at) (by simp)) (var_at rfl) a1
  exact drop_at (met_at (var_at rfl) hw (cons_at ds nil_at) ap)
theorem w_go {iv : ItV} {all : List D} {x3 x4 x6 x7 x8 : Option D} {b : Option Int} {d w c : Nat} {kvs : List (Key × D)} {g : Nat → Cho} (o : OkR ws) (hts : ts.length ≤ 64) (hc : c < ts.length) (hdw : w ≠ d) (hds : DS ts ws now c kvs g) (hit : ∀ B, itemsOf B iv = some all) :
    ∀ (k i : Nat) (W : List Cho) (A : AH) (x11 x12 x13 : Option D), i + k = ts.length - c → W.length + k < 1000 → A[d]? = some (.dk kvs) → A[w]? = some (.lst (W.map chD)) → ∃ y11 y12 y13 A',
      forGo iv all (.nm 11) wB (upL k (i : Int)) [some (rowsD ws), some (.tup (ts.map D.int)), some (.int now), x3, x4, some (.ref d), x6, x7, x8, some (oD b), some (.ref w), x11, x12, x13] A
        = .nx [some (rowsD ws), some (.tup (ts.map D.int)), some (.int now), x3, x4, some (.ref d), x6, x7, x8, some (oD b), some (.ref w), y11, y12, y13] A' ∧ At w A A' ∧
      A'[w]? = some (.lst ((W ++ ways (allSp ws) b c (fun _ r => g (ts.length - r.length)) (ts.drop i)).map chD))
  | 0, i, W, A, x11, x12, x13, hi, hk, hd, hw => by
    refine ⟨x11, x12, x13, A, for_nil (hit A), At.refl, ?_⟩
    rw [ways_short (by rw [List.length_drop]; omega), List.append_nil]
    exact hw
  | k + 1, i, W, A, x11, x12, x13, hi, hk, hd, hw => by
    have hlt : i < ts.length := by omega
    obtain ⟨z1, z2⟩ := hds (i + 1) (by omega)
    rw [show ky (i + 1) = .inl (i : Int) by show Sum.inl _ = _; congr 1; omega] at z1
    have hx : (g (i + 1)).2.length ≤ 100 := by rw [z2.len]; omega
    obtain ⟨s1, s2⟩ := At.set (o := .lst ((W ++ [(newN (allSp ws) b ts[i] + (g (i + 1)).1, ts[i] :: (g (i + 1)).2)]).map chD)) hw
    obtain ⟨y11, y12, y13, A', e, a1, a2⟩ := w_go (x3 := x3) (x4 := x4) (x6 := x6) (x7 := x7) (x8 := x8) (b := b) o hts hc hdw hds hit k (i + 1) (W ++ [(newN (allSp ws) b ts[i] + (g (i + 1)).1, ts[i] :: (g (i + 1)).2)]) _ (some (.int (i : Int))) (some (.int ((g (i + 1)).1 : Int))) (some (.tup ((g (i + 1)).2.map D.int))) (by omega) (by simp; omega) ((s1.2 d (Ne.symm hdw)).trans hd) s2
    refine ⟨y11, y12, y13, A', ?_, s1.trans a1, ?_⟩
    · unfold upL
      exact (for_nx (ρ1 := [some (rowsD ws), some (.tup (ts.map D.int)), some (.int now), x3, x4, some (.ref d), x6, x7, x8, some (oD b), some (.ref w), some (.int (i : Int)), x12, x13]) (hit A) rfl (w_turn o hd z1 hx hw (by omega) (List.getElem?_eq_getElem hlt))).trans e
    · rw [a2, List.drop_eq_getElem_cons hlt, show ways (allSp ws) b c (fun _ r => g (ts.length - r.length)) (ts[i] :: ts.drop (i + 1)) = (newN (allSp ws) b ts[i] + (g (i + 1)).1, ts[i] :: (g (i + 1)).2) :: ways (allSp ws) b c (fun _ r => g (ts.length - r.length)) (ts.drop (i + 1)) from ?_, List.append_assoc, List.singleton_append]
      rw [ways, if_pos (by rw [List.length_drop]; omega)]
      rw [show ts.length - (ts.drop (i + 1)).length = i + 1 by rw [List.length_drop]; omega]
/-! ### one cell -/
noncomputable def rB : MS := (mSeq (mSet 9 toldE) (mSeq (mSet 10 (mNew (mNil))) (mSeq (mFor (mR2 (mCons (mOp fAdd (mVar 8) (mK (.int 1))) (mCons (mOp fAdd (mOp fSub (mVar 4) (mVar 6)) (mK
    (.int 1))) (mNil)))) (.nm 11) wB) (mDPut (mCall fMinD
    (mCons (mVar 10) (mNil))) (mVar 7) (mVar 8)))))
theorem r_turn {x3 x9 x10 x11 x12 x13 : Option D} {d l c i : Nat} {kvs kl : List (Key × D)} {g : Nat → Cho} (o : OkR ws) (hts : ts.length ≤ 64) (hc : c < ts.length) (hi : i + c + 1 ≤ ts.length) (hdl : d ≠ l) (hds : DS ts ws now c kvs g) (hd : A[d]? = some (.dk kvs)) (hl : A[l]? = some (.dk kl)) (hkl : kl.length < 1000) :
    ∃ y9 y10 y11 y12 y13 A' x, rB [some (rowsD ws), some (.tup (ts.map D.int)), some (.int now), x3, some (.int (ts.length : Int)), some (.ref d), some (.int ((c : Int) + 1)), some (.ref l), some (.int ((i : Int) - 1)), x9, x10, x11, x12, x13] A
      = .nx [some (rowsD ws), some (.tup (ts.map D.int)), some (.int now), x3, some (.int (ts.length : Int)), some (.ref d), some (.int ((c : Int) + 1)), some (.ref l), some (.int ((i : Int) - 1)), y9, y10, y11, y12, y13] A' ∧
      A.length ≤ A'.length ∧ (∀ n, n < A.length → n ≠ l → A'[n]? = A[n]?) ∧ A'[l]? = some (.dk (putKD kl (ky i) (chD x))) ∧ Best (allSp ws) now (told ts i) (ts.drop i) (c + 1) x := by
  have ld : d < A.length := (List.getElem?_eq_some_iff.mp hd).1
  have ll : l < A.length := (List.getElem?_eq_some_iff.mp hl).1
  have hw : (A ++ [AO.lst []])[A.length]? = some (.lst (([] : List Cho).map chD)) := by simp
  have hit : ∀ B, itemsOf B (.rng ((i : Int) - 1 + 1) ((ts.length : Int) - ((c : Int) + 1) + 1)) = some (upL (ts.length - c - i) (i : Int)) := by
    intro B
    rw [show (i : Int) - 1 + 1 = (i : Int) by omega]
    exact up_items (by omega) B
  obtain ⟨y11, y12, y13, A1, e, a1, a2⟩ := w_go (x3 := x3) (x4 := some (.int (ts.length : Int))) (x6 := some (.int ((c : Int) + 1))) (x7 := some (.ref l)) (x8 := some (.int ((i : Int) - 1))) (b := told ts i) (w := A.length) o hts hc (by omega) hds hit (ts.length - c - i) i [] (A ++ [.lst []]) x11 x12 x13 (by omega) (by simp; omega) ((List.getElem?_append_left ld).trans hd) hw
  rw [List.nil_append] at a2
  have H : ∀ p t r, ts.drop i = p ++ t :: r → c ≤ r.length → Best (allSp ws) now (some t) r c (g (ts.length - r.length)) := by
    intro p t r hp hr
    have hlen : ts.length - i = p.length + (r.length + 1) := by
      have := congrArg List.length hp
      rw [List.length_drop, List.length_append, List.length_cons] at this
      exact this
    obtain ⟨_, z⟩ := hds (ts.length - r.length) (by omega)
    obtain ⟨j, hj⟩ : ∃ j, ts.length - r.length = j + 1 := ⟨ts.length - r.length - 1, by omega⟩
    have j1 : j = i + p.length := by omega
    have g1 : ts[j]? = some t := by
      rw [j1, ← List.getElem?_drop, hp]
      simp
    have g2 : ts.drop (j + 1) = r := by
      rw [show j + 1 = i + (p.length + 1) by omega, ← List.drop_drop, hp]
      simp
    rw [hj] at z ⊢
    rw [show told ts (j + 1) = ts[j]? from rfl, g1, g2] at z
    exact z
  have hne : ways (allSp ws) (told ts i) c (fun _ r => g (ts.length - r.length)) (ts.drop i) ≠ [] := by
    rw [List.drop_eq_getElem_cons (by omega), ways, if_pos (by rw [List.length_drop]; omega)]
    exact List.cons_ne_nil _ _
  obtain ⟨x, hx, hlow, hmin⟩ := min_ch a2 hne
  have B := Best.step (sub := fun _ r => g (ts.length - r.length)) H hx hlow
  have hl1 : A1[l]? = some (.dk kl) := (a1.2 l (by omega)).trans ((List.getElem?_append_left ll).trans hl)
  obtain ⟨s1, s2⟩ := At.set (o := .dk (putKD kl (ky i) (chD x))) hl1
  refine ⟨some (oD (told ts i)), some (.ref A.length), y11, y12, y13, _, x, ?_, ?_, fun n hn hnl => ?_, s2, B⟩
  · unfold rB
    refine (seq_nx (ρ1 := [some (rowsD ws), some (.tup (ts.map D.int)), some (.int now), x3, some (.int (ts.length : Int)), some (.ref d), some (.int ((c : Int) + 1)), some (.ref l), some (.int ((i : Int) - 1)), some (oD (told ts i)), x10, x11, x12, x13]) (A1 := A) (set_at (told_at rfl rfl (by omega)))).trans ?_
    refine (seq_nx (ρ1 := [some (rowsD ws), some (.tup (ts.map D.int)), some (.int now), x3, some (.int (ts.length : Int)), some (.ref d), some (.int ((c : Int) + 1)), some (.ref l), some (.int ((i : Int) - 1)), some (oD (told ts i)), some (.ref A.length), x11, x12, x13]) (A1 := A ++ [.lst []]) rfl).trans ?_
    refine (seq_nx (ρ1 := [some (rowsD ws), some (.tup (ts.map D.int)), some (.int now), x3, some (.int (ts.length : Int)), some (.ref d), some (.int ((c : Int) + 1)), some (.ref l), some (.int ((i : Int) - 1)), some (oD (told ts i)), some (.ref A.length), y11, y12, y13]) (A1 := A1) ?_).trans ?_
    · exact for_at (r2_at (cons_at (op_at (var_at rfl) rfl add_ii) (cons_at (op_at (op_at (var_at rfl) (var_at rfl) sub_ii) rfl add_ii) nil_at)) (by omega)) (hit _) e
    · exact dput_run (call_at (cons_at (var_at rfl) nil_at) hmin) (var_at rfl) (var_at rfl) hl1 rfl (by omega)
  · rw [s1.1, a1.1]
    simp
  · rw [s1.2 n hnl, a1.2 n (by omega), List.getElem?_append_left hn]
end K67
end
section
set_option maxHeartbeats 1000000
namespace K67
open PySem PySem.Spec PyProof.Rows L2 DM TR ST
variable {A : AH} {ρ : DM.Env} {ws : List Rw} {ts : List Int} {now : Int}
/-! ### a row of cells -/
theorem r_go {iv : ItV} {all : List D} {x3 : Option D} {d l c : Nat} {kvs : List (Key × D)} {g : Nat → Cho} (o : OkR ws) (hts : ts.length ≤ 64) (hc : c < ts.length) (hdl : d ≠ l) (hds : DS ts ws now c kvs g) (hit : ∀ B, itemsOf B iv = some all) :
    ∀ (k i : Nat) (kl : List (Key × D)) (A : AH) (x8 x9 x10 x11 x12 x13 : Option D), i + k = ts.length - c → kl.length + k < 1000 → A[d]? = some (.dk kvs) → A[l]? = some (.dk kl) → ∃ y8 y9 y10 y11 y12 y13 A' kl',
      forGo iv all (.nm 8) rB (upL k ((i : Int) - 1)) [some (rowsD ws), some (.tup (ts.map D.int)), some (.int now), x3, some (.int (ts.length : Int)), some (.ref d), some (.int ((c : Int) + 1)), some (.ref l), x8, x9, x10, x11, x12, x13] A
        = .nx [some (rowsD ws), some (.tup (ts.map D.int)), some (.int now), x3, some (.int (ts.length : Int)), some (.ref d), some (.int ((c : Int) + 1)), some (.ref l), y8, y9, y10, y11, y12, y13] A' ∧
      A.length ≤ A'.length ∧ (∀ n, n < A.length → n ≠ l → A'[n]? = A[n]?) ∧ A'[l]? = some (.dk kl') ∧ kl'.length ≤ kl.length + k ∧
      (∀ j, i ≤ j → j < i + k → ∃ x, valD kl' (ky j) = some (chD x) ∧ Best (allSp ws) now (told ts j) (ts.drop j) (c + 1) x) ∧ (∀ j, j < i → valD kl' (ky j) = valD kl (ky j))
  | 0, i, kl, A, x8, x9, x10, x11, x12, x13, hi, hk, hd, hl => ⟨x8, x9, x10, x11, x12, x13, A, kl, for_nil (hit A), Nat.le_refl _, fun _ _ _ => rfl, hl, Nat.le_refl _, fun j h1 h2 => absurd h2 (by omega), fun _ _ => rfl⟩
  | k + 1, i, kl, A, x8, x9, x10, x11, x12, x13, hi, hk, hd, hl => by
    have ld : d < A.length := (List.getElem?_eq_some_iff.mp hd).1
    obtain ⟨u9, u10, u11, u12, u13, A1, x, e1, b1, b2, b3, b4⟩ := r_turn (x3 := x3) (x9 := x9) (x10 := x10) (x11 := x11) (x12 := x12) (x13 := x13) (i := i) o hts hc (by omega) hdl hds hd hl (by omega)
    have pl := putKD_len (kvs := kl) (a := ky i) (x := chD x)
    obtain ⟨y8, y9, y10, y11, y12, y13, A', kl', e, a1, a2, a3, a4, a5, a6⟩ := r_go (x3 := x3) o hts hc hdl hds hit k (i + 1) (putKD kl (ky i) (chD x)) A1 (some (.int ((i : Int) - 1))) u9 u10 u11 u12 u13 (by omega) (by omega) ((b2 d ld hdl).trans hd) b3
    refine ⟨y8, y9, y10, y11, y12, y13, A', kl', ?_, by omega, fun n h1 h2 => (a2 n (by omega) h2).trans (b2 n h1 h2), a3, by omega, fun j h1 h2 => ?_, fun j hj => ?_⟩
    · unfold upL
      refine (for_nx (ρ1 := [some (rowsD ws), some (.tup (ts.map D.int)), some (.int now), x3, some (.int (ts.length : Int)), some (.ref d), some (.int ((c : Int) + 1)), some (.ref l), some (.int ((i : Int) - 1)), x9, x10, x11, x12, x13]) (hit A) rfl e1).trans ?_
      rw [← e]
      congr 2
      omega
    · by_cases hj : j = i
      · subst hj
        refine ⟨x, ?_, b4⟩
        rw [a6 j (by omega), valD_put, if_pos rfl]
      · exact a5 j (by omega) (by omega)
    · rw [a6 j (by omega), valD_put, if_neg (ky_ne (by omega))]
theorem dc_at {iv : ItV} {all : List D} {mi : MI} {tg : Tg} {tt : MT} {mk mv : ME} {vs : List Nat} {A1 A2 : AH} {ρ1 : DM.Env} (h1 : mi ρ A = .ok iv A1) (h2 : itemsOf (A1 ++ [.dk []]) iv = some all) (h3 : wipeD ρ vs = ρ1) (h4 : dcGo iv all tg tt mk mv ρ1 A1.length all (A1 ++ [.dk []]) = .ok () A2) : mDc mi tg tt mk mv vs ρ A = .ok (.ref A1.length) A2 := by
  unfold mDc
  rw [h1, bind_ok]
  simp only [h2, h3, h4, bind_ok]
/-! ### all rows -/
noncomputable def cB : MS := (mSeq (mSet 7 (mDict0)) (mSeq (mFor (mR2 (mCons (mNeg (mK (.int 1))) (mCons (mOp fSub (mVar 4) (mVar 6)) (mNil)))) (.nm 8) rB) (mSet 5 (mVar 7))))
theorem c_turn {x3 x7 x8 x9 x10 x11 x12 x13 : Option D} {d c : Nat} {kvs : List (Key × D)} {g : Nat → Cho} (o : OkR ws) (hts : ts.length ≤ 64) (hc : c < ts.length) (hds : DS ts ws now c kvs g) (hd : A[d]? = some (.dk kvs)) :
    ∃ y7 y8 y9 y10 y11 y12 y13 A' d' kvs' g', cB [some (rowsD ws), some (.tup (ts.map D.int)), some (.int now), x3, some (.int (ts.length : Int)), some (.ref d), some (.int ((c : Int) + 1)), x7, x8, x9, x10, x11, x12, x13] A
      = .nx [some (rowsD ws), some (.tup (ts.map D.int)), some (.int now), x3, some (.int (ts.length : Int)), some (.ref d'), some (.int ((c : Int) + 1)), y7, y8, y9, y10, y11, y12, y13] A' ∧
      A.length ≤ A'.length ∧ (∀ n, n < A.length → A'[n]? = A[n]?) ∧ A'[d']? = some (.dk kvs') ∧ DS ts ws now (c + 1) kvs' g' := by
  have ld : d < A.length := (List.getElem?_eq_some_iff.mp hd).1
  have hl : (A ++ [AO.dk []])[A.length]? = some (.dk []) := by simp
  have hit : ∀ B, itemsOf B (.rng (-1) ((ts.length : Int) - ((c : Int) + 1))) = some (upL (ts.length - c) (((0 : Nat) : Int) - 1)) := fun B => up_items (by omega) B
  obtain ⟨y8, y9, y10, y11, y12, y13, A1, kl', e, a1, a2, a3, a4, a5, a6⟩ := r_go (x3 := x3) (l := A.length) o hts hc (by omega) hds hit (ts.length - c) 0 [] (A ++ [.dk []]) x8 x9 x10 x11 x12 x13 (by omega) (by simp; omega) ((List.getElem?_append_left ld).trans hd) hl
  obtain ⟨g', hg⟩ : ∃ g' : Nat → Cho, ∀ j, j < ts.length - c → valD kl' (ky j) = some (chD (g' j)) ∧ Best (allSp ws) now (told ts j) (ts.drop j) (c + 1) (g' j) := by
    have : ∀ j, ∃ x : Cho, j < ts.length - c → valD kl' (ky j) = some (chD x) ∧ Best (allSp ws) now (told ts j) (ts.drop j) (c + 1) x := by
      intro j
      by_cases hj : j < ts.length - c
      · obtain ⟨x, hx⟩ := a5 j (Nat.zero_le _) (by omega)
        exact ⟨x, fun _ => hx⟩
      · exact ⟨(0, []), fun z => absurd z hj⟩
    exact Classical.skolem.mp this
  refine ⟨some (.ref A.length), y8, y9, y10, y11, y12, y13, A1, A.length, kl', g', ?_, ?_, fun n hn => ?_, a3, fun j hj => hg j (by omega)⟩
  · unfold cB
    refine (seq_nx (ρ1 := [some (rowsD ws), some (.tup (ts.map D.int)), some (.int now), x3, some (.int (ts.length : Int)), some (.ref d), some (.int ((c : Int) + 1)), some (.ref A.length), x8, x9, x10, x11, x12, x13]) (A1 := A ++ [.dk []]) rfl).trans ?_
    refine (seq_nx (ρ1 := [some (rowsD ws), some (.tup (ts.map D.int)), some (.int now), x3, some (.int (ts.length : Int)), some (.ref d), some (.int ((c : Int) + 1)), some (.ref A.length), y8, y9, y10, y11, y12, y13]) (A1 := A1) ?_).trans (set_at (var_at rfl))
    exact for_at (r2_at (cons_at (d := .int (-1)) rfl (cons_at (op_at (var_at rfl) (var_at rfl) sub_ii) nil_at)) (by omega)) (hit _) e
  · simp at a1
    omega
  · rw [a2 n (by simp; omega) (by omega), List.getElem?_append_left hn]
theorem c_go {iv : ItV} {all : List D} {x3 : Option D} (o : OkR ws) (hts : ts.length ≤ 64) (hit : ∀ B, itemsOf B iv = some all) :
    ∀ (k c d : Nat) (kvs : List (Key × D)) (g : Nat → Cho) (A : AH) (x6 x7 x8 x9 x10 x11 x12 x13 : Option D), c + k ≤ ts.length → DS ts ws now c kvs g → A[d]? = some (.dk kvs) → ∃ y6 y7 y8 y9 y10 y11 y12 y13 A' d' kvs' g',
      forGo iv all (.nm 6) cB (upL k ((c : Int) + 1)) [some (rowsD ws), some (.tup (ts.map D.int)), some (.int now), x3, some (.int (ts.length : Int)), some (.ref d), x6, x7, x8, x9, x10, x11, x12, x13] A
        = .nx [some (rowsD ws), some (.tup (ts.map D.int)), some (.int now), x3, some (.int (ts.length : Int)), some (.ref d'), y6, y7, y8, y9, y10, y11, y12, y13] A' ∧
      A.length ≤ A'.length ∧ (∀ n, n < A.length → A'[n]? = A[n]?) ∧ A'[d']? = some (.dk kvs') ∧ DS ts ws now (c + k) kvs' g'
  | 0, c, d, kvs, g, A, x6, x7, x8, x9, x10, x11, x12, x13, hc, hds, hd => ⟨x6, x7, x8, x9, x10, x11, x12, x13, A, d, kvs, g, for_nil (hit A), Nat.le_refl _, fun _ _ => rfl, hd, hds⟩
  | k + 1, c, d, kvs, g, A, x6, x7, x8, x9, x10, x11, x12, x13, hc, hds, hd => by
    obtain ⟨u7, u8, u9, u10, u11, u12, u13, A1, d1, kvs1, g1, e1, b1, b2, b3, b4⟩ := c_turn (x3 := x3) (x7 := x7) (x8 := x8) (x9 := x9) (x10 := x10) (x11 := x11) (x12 := x12) (x13 := x13) o hts (by omega) hds hd
    obtain ⟨y6, y7, y8, y9, y10, y11, y12, y13, A', d', kvs', g', e, a1, a2, a3, a4⟩ := c_go (x3 := x3) o hts hit k (c + 1) d1 kvs1 g1 A1 (some (.int ((c : Int) + 1))) u7 u8 u9 u10 u11 u12 u13 (by omega) b4 b3
    refine ⟨y6, y7, y8, y9, y10, y11, y12, y13, A', d', kvs', g', ?_, by omega, fun n hn => (a2 n (by omega)).trans (b2 n hn), a3, by rw [show c + (k + 1) = c + 1 + k by omega]; exact a4⟩
    unfold upL
    refine (for_nx (ρ1 := [some (rowsD ws), some (.tup (ts.map D.int)), some (.int now), x3, some (.int (ts.length : Int)), some (.ref d), some (.int ((c : Int) + 1)), x7, x8, x9, x10, x11, x12, x13]) (hit A) rfl e1).trans ?_
    rw [← e]
    congr 2
noncomputable abbrev thinX := m_thinned m_is_integer newX
theorem is_int_yes {i : Int} : m_is_integer [.int i] A = .ok (.bl true) A := rfl
def Gr (A B : AH) : Prop := A.length ≤ B.length ∧ ∀ n, n < A.length → B[n]? = A[n]?
theorem tup_len : fLen [.tup (ts.map D.int)] A = .ok (.int (ts.length : Int)) A := by
  simp only [fLen, seqOf, List.length_map]
theorem chk_at {d : D} {k : Bool} (hi : m_is_integer [d] A = .ok (.bl true) A) (hc : mChn fLe fLe (mK (.int 0)) (mVar 3) (mCall fLen (mCons (mVar 1) (mNil))) ρ A = .ok (.bl k) A) (h3 : ρ[3]? = some (some d)) :
    mOr (mNot (mTst (mCallF 1 m_is_integer (mCons (mVar 3) (mNil))))) (mNot (mTst (mChn fLe fLe (mK (.int 0)) (mVar 3) (mCall fLen (mCons (mVar 1) (mNil)))))) ρ A = .ok (!k) A := by
  have t1 : mTst (mCallF 1 m_is_integer (mCons (mVar 3) (mNil))) ρ A = .ok true A := tst_at (callF_at (cons_at (var_at h3) nil_at) rfl hi)
  have t2 : mTst (mChn fLe fLe (mK (.int 0)) (mVar 3) (mCall fLen (mCons (mVar 1) (mNil)))) ρ A = .ok k A := tst_at hc
  refine or_at (a := false) (b := !k) ?_ fun _ => ?_
  · rw [ev_not, t1]; rfl
  · rw [ev_not, t2]; rfl
theorem chn_at {j : Int} (h1 : ρ[1]? = some (some (.tup (ts.map D.int)))) (h3 : ρ[3]? = some (some (.int j))) : mChn fLe fLe (mK (.int 0)) (mVar 3) (mCall fLen (mCons (mVar 1) (mNil))) ρ A = .ok (.bl (decide (0 ≤ j) && decide (j ≤ (ts.length : Int)))) A := by
  have c1 : mCall fLen (mCons (mVar 1) (mNil)) ρ A = .ok (.int (ts.length : Int)) A := call_at (cons_at (var_at h1) nil_at) tup_len
  rw [ev_chn, ev_K, bind_ok, var_at h3, bind_ok, le_ii, bind_ok]
  cases h : decide (0 ≤ j) with
  | true =>
    simp only [c1, bind_ok, le_ii, Bool.true_and]
  | false => simp
theorem thin_ok {many : Nat} (o : OkR ws) (hts : ts.length ≤ 64) (hm : many ≤ ts.length) : ∃ x A', thinX [rowsD ws, .tup (ts.map D.int), .int now, .int (many : Int)] A = .ok (.tup (x.2.map D.int)) A' ∧ Gr A A' ∧ Best (allSp ws) now none ts many x := by
  have hit0 : ∀ B, itemsOf B (.rng (-1) (ts.length : Int)) = some (upL (ts.length + 1) (((0 : Nat) : Int) - 1)) := fun B => up_items (by omega) B
  have hd0 : (A ++ [AO.dk []])[A.length]? = some (.dk []) := by simp
  obtain ⟨kvs, A1, e1, b1, b2, b3, b4⟩ := dc_init (ρ := [some (rowsD ws), some (.tup (ts.map D.int)), some (.int now), some (.int (many : Int)), some (.int (ts.length : Int)), none, none, none, none, none, none, none, none, none]) (ws := ws) (ts := ts) (now := now) o rfl rfl rfl (by simp) hit0 (ts.length + 1) 0 [] (A ++ [.dk []]) (by omega) (by simp; omega) hd0
  have ds0 : DS ts ws now 0 kvs fun j => (newN (allSp ws) (told ts j) now, []) := by
    intro j hj
    refine ⟨?_, Best.nil⟩
    rw [b4 j, if_pos (by omega)]
  have hit1 : ∀ B, itemsOf B (.rng 1 ((many : Int) + 1)) = some (upL many (((0 : Nat) : Int) + 1)) := fun B => up_items (by omega) B
  obtain ⟨y6, y7, y8, y9, y10, y11, y12, y13, A2, d', kvs', g', e2, c1, c2, c3, c4⟩ := c_go (x3 := some (.int (many : Int))) o hts hit1 many 0 A.length kvs _ A1 none none none none none none none none (by omega) ds0 b2
  rw [Nat.zero_add] at c4
  obtain ⟨v0, B0⟩ := c4 0 (Nat.zero_le _)
  have l1 : A1.length = A.length + 1 := by rw [b1.1]; simp
  refine ⟨g' 0, A2, ?_, ⟨by omega, fun n hn => ?_⟩, B0⟩
  · unfold thinX m_thinned
    refine fun_rt ?_
    refine (seq_nx (ρ1 := [some (rowsD ws), some (.tup (ts.map D.int)), some (.int now), some (.int (many : Int)), none, none, none, none, none, none, none, none, none, none]) (A1 := A) ?_).trans ?_
    · refine ifs_at (chk_at (d := .int (many : Int)) (k := true) is_int_yes ?_ rfl) rfl
      rw [show (true : Bool) = (decide (0 ≤ (many : Int)) && decide ((many : Int) ≤ (ts.length : Int))) by simp; omega]
      exact chn_at rfl rfl
    refine (seq_nx (ρ1 := [some (rowsD ws), some (.tup (ts.map D.int)), some (.int now), some (.int (many : Int)), some (.int (ts.length : Int)), none, none, none, none, none, none, none, none, none]) (A1 := A) (set_at (call_at (cons_at (var_at rfl) nil_at) tup_len))).trans ?_
    refine (seq_nx (ρ1 := [some (rowsD ws), some (.tup (ts.map D.int)), some (.int now), some (.int (many : Int)), some (.int (ts.length : Int)), some (.ref A.length), none, none, none, none, none, none, none, none]) (A1 := A1) (set_at ?_)).trans ?_
    · exact dc_at (r2_at (cons_at (d := .int (-1)) rfl (cons_at (var_at rfl) nil_at)) (by omega)) (hit0 _) rfl e1
    refine (seq_nx (ρ1 := [some (rowsD ws), some (.tup (ts.map D.int)), some (.int now), some (.int (many : Int)), some (.int (ts.length : Int)), some (.ref d'), y6, y7, y8, y9, y10, y11, y12, y13]) (A1 := A2) ?_).trans ?_
    · exact for_at (r2_at (cons_at (d := .int 1) rfl (cons_at (op_at (var_at rfl) rfl add_ii) nil_at)) (by omega)) (hit1 _) e2
    · have z : mOp fDGet (mVar 5) (mNeg (mK (.int 1))) [some (rowsD ws), some (.tup (ts.map D.int)), some (.int now), some (.int (many : Int)), some (.int (ts.length : Int)), some (.ref d'), y6, y7, y8, y9, y10, y11, y12, y13] A2 = .ok (chD (g' 0)) A2 := op_at (y := .int (-1)) (var_at rfl) rfl (dget_run c3 rfl v0)
      exact ret_at (op_at (y := .int 1) z rfl (DM.ix_tup (i := 1) (v := .tup ((g' 0).2.map D.int)) rfl))
  · rw [c2 n (by omega), b1.2 n (by omega), List.getElem?_append_left hn]
theorem thin_bad {d : D} (h : m_is_integer [d] A = .ok (.bl false) A ∨ ∃ j : Int, d = .int j ∧ (j < 0 ∨ (ts.length : Int) < j)) : thinX [rowsD ws, .tup (ts.map D.int), .int now, d] A = .exc "InvalidSize" [("word", .str "many")] A := by
  unfold thinX m_thinned
  refine fun_exc (ρ1 := [some (rowsD ws), some (.tup (ts.map D.int)), some (.int now), some d, none, none, none, none, none, none, none, none, none, none]) (seq_exc (ifs_at (k := true) (A1 := A) ?_ rfl))
  rcases h with h | ⟨j, rfl, h⟩
  · have t1 : mTst (mCallF 1 m_is_integer (mCons (mVar 3) (mNil))) [some (rowsD ws), some (.tup (ts.map D.int)), some (.int now), some d, none, none, none, none, none, none, none, none, none, none] A = .ok false A := tst_at (callF_at (cons_at (var_at rfl) nil_at) rfl h)
    refine or_at (a := true) (b := true) ?_ (fun h => nomatch h)
    exact (ev_not).trans (by
      show (mTst (mCallF 1 m_is_integer (mCons (mVar 3) (mNil))) [some (rowsD ws), some (.tup (ts.map D.int)), some (.int now), some d, none, none, none, none, none, none, none, none, none, none] A).bind _ = _
      rw [t1]; rfl)
  · refine chk_at (d := .int j) (k := false) is_int_yes ?_ rfl
    have : (false : Bool) = (decide (0 ≤ j) && decide (j ≤ (ts.length : Int))) := by
      rw [eq_comm, Bool.and_eq_false_iff, decide_eq_false_iff_not, decide_eq_false_iff_not]
      omega
    rw [this]
    exact chn_at rfl rfl
theorem heard_bad {d : D} (h : m_is_integer [d] A = .ok (.bl false) A ∨ ∃ j : Int, d = .int j ∧ (j < 0 ∨ (ts.length : Int) < j)) : m__law_heard thinX [rowsD ws, .tup (ts.map D.int), .int now, d] A = .ok (.str "many") A := by
  unfold m__law_heard ms__law_heard
  refine fun_rt ?_
  refine seq_rt ?_
  refine (try_exc (C := "InvalidSize") (fs := [("word", .str "many")]) (ρ1 := [some (rowsD ws), some (.tup (ts.map D.int)), some (.int now), some d, none]) (A1 := A) ?_).trans ?_
  · exact drop_exc (callF_at (cons_at (var_at rfl) (cons_at (var_at rfl) (cons_at (var_at rfl) (cons_at (var_at rfl) nil_at)))) rfl (thin_bad h))
  · refine exc_yes (by decide) fun a dd => ?_
    rw [if_neg (by simp)]
    have e1 : mXf "InvalidSize" ["InvalidSize"] a (some dd) "word" (mVar 4) [some (rowsD ws), some (.tup (ts.map D.int)), some (.int now), some d, some (.exv a (some dd) ["word"] [.str "many"])] A = .ok (.str "many") A := xf_at rfl (by decide) rfl
    simp only [enterM, List.map_cons, List.map_nil, List.set_cons_succ, List.set_cons_zero]
    rw [ret_at e1]
    rfl
end K67
end
section
set_option maxHeartbeats 1000000
namespace K67
open PySem PySem.Spec PyProof.Rows L2 DM TR ST
variable {A : AH} {ρ : DM.Env} {ws : List Rw} {ts : List Int} {now : Int}
/-! ### small rules -/
theorem enT_at {ms : MA} {A1 : AH} {xs : List D} (h : ms ρ A = .ok [.tup xs] A1) : mEnT ms ρ A = .ok (.en (.tup xs)) A1 := by
  unfold mEnT
  rw [h, bind_ok]
theorem lc_at {chg : Bool} {iv : ItV} {all acc : List D} {mi : MI} {tg : Tg} {tt : MT} {me : ME} {vs : List Nat} {A1 A2 : AH} {ρ1 : DM.Env} (h1 : mi ρ A = .ok iv A1) (h2 : itemsOf A1 iv = some all) (hl : all.length ≤ 16777216) (h3 : wipeD ρ vs = ρ1)
    (h4 : compGo iv all tg tt me ρ1 all [] A1 = .ok acc A2) (hc : chg = false := by rfl) : mLc chg mi tg tt me vs ρ A = .ok (.lst acc) A2 := by
  subst hc
  unfold mLc
  rw [h1, bind_ok]
  simp only [h2, hl, if_true, h3, h4, bind_ok, Bool.false_eq_true, if_false]
theorem if_at {mt : MT} {ma mb : ME} {A1 : AH} {k : Bool} {r : Res D} (h1 : mt ρ A = .ok k A1) (h2 : (if k = true then ma ρ A1 else mb ρ A1) = r) : mIf mt ma mb ρ A = r := by
  rw [ev_if, h1, bind_ok, h2]
theorem lst_len {xs : List D} : fLen [.lst xs] A = .ok (.int (xs.length : Int)) A := by
  simp only [fLen, seqOf]
theorem tup_lenD {xs : List D} : fLen [.tup xs] A = .ok (.int (xs.length : Int)) A := by
  simp only [fLen, seqOf]
/-! ### places -/
def places (q : Int → Bool) : Nat → List Int → List Nat
  | _, [] => []
  | i, t :: r => if q t = true then i :: places q (i + 1) r else places q (i + 1) r
def sumq (q : Int → Bool) : List Int → Nat
  | [] => 0
  | t :: r => (if q t = true then 1 else 0) + 2 * sumq q r
theorem sum_places (q : Int → Bool) : ∀ (T : List Int) (i : Nat), ((places q i T).map fun n : Nat => (1 : Int) * 2 ^ n).sum = ((2 ^ i * sumq q T : Nat) : Int)
  | [], i => by simp [places, sumq]
  | t :: r, i => by
    have ih := sum_places q r (i + 1)
    have e : 2 ^ (i + 1) * sumq q r = 2 ^ i * (2 * sumq q r) := by rw [Nat.pow_succ, Nat.mul_assoc]
    unfold places sumq
    split
    · rw [List.map_cons, List.sum_cons, ih, e, Nat.mul_add, Nat.mul_one, Int.natCast_add, Int.one_mul]
      congr 1
    · rw [ih, e, Nat.zero_add]
theorem places_lt (q : Int → Bool) : ∀ (T : List Int) (i : Nat), ∀ n ∈ places q i T, n < i + T.length
  | [], i, n, h => by cases h
  | t :: r, i, n, h => by
    unfold places at h
    rw [List.length_cons]
    split at h
    · rcases List.mem_cons.mp h with rfl | h
      · omega
      · have := places_lt q r (i + 1) n h
        omega
    · have := places_lt q r (i + 1) n h
      omega
def enP (q : Int → Bool) (d : D) : Bool := match d with
  | .qtup [_, .int t] => q t
  | _ => false
def enI (d : D) : D := match d with
  | .qtup [i, _] => i
  | d => d
theorem places_en (q : Int → Bool) : ∀ (T : List Int) (i : Nat), ((enumD i (T.map D.int)).filter (enP q)).map enI = (places q i T).map fun n : Nat => D.int (n : Int)
  | [], _ => rfl
  | t :: r, i => by
    have ih := places_en q r (i + 1)
    rw [List.map_cons, enumD, List.filter_cons]
    show List.map enI (if q t = true then _ else _) = _
    unfold places
    split
    · rw [List.map_cons, ih]; rfl
    · exact ih
theorem en_mem {T : List Int} {i : Nat} {x : D} (h : x ∈ enumD i (T.map D.int)) : ∃ (j : Nat) (t : Int), x = .qtup [.int (j : Int), .int t] ∧ t ∈ T ∧ i ≤ j ∧ j < i + T.length := by
  obtain ⟨k, hk⟩ := List.mem_iff_getElem?.mp h
  rw [enum_at] at hk
  obtain ⟨y, hy, rfl⟩ := Option.map_eq_some_iff.mp hk
  rw [List.getElem?_map] at hy
  obtain ⟨t, ht, rfl⟩ := Option.map_eq_some_iff.mp hy
  have := (List.getElem?_eq_some_iff.mp ht).1
  exact ⟨i + k, t, rfl, List.mem_of_getElem? ht, by omega, by omega⟩
theorem cp_one {n : Nat} (h : n < 64) : CPow 1 (n : Int) := ⟨by omega, by omega, by decide⟩
theorem shl_one {n : Nat} (h : n < 64) : fShl (.int 1) (.int (n : Int)) A = .ok (.int (1 * 2 ^ n)) A := by
  simp only [fShl, fI, cp_one h, if_true, Int.toNat_natCast]
theorem ints_sum {ns : List Int} : fSum [.lst (ns.map D.int)] A = .ok (.int ns.sum) A := by
  simp only [fSum, intsOf_map]
/-! ### masks -/
def lastI (now : Int) (p : Spn) : Int := match p.2 with
  | none => now
  | some l => l
def seeq (now : Int) (p : Spn) (t : Int) : Bool := decide (p.1 ≤ t) && decide (t ≤ lastI now p)
theorem seeq_see {p : Spn} {t : Int} (h : t ≤ now) : seeq now p t = see t p := by
  obtain ⟨s, o⟩ := p
  cases o with
  | none => simp [seeq, see, lastI, h]
  | some l => rfl
theorem sumq_mask {p : Spn} : ∀ T : List Int, (∀ t ∈ T, t ≤ now) → sumq (seeq now p) T = mask p T
  | [], _ => rfl
  | t :: r, h => by
    unfold sumq mask
    rw [seeq_see (h t List.mem_cons_self), sumq_mask r fun u hu => h u (List.mem_cons_of_mem _ hu)]
theorem spO_cons (v : Vn) (s : List Vn) : spO (v :: s) = (v.1, s.head?.map fun w => w.1 - 1) :: spO s := by
  cases s with
  | nil => rfl
  | cons w r => rfl
noncomputable def mkB : MS := (mSeq (mSet 8 (mIf (mTst (mOp fLt (mOp fAdd (mVar 6) (mK (.int 1))) (mCall fLen (mCons (mVar 5) (mNil))))) (mOp fSub (mOp fIx (mOp fIx (mVar 5) (mOp fAdd (mVar 6) (mK (.int 1)))) (mK (.int 0))) (mK
    (.int 1))) (mVar 2))) (mIfS (mTst (mOp (fIsN true) (mOp fIx (mVar 7) (mK (.int 1))) (mK .non))) (mSeq (mSet 9 (mLc false (mEnT (mCons (mOp fAdd (mVar 1) (mTup (mCons (mVar 2) (mNil)))) (mNil))) (.tp
    [.nm 10, .nm 11]) (mTst (mChn fLe fLe (mOp fIx (mVar 7) (mK (.int 0))) (mVar 11) (mVar 8))) (mVar 10) [10, 11])) (mDrop (mMet fApp (mVar 3) (mCons (mCall fSum (mCons (mLc false (mSq (mVar 9)) (.nm
    10) (mYes) (mOp fShl (mK (.int 1)) (mVar 10)) [10]) (mNil))) (mNil))))) (mNext)))
theorem mk_turn {x0 x4 x8 x9 : Option D} {mk : Nat} {W : List Int} {pre s : List Vn} {v : Vn} (hts : ts.length ≤ 60) (hm : A[mk]? = some (.lst (W.map D.int))) (hW : W.length < 10000) :
    ∃ y8 y9, mkB [x0, some (.tup (ts.map D.int)), some (.int now), some (.ref mk), x4, some (.tup (vnsD (pre ++ v :: s))), some (.int (pre.length : Int)), some (vnD v), x8, x9, none, none] A
      = .nx [x0, some (.tup (ts.map D.int)), some (.int now), some (.ref mk), x4, some (.tup (vnsD (pre ++ v :: s))), some (.int (pre.length : Int)), some (vnD v), y8, y9, none, none]
        (if isV v = true then A.set mk (.lst ((W ++ [((sumq (seeq now (v.1, s.head?.map fun w => w.1 - 1)) (ts ++ [now]) : Nat) : Int)]).map D.int)) else A) := by
  have s1 : ∀ y8, mIf (mTst (mOp fLt (mOp fAdd (mVar 6) (mK (.int 1))) (mCall fLen (mCons (mVar 5) (mNil))))) (mOp fSub (mOp fIx (mOp fIx (mVar 5) (mOp fAdd (mVar 6) (mK (.int 1)))) (mK (.int 0))) (mK
    (.int 1))) (mVar 2) [x0, some (.tup (ts.map D.int)), some (.int now), some (.ref mk), x4, some (.tup (vnsD (pre ++ v :: s))), some (.int (pre.length : Int)), some (vnD v), y8, x9, none, none] A
      = .ok (.int (lastI now (v.1, s.head?.map fun w => w.1 - 1))) A := fun y8 => by
    have t1 : mTst (mOp fLt (mOp fAdd (mVar 6) (mK (.int 1))) (mCall fLen (mCons (mVar 5) (mNil)))) [x0, some (.tup (ts.map D.int)), some (.int now), some (.ref mk), x4, some (.tup (vnsD (pre ++ v :: s))), some (.int (pre.length : Int)), some (vnD v), y8, x9, none, none] A
        = .ok (decide ((pre.length : Int) + 1 < ((vnsD (pre ++ v :: s)).length : Int))) A := tst_at (op_at (op_at (var_at rfl) rfl add_ii) (call_at (cons_at (var_at rfl) nil_at) tup_lenD) lt_ii)
    rw [vns_len] at t1
    refine if_at t1 ?_
    cases s with
    | nil =>
      rw [if_neg (by simp)]
      rfl
    | cons w r =>
      rw [if_pos (by simp; omega)]
      refine op_at (op_at (x := vnD w) (op_at (var_at rfl) (op_at (var_at rfl) rfl add_ii) (DM.ix_tup ?_)) rfl (DM.ix_tup (i := 0) (v := .int w.1) rfl)) rfl sub_ii
      rw [show (pre.length : Int) + 1 = ((pre.length + 1 : Nat) : Int) by omega]
      refine TR.atI_nat ?_
      unfold vnsD
      rw [List.getElem?_map, List.getElem?_append_right (by omega), show pre.length + 1 - pre.length = 1 by omega]
      rfl
  generalize hla : lastI now (v.1, s.head?.map fun w => w.1 - 1) = la at s1
  have t2 : mTst (mOp (fIsN true) (mOp fIx (mVar 7) (mK (.int 1))) (mK .non)) [x0, some (.tup (ts.map D.int)), some (.int now), some (.ref mk), x4, some (.tup (vnsD (pre ++ v :: s))), some (.int (pre.length : Int)), some (vnD v), some (.int la), x9, none, none] A = .ok (isV v) A :=
    tst_at (op_at (op_at (var_at rfl) rfl (DM.ix_tup rfl)) rfl rfl)
  unfold mkB
  by_cases hv : isV v = true
  · rw [if_pos hv]
    have hq : seeq now (v.1, s.head?.map fun w => w.1 - 1) = fun t => decide (v.1 ≤ t) && decide (t ≤ la) := by
      funext t
      unfold seeq
      rw [hla]
    rw [hq]
    have a1 : fAdd (.tup (ts.map D.int)) (.tup [.int now]) A = .ok (.tup ((ts ++ [now]).map D.int)) A := by
      rw [List.map_append]
      exact if_pos (by simp; omega)
    have c1 : compGo (.en (.tup ((ts ++ [now]).map D.int))) (enumD 0 ((ts ++ [now]).map D.int)) (.tp [.nm 10, .nm 11]) (mTst (mChn fLe fLe (mOp fIx (mVar 7) (mK (.int 0))) (mVar 11) (mVar 8))) (mVar 10)
        [x0, some (.tup (ts.map D.int)), some (.int now), some (.ref mk), x4, some (.tup (vnsD (pre ++ v :: s))), some (.int (pre.length : Int)), some (vnD v), some (.int la), x9, none, none] (enumD 0 ((ts ++ [now]).map D.int)) [] A
        = .ok ((places (fun t => decide (v.1 ≤ t) && decide (t ≤ la)) 0 (ts ++ [now])).map fun n : Nat => D.int (n : Int)) A := by
      rw [comp_pure (p := enP fun t => decide (v.1 ≤ t) && decide (t ≤ la)) (f := enI) rfl _ _ fun x hx => ?_]
      · rw [List.nil_append, places_en]
      · obtain ⟨j, t, rfl, _, _, _⟩ := en_mem hx
        refine ⟨[x0, some (.tup (ts.map D.int)), some (.int now), some (.ref mk), x4, some (.tup (vnsD (pre ++ v :: s))), some (.int (pre.length : Int)), some (vnD v), some (.int la), x9, some (.int (j : Int)), some (.int t)], rfl, tst_at ?_, fun _ => rfl⟩
        have i0 : mOp fIx (mVar 7) (mK (.int 0)) [x0, some (.tup (ts.map D.int)), some (.int now), some (.ref mk), x4, some (.tup (vnsD (pre ++ v :: s))), some (.int (pre.length : Int)), some (vnD v), some (.int la), x9, some (.int (j : Int)), some (.int t)] A = .ok (.int v.1) A := op_at (var_at rfl) rfl (DM.ix_tup rfl)
        rw [ev_chn, i0, bind_ok, var_at rfl, bind_ok, le_ii, bind_ok]
        show _ = Res.ok (D.bl (decide (v.1 ≤ t) && decide (t ≤ la))) A
        cases h : decide (v.1 ≤ t) with
        | true =>
          simp only [var_at (ρ := [x0, some (.tup (ts.map D.int)), some (.int now), some (.ref mk), x4, some (.tup (vnsD (pre ++ v :: s))), some (.int (pre.length : Int)), some (vnD v), some (.int la), x9, some (.int (j : Int)), some (.int t)]) (i := 8) (d := .int la) (A := A) rfl, bind_ok, le_ii, Bool.true_and]
        | false => simp
    generalize hP : places (fun t => decide (v.1 ≤ t) && decide (t ≤ la)) 0 (ts ++ [now]) = P at c1
    have hPl : ∀ n ∈ P, n < 64 := fun n hn => by
      rw [← hP] at hn
      have := places_lt _ _ _ n hn
      simp at this
      omega
    have hsum : (P.map fun n : Nat => (1 : Int) * 2 ^ n).sum = ((sumq (fun t => decide (v.1 ≤ t) && decide (t ≤ la)) (ts ++ [now]) : Nat) : Int) := by
      rw [← hP, sum_places]
      simp
    have c2 : compGo (.sq (.lst (P.map fun n : Nat => D.int (n : Int)))) (P.map fun n : Nat => D.int (n : Int)) (.nm 10) mYes (mOp fShl (mK (.int 1)) (mVar 10))
        [x0, some (.tup (ts.map D.int)), some (.int now), some (.ref mk), x4, some (.tup (vnsD (pre ++ v :: s))), some (.int (pre.length : Int)), some (vnD v), some (.int la), some (.lst (P.map fun n : Nat => D.int (n : Int))), none, none] (P.map fun n : Nat => D.int (n : Int)) [] A
        = .ok ((P.map fun n : Nat => (1 : Int) * 2 ^ n).map D.int) A := by
      rw [comp_pure (p := fun _ => true) (f := fun d => match d with | .int i => D.int (1 * 2 ^ i.toNat) | d => d) rfl _ _ fun x hx => ?_]
      · rw [filter_true, List.nil_append, List.map_map, List.map_map]
        rfl
      · obtain ⟨n, hn, rfl⟩ := List.mem_map.mp hx
        refine ⟨_, rfl, rfl, fun _ => ?_⟩
        refine op_at rfl (var_at rfl) ?_
        rw [shl_one (hPl n hn)]
        simp
    refine ⟨some (.int la), some (.lst (P.map fun n : Nat => D.int (n : Int))), ?_⟩
    refine (seq_nx (ρ1 := [x0, some (.tup (ts.map D.int)), some (.int now), some (.ref mk), x4, some (.tup (vnsD (pre ++ v :: s))), some (.int (pre.length : Int)), some (vnD v), some (.int la), x9, none, none]) (A1 := A) (set_at (s1 x8))).trans ?_
    refine ifs_at t2 ?_
    rw [if_pos hv]
    refine (seq_nx (ρ1 := [x0, some (.tup (ts.map D.int)), some (.int now), some (.ref mk), x4, some (.tup (vnsD (pre ++ v :: s))), some (.int (pre.length : Int)), some (vnD v), some (.int la), some (.lst (P.map fun n : Nat => D.int (n : Int))), none, none]) (A1 := A) (set_at (lc_at (enT_at (cons_at (op_at (var_at rfl) (tup_at (cons_at (var_at rfl) nil_at) (by simp)) a1) nil_at)) rfl (by rw [enum_length, List.length_map]; simp; omega) rfl c1))).trans ?_
    refine drop_at (d := .non) (met_at (var_at rfl) hm (cons_at (call_at (cons_at (lc_at (sq_at (var_at rfl) rfl) rfl (by
      rw [List.length_map, ← hP]
      have : ∀ (q : Int → Bool) (T : List Int) (i : Nat), (places q i T).length ≤ T.length := by
        intro q T
        induction T with
        | nil => intro i; exact Nat.le_refl _
        | cons t r ih =>
          intro i
          unfold places
          have := ih (i + 1)
          split
          · simp; omega
          · simp; omega
      have := this (fun t => decide (v.1 ≤ t) && decide (t ≤ la)) (ts ++ [now]) 0
      simp at this
      omega) rfl c2) nil_at) ints_sum) nil_at) ?_)
    rw [hsum, List.map_append]
    unfold fApp
    simp only [hm]
    rw [if_pos (by rw [List.length_map]; omega)]
    rfl
  · rw [if_neg hv]
    refine ⟨some (.int la), x9, ?_⟩
    refine (seq_nx (ρ1 := [x0, some (.tup (ts.map D.int)), some (.int now), some (.ref mk), x4, some (.tup (vnsD (pre ++ v :: s))), some (.int (pre.length : Int)), some (vnD v), some (.int la), x9, none, none]) (A1 := A) (set_at (s1 x8))).trans ?_
    refine ifs_at t2 ?_
    rw [if_neg hv]
    rfl
end K67
end
section
set_option maxHeartbeats 1000000
namespace K67
open PySem PySem.Spec PyProof.Rows L2 DM TR ST
variable {A : AH} {ρ : DM.Env} {ws : List Rw} {ts : List Int} {now : Int}
/-! ### all masks -/
theorem rowSp_cons (v : Vn) (s : List Vn) : rowSp (v :: s) = if isV v = true then (v.1, s.head?.map fun w => w.1 - 1) :: rowSp s else rowSp s := by
  unfold rowSp rowZ
  rw [spO_cons, List.zip_cons_cons, List.filter_cons]
  split <;> rfl
theorem en_cons (i : Nat) (v : Vn) (s : List Vn) : enumD i (vnsD (v :: s)) = .qtup [.int (i : Int), vnD v] :: enumD (i + 1) (vnsD s) := rfl
def mkF (now : Int) (ts : List Int) (p : Spn) : Int := ((sumq (seeq now p) (ts ++ [now]) : Nat) : Int)
theorem mk_go {iv : ItV} {all : List D} {x0 x4 : Option D} {mk : Nat} {r : List Vn} (hts : ts.length ≤ 60) (hit : ∀ B, itemsOf B iv = some all) : ∀ (s pre : List Vn) (W : List Int) (A : AH) (x6 x7 x8 x9 : Option D), r = pre ++ s → W.length + s.length < 10000 → A[mk]? = some (.lst (W.map D.int)) → ∃ y6 y7 y8 y9 A',
    forGo iv all (.tp [.nm 6, .nm 7]) mkB (enumD pre.length (vnsD s)) [x0, some (.tup (ts.map D.int)), some (.int now), some (.ref mk), x4, some (.tup (vnsD r)), x6, x7, x8, x9, none, none] A
      = .nx [x0, some (.tup (ts.map D.int)), some (.int now), some (.ref mk), x4, some (.tup (vnsD r)), y6, y7, y8, y9, none, none] A' ∧ At mk A A' ∧ A'[mk]? = some (.lst ((W ++ (rowSp s).map (mkF now ts)).map D.int))
  | [], pre, W, A, x6, x7, x8, x9, _, _, hm => ⟨x6, x7, x8, x9, A, for_nil (hit A), At.refl, by rw [show rowSp [] = [] from rfl, List.map_nil, List.append_nil]; exact hm⟩
  | v :: s, pre, W, A, x6, x7, x8, x9, hr, hW, hm => by
    rw [List.length_cons] at hW
    obtain ⟨u8, u9, e1⟩ := mk_turn (x0 := x0) (x4 := x4) (x8 := x8) (x9 := x9) (now := now) (pre := pre) (s := s) (v := v) hts hm (by omega)
    rw [← hr] at e1
    have key : ∃ (W1 : List Int) (A1 : AH), (if isV v = true then A.set mk (.lst ((W ++ [((sumq (seeq now (v.1, s.head?.map fun w => w.1 - 1)) (ts ++ [now]) : Nat) : Int)]).map D.int)) else A) = A1 ∧ At mk A A1 ∧ A1[mk]? = some (.lst (W1.map D.int)) ∧ W1.length ≤ W.length + 1 ∧
        W1 ++ (rowSp s).map (mkF now ts) = W ++ (rowSp (v :: s)).map (mkF now ts) := by
      rw [rowSp_cons]
      by_cases hv : isV v = true
      · rw [if_pos hv, if_pos hv]
        obtain ⟨s1, s2⟩ := At.set (o := .lst ((W ++ [((sumq (seeq now (v.1, s.head?.map fun w => w.1 - 1)) (ts ++ [now]) : Nat) : Int)]).map D.int)) hm
        refine ⟨_, _, rfl, s1, s2, by simp, ?_⟩
        rw [List.append_assoc]
        rfl
      · rw [if_neg hv, if_neg hv]
        exact ⟨W, A, rfl, At.refl, hm, by omega, rfl⟩
    obtain ⟨W1, A1, k1, k2, k3, k4, k5⟩ := key
    rw [k1] at e1
    obtain ⟨y6, y7, y8, y9, A', e, a1, a2⟩ := mk_go (x0 := x0) (x4 := x4) (r := r) hts hit s (pre ++ [v]) W1 A1 (some (.int (pre.length : Int))) (some (vnD v)) u8 u9 (by rw [hr]; simp) (by omega) k3
    rw [show (pre ++ [v]).length = pre.length + 1 by simp] at e
    refine ⟨y6, y7, y8, y9, A', ?_, k2.trans a1, by rw [a2, k5]⟩
    rw [en_cons]
    exact (for_nx (ρ1 := [x0, some (.tup (ts.map D.int)), some (.int now), some (.ref mk), x4, some (.tup (vnsD r)), some (.int (pre.length : Int)), some (vnD v), x8, x9, none, none]) (hit A) rfl e1).trans e
noncomputable def mkO : MS := (mFor (mEnT (mCons (mVar 5) (mNil))) (.tp [.nm 6, .nm 7]) mkB)
theorem mk_out {iv : ItV} {all : List D} {x0 : Option D} {mk : Nat} (hts : ts.length ≤ 60) (hit : ∀ B, itemsOf B iv = some all) : ∀ (L : List Rw) (W : List Int) (A : AH) (x4 x5 x6 x7 x8 x9 : Option D), (∀ w ∈ L, w.2.length ≤ 6) → W.length + 6 * L.length < 10000 → A[mk]? = some (.lst (W.map D.int)) → ∃ y4 y5 y6 y7 y8 y9 A',
    forGo iv all (.tp [.nm 4, .nm 5]) mkO (L.map rwD) [x0, some (.tup (ts.map D.int)), some (.int now), some (.ref mk), x4, x5, x6, x7, x8, x9, none, none] A
      = .nx [x0, some (.tup (ts.map D.int)), some (.int now), some (.ref mk), y4, y5, y6, y7, y8, y9, none, none] A' ∧ At mk A A' ∧ A'[mk]? = some (.lst ((W ++ (allSp L).map (mkF now ts)).map D.int))
  | [], W, A, x4, x5, x6, x7, x8, x9, _, _, hm => ⟨x4, x5, x6, x7, x8, x9, A, for_nil (hit A), At.refl, by rw [show allSp [] = [] from rfl, List.map_nil, List.append_nil]; exact hm⟩
  | w :: L, W, A, x4, x5, x6, x7, x8, x9, h, hW, hm => by
    rw [List.length_cons] at hW
    have hw := h w List.mem_cons_self
    obtain ⟨u6, u7, u8, u9, A1, e1, b1, b2⟩ := mk_go (iv := .en (.tup (vnsD w.2))) (all := enumD 0 (vnsD w.2)) (x0 := x0) (x4 := some (.str w.1)) (now := now) (r := w.2) hts (fun _ => rfl) w.2 [] W A x6 x7 x8 x9 rfl (by omega) hm
    have lr : (rowSp w.2).length ≤ w.2.length := by
      unfold rowSp rowZ
      rw [List.length_map]
      refine Nat.le_trans (List.length_filter_le _ _) ?_
      rw [List.length_zip, spO_len]
      omega
    obtain ⟨y4, y5, y6, y7, y8, y9, A', e, a1, a2⟩ := mk_out (x0 := x0) hts hit L (W ++ (rowSp w.2).map (mkF now ts)) A1 (some (.str w.1)) (some (.tup (vnsD w.2))) u6 u7 u8 u9 (fun v hv => h v (List.mem_cons_of_mem _ hv)) (by simp; omega) b2
    refine ⟨y4, y5, y6, y7, y8, y9, A', (for_nx (ρ1 := [x0, some (.tup (ts.map D.int)), some (.int now), some (.ref mk), some (.str w.1), some (.tup (vnsD w.2)), x6, x7, x8, x9, none, none]) (hit A) rfl ?_).trans e, b1.trans a1, ?_⟩
    · unfold mkO
      exact for_at (enT_at (cons_at (var_at rfl) nil_at)) rfl e1
    · rw [a2]
      unfold allSp
      simp only [List.flatMap_cons, List.map_append, List.append_assoc]
theorem masks_ok (o : OkR ws) (hts : ts.length ≤ 60) (hn : ∀ t ∈ ts, t ≤ now) : ∃ A', m__law_masks [rowsD ws, .tup (ts.map D.int), .int now] A = .ok (.ref A.length) A' ∧ A'.length = A.length + 1 ∧ (∀ n, n < A.length → A'[n]? = A[n]?) ∧
    A'[A.length]? = some (.lst (((allSp ws).map (mask · (ts ++ [now]))).map fun n : Nat => D.int (n : Int))) := by
  have few := o.few
  obtain ⟨y4, y5, y6, y7, y8, y9, A', e, a1, a2⟩ := mk_out (iv := .sq (rowsD ws)) (all := ws.map rwD) (x0 := some (rowsD ws)) (now := now) hts (fun _ => rfl) ws [] (A ++ [.lst []]) none none none none none none o.low (by simp; omega) (mk := A.length) (by simp)
  refine ⟨A', ?_, by rw [a1.1]; simp, fun n hn => ?_, ?_⟩
  · unfold m__law_masks
    refine fun_rt ?_
    refine (seq_nx (ρ1 := [some (rowsD ws), some (.tup (ts.map D.int)), some (.int now), some (.ref A.length), none, none, none, none, none, none, none, none]) (A1 := A ++ [.lst []]) rfl).trans ?_
    refine (seq_nx (ρ1 := [some (rowsD ws), some (.tup (ts.map D.int)), some (.int now), some (.ref A.length), y4, y5, y6, y7, y8, y9, none, none]) (A1 := A') ?_).trans (ret_at (var_at rfl))
    exact for_at (sq_at (var_at rfl) rfl) rfl e
  · rw [a1.2 n (by omega), List.getElem?_append_left hn]
  · rw [a2, List.nil_append, List.map_map, List.map_map]
    congr 2
    refine List.map_congr_left fun p _ => ?_
    show D.int (mkF now ts p) = D.int ((mask p (ts ++ [now]) : Nat) : Int)
    unfold mkF
    rw [sumq_mask]
    intro t ht
    rcases List.mem_append.mp ht with h | h
    · exact hn t h
    · rw [List.mem_singleton.mp h]
      exact Int.le_refl _
/-! ### the law's best choice -/
def pB (b : Nat) (d : D) : Bool := match d with
  | .qtup [.int j, _] => decide (b / 2 ^ j.toNat % 2 = 1)
  | _ => false
def enS (d : D) : D := match d with
  | .qtup [_, t] => t
  | d => d
theorem pick_en (b : Nat) : ∀ (T : List Int) (i : Nat), ((enumD i (T.map D.int)).filter (pB b)).map enS = (ST.pick (b / 2 ^ i) T).map D.int
  | [], _ => rfl
  | t :: r, i => by
    have ih := pick_en b r (i + 1)
    rw [Nat.pow_succ, ← Nat.div_div_eq_div_mul] at ih
    rw [List.map_cons, enumD, List.filter_cons, show ST.pick (b / 2 ^ i) (t :: r) = (if b / 2 ^ i % 2 = 1 then t :: ST.pick (b / 2 ^ i / 2) r else ST.pick (b / 2 ^ i / 2) r) from rfl]
    show List.map enS (if decide (b / 2 ^ ((i : Nat) : Int).toNat % 2 = 1) = true then _ else _) = _
    rw [Int.toNat_natCast]
    by_cases h : b / 2 ^ i % 2 = 1
    · rw [if_pos h, if_pos (decide_eq_true h), List.map_cons, ih]
      rfl
    · rw [if_neg h, if_neg (by simpa using h), ih]
theorem or_nat {a b : Nat} : fOr (.int (a : Int)) (.int (b : Int)) A = .ok (.int ((a ||| b : Nat) : Int)) A := by
  simp only [fOr, fI0]
  rw [bitOr_nn (Int.natCast_nonneg _) (Int.natCast_nonneg _), Int.toNat_natCast, Int.toNat_natCast]
theorem and_nat {a b : Nat} : fAnd (.int (a : Int)) (.int (b : Int)) A = .ok (.int ((a &&& b : Nat) : Int)) A := by
  simp only [fAnd, fI0, PySem.W.os_band]
theorem shl_nat {n : Nat} (h : n < 64) : fShl (.int 1) (.int (n : Int)) A = .ok (.int ((2 ^ n : Nat) : Int)) A := by
  rw [shl_one h, Int.one_mul, Int.natCast_pow]
  rfl
theorem shr_nat {a n : Nat} : fShr (.int (a : Int)) (.int (n : Int)) A = .ok (.int ((a / 2 ^ n : Nat) : Int)) A := by
  simp only [fShr, fI, Int.natCast_nonneg, if_true, Int.toNat_natCast]
  rw [Int.natCast_ediv, Int.natCast_pow]
  rfl
def andP (m : Nat) (d : D) : Bool := match d with
  | .int i => decide (i.toNat &&& m ≠ 0)
  | _ => false
theorem count_filter (M : List Nat) (m : Nat) : ((M.map fun n : Nat => D.int (n : Int)).filter (andP m)).length = M.countP fun x => decide (x &&& m ≠ 0) := by
  rw [← List.countP_eq_length_filter, List.countP_map]
  rfl
/-- how many masks have a bit of m -/
theorem worth_at {M : List Nat} {m mk : Nat} {i j : Nat} {mt : ME} (hm : A[mk]? = some (.lst (M.map fun n : Nat => D.int (n : Int)))) (hM : M.length ≤ 10000) (hi : ρ[i]? = some (some (.ref mk))) (hj : j < ρ.length) (hji : j ≠ i)
    (ht : ∀ d, mt ((ρ.set j none).set j (some d)) A = .ok (.int (m : Int)) A) : mCall fLen (mCons (mLc false (mSq (mVar i)) (.nm j) (mTst (mOp (fEq true) (mOp fAnd (mVar j) mt) (mK (.int 0)))) (mVar j) [j]) (mNil)) ρ A
      = .ok (.int ((M.countP fun x => decide (x &&& m ≠ 0) : Nat) : Int)) A := by
  have so : seqOf A (.ref mk) = some (M.map fun n : Nat => D.int (n : Int)) := seqOf_ref hm
  have hit : itemsOf A (.sq (.ref mk)) = some (M.map fun n : Nat => D.int (n : Int)) := so
  refine call_at (A1 := A) (cons_at (lc_at (acc := (M.map fun n : Nat => D.int (n : Int)).filter (andP m)) (sq_at (var_at hi) so) so (by rw [List.length_map]; omega) rfl ?_) nil_at) ?_
  · have w : wipeD ρ [j] = ρ.set j none := rfl
    rw [w, comp_pure (p := andP m) (f := fun d => d) hit _ _ fun x hx => ?_]
    · rw [List.map_id']; rfl
    · obtain ⟨n, _, rfl⟩ := List.mem_map.mp hx
      have vj : mVar j ((ρ.set j none).set j (some (.int (n : Int)))) A = .ok (.int (n : Int)) A := var_at (List.getElem?_set_self (by rw [List.length_set]; exact hj))
      refine ⟨_, rfl, tst_at (op_at (op_at vj (ht _) and_nat) rfl ?_), fun _ => vj⟩
      rw [ne_ii]
      show Res.ok (D.bl (!decide (((n &&& m : Nat) : Int) = 0))) A = Res.ok (D.bl (decide (((n : Nat) : Int).toNat &&& m ≠ 0))) A
      rw [Int.toNat_natCast]
      congr 2
      by_cases h : n &&& m = 0
      · simp [h]
      · have : ¬ ((n &&& m : Nat) : Int) = 0 := by omega
        simp [h, this]
  · rw [lst_len, count_filter]
def oCh : Option Cho → D
  | none => .non
  | some x => chD x
noncomputable def bB : MS := (mSeq (mSet 6 (mCall fTup (mCons (mLc false (mEnT (mCons (mVar 1) (mNil))) (.tp [.nm 8, .nm 9]) (mTst (mOp (fEq false) (mOp fAnd (mOp fShr (mVar 5)
    (mVar 8)) (mK (.int 1))) (mK (.int 1)))) (mVar 9) [8, 9]) (mNil)))) (mIfS (mTst (mOp (fEq false) (mCall fLen (mCons (mVar 6) (mNil))) (mVar 2))) (mSeq (mSet 7 (mCall fLen (mCons (mLc false (mSq
    (mVar 0)) (.nm 10) (mTst (mOp (fEq true) (mOp fAnd (mVar 10) (mOp fOr (mVar 5) (mOp fShl (mK (.int 1)) (mVar 4)))) (mK (.int 0)))) (mVar 10) [10]) (mNil)))) (mIfS (mOr (mTst (mOp (fIsN false) (mVar
    3) (mK .non))) (mTst (mOp fLtD (mTup (mCons (mVar 7) (mCons (mVar 6) (mNil)))) (mVar 3)))) (mSet 3 (mTup (mCons (mVar 7) (mCons (mVar 6) (mNil))))) (mNext))) (mNext)))
theorem b_turn {ps : List Spn} {mk c b : Nat} {o : Option Cho} {x6 x7 : Option D} (hts : ts.length ≤ 60) (up : (ts ++ [now]).Pairwise (· ≤ ·)) (hm : A[mk]? = some (.lst ((ps.map (mask · (ts ++ [now]))).map fun n : Nat => D.int (n : Int)))) (hM : ps.length ≤ 10000) (hb : b < 2 ^ ts.length) (lo : Low ps now ts c b o) :
    ∃ o' y6 y7, bB [some (.ref mk), some (.tup (ts.map D.int)), some (.int (c : Int)), some (oCh o), some (.int (ts.length : Int)), some (.int (b : Int)), x6, x7, none, none, none] A
      = .nx [some (.ref mk), some (.tup (ts.map D.int)), some (.int (c : Int)), some (oCh o'), some (.int (ts.length : Int)), some (.int (b : Int)), y6, y7, none, none, none] A ∧ Low ps now ts c (b + 1) o' := by
  have c1 : compGo (.en (.tup (ts.map D.int))) (enumD 0 (ts.map D.int)) (.tp [.nm 8, .nm 9]) (mTst (mOp (fEq false) (mOp fAnd (mOp fShr (mVar 5) (mVar 8)) (mK (.int 1))) (mK (.int 1)))) (mVar 9)
      [some (.ref mk), some (.tup (ts.map D.int)), some (.int (c : Int)), some (oCh o), some (.int (ts.length : Int)), some (.int (b : Int)), x6, x7, none, none, none] (enumD 0 (ts.map D.int)) [] A = .ok ((ST.pick b ts).map D.int) A := by
    rw [comp_pure (p := pB b) (f := enS) rfl _ _ fun x hx => ?_]
    · rw [List.nil_append, pick_en, Nat.pow_zero, Nat.div_one]
    · obtain ⟨j, t, rfl, _, _, _⟩ := en_mem hx
      refine ⟨[some (.ref mk), some (.tup (ts.map D.int)), some (.int (c : Int)), some (oCh o), some (.int (ts.length : Int)), some (.int (b : Int)), x6, x7, some (.int (j : Int)), some (.int t), none], rfl, tst_at (op_at (op_at (op_at (var_at rfl) (var_at rfl) shr_nat) rfl (and_nat (b := 1))) rfl ?_), fun _ => rfl⟩
      rw [eq_ii]
      show Res.ok (D.bl (decide (((b / 2 ^ j &&& 1 : Nat) : Int) = 1))) A = Res.ok (D.bl (decide (b / 2 ^ ((j : Nat) : Int).toNat % 2 = 1))) A
      rw [Int.toNat_natCast, Nat.and_one_is_mod]
      congr 2
      by_cases h : b / 2 ^ j % 2 = 1
      · simp [h]
      · have : ¬ ((b / 2 ^ j % 2 : Nat) : Int) = 1 := by omega
        rw [decide_eq_false h, decide_eq_false this]
  generalize hS : ST.pick b ts = S at c1
  have s1 : mCall fTup (mCons (mLc false (mEnT (mCons (mVar 1) (mNil))) (.tp [.nm 8, .nm 9]) (mTst (mOp (fEq false) (mOp fAnd (mOp fShr (mVar 5) (mVar 8)) (mK (.int 1))) (mK (.int 1)))) (mVar 9) [8, 9]) (mNil))
      [some (.ref mk), some (.tup (ts.map D.int)), some (.int (c : Int)), some (oCh o), some (.int (ts.length : Int)), some (.int (b : Int)), x6, x7, none, none, none] A = .ok (.tup (S.map D.int)) A :=
    call_at (cons_at (lc_at (enT_at (cons_at (var_at rfl) nil_at)) rfl (by rw [enum_length, List.length_map]; omega) rfl c1) nil_at) rfl
  have t2 : mTst (mOp (fEq false) (mCall fLen (mCons (mVar 6) (mNil))) (mVar 2)) [some (.ref mk), some (.tup (ts.map D.int)), some (.int (c : Int)), some (oCh o), some (.int (ts.length : Int)), some (.int (b : Int)), some (.tup (S.map D.int)), x7, none, none, none] A = .ok (decide (S.length = c)) A := by
    have z : mTst (mOp (fEq false) (mCall fLen (mCons (mVar 6) (mNil))) (mVar 2)) [some (.ref mk), some (.tup (ts.map D.int)), some (.int (c : Int)), some (oCh o), some (.int (ts.length : Int)), some (.int (b : Int)), some (.tup (S.map D.int)), x7, none, none, none] A = .ok (decide (((S.map D.int).length : Int) = (c : Int))) A :=
      tst_at (op_at (call_at (cons_at (var_at rfl) nil_at) tup_lenD) (var_at rfl) eq_ii)
    rw [z, List.length_map]
    congr 1
    by_cases h : S.length = c
    · simp [h]
    · have : ¬ ((S.length : Nat) : Int) = (c : Int) := by omega
      simp [h]
      exact this
  have hw : (List.countP (fun x => decide (x &&& (b ||| 2 ^ ts.length) ≠ 0)) (ps.map (mask · (ts ++ [now])))) = kept ps none (S ++ [now]) := by
    rw [masks_kept hb up, hS]
  unfold bB
  by_cases hl : S.length = c
  · have w1 := worth_at (ρ := [some (.ref mk), some (.tup (ts.map D.int)), some (.int (c : Int)), some (oCh o), some (.int (ts.length : Int)), some (.int (b : Int)), some (.tup (S.map D.int)), x7, none, none, none]) (i := 0) (j := 10) (m := b ||| 2 ^ ts.length) (mt := mOp fOr (mVar 5) (mOp fShl (mK (.int 1)) (mVar 4))) hm (by rw [List.length_map]; exact hM) rfl (by simp) (by decide)
      fun d => op_at (var_at rfl) (op_at rfl (var_at rfl) (shl_nat (by omega))) or_nat
    rw [hw] at w1
    have tp : mTup (mCons (mVar 7) (mCons (mVar 6) (mNil))) [some (.ref mk), some (.tup (ts.map D.int)), some (.int (c : Int)), some (oCh o), some (.int (ts.length : Int)), some (.int (b : Int)), some (.tup (S.map D.int)), some (.int ((kept ps none (S ++ [now]) : Nat) : Int)), none, none, none] A = .ok (chD (kept ps none (S ++ [now]), S)) A :=
      tup_at (cons_at (var_at rfl) (cons_at (var_at rfl) nil_at)) (by simp)
    have t3 : ∃ k, mOr (mTst (mOp (fIsN false) (mVar 3) (mK .non))) (mTst (mOp fLtD (mTup (mCons (mVar 7) (mCons (mVar 6) (mNil)))) (mVar 3))) [some (.ref mk), some (.tup (ts.map D.int)), some (.int (c : Int)), some (oCh o), some (.int (ts.length : Int)), some (.int (b : Int)), some (.tup (S.map D.int)), some (.int ((kept ps none (S ++ [now]) : Nat) : Int)), none, none, none] A = .ok k A ∧
        ((k = true ∧ ∀ x, o = some x → Lx (kept ps none (S ++ [now]), S) x) ∨ (k = false ∧ ∃ x, o = some x ∧ ¬ Lx (kept ps none (S ++ [now]), S) x)) := by
      cases o with
      | none => exact ⟨true, or_at (a := true) (b := true) (tst_at (op_at (var_at rfl) rfl rfl)) (fun h => nomatch h), .inl ⟨rfl, (fun _ e => nomatch e)⟩⟩
      | some x =>
        refine ⟨decide (Lx (kept ps none (S ++ [now]), S) x), or_at (a := false) (b := decide (Lx (kept ps none (S ++ [now]), S) x)) (tst_at (op_at (var_at rfl) rfl rfl)) (fun _ => tst_at (op_at tp (var_at rfl) ltD_ch)), ?_⟩
        by_cases h : Lx (kept ps none (S ++ [now]), S) x
        · exact .inl ⟨decide_eq_true h, fun y e => by cases e; exact h⟩
        · exact .inr ⟨decide_eq_false h, x, rfl, h⟩
    obtain ⟨k, t3, hk⟩ := t3
    rcases hk with ⟨rfl, hk⟩ | ⟨rfl, x, rfl, hk⟩
    · have L2 := Low.take lo (by rw [hS]; exact hl) (by rw [hS]; exact hk)
      rw [hS] at L2
      refine ⟨some (kept ps none (S ++ [now]), S), some (.tup (S.map D.int)), some (.int ((kept ps none (S ++ [now]) : Nat) : Int)), ?_, L2⟩
      refine (seq_nx (set_at s1)).trans ?_
      refine ifs_at t2 ?_
      rw [if_pos (decide_eq_true hl)]
      refine (seq_nx (set_at w1)).trans ?_
      refine ifs_at t3 ?_
      rw [if_pos rfl]
      exact set_at tp
    · refine ⟨some x, some (.tup (S.map D.int)), some (.int ((kept ps none (S ++ [now]) : Nat) : Int)), ?_, Low.keep lo (by rw [hS]; exact hk)⟩
      refine (seq_nx (set_at s1)).trans ?_
      refine ifs_at t2 ?_
      rw [if_pos (decide_eq_true hl)]
      refine (seq_nx (set_at w1)).trans ?_
      refine ifs_at t3 ?_
      rw [if_neg (by decide)]
      rfl
  · refine ⟨o, some (.tup (S.map D.int)), x7, ?_, Low.skip lo (by rw [hS]; exact hl)⟩
    refine (seq_nx (set_at s1)).trans ?_
    refine ifs_at t2 ?_
    rw [if_neg (by simpa using hl)]
    rfl
theorem b_go {iv : ItV} {all : List D} {ps : List Spn} {mk c : Nat} (hts : ts.length ≤ 60) (up : (ts ++ [now]).Pairwise (· ≤ ·)) (hm : A[mk]? = some (.lst ((ps.map (mask · (ts ++ [now]))).map fun n : Nat => D.int (n : Int)))) (hM : ps.length ≤ 10000) (hit : itemsOf A iv = some all) :
    ∀ (k b : Nat) (o : Option Cho) (x5 x6 x7 : Option D), b + k ≤ 2 ^ ts.length → Low ps now ts c b o → ∃ o' y5 y6 y7, forGo iv all (.nm 5) bB (upL k (b : Int)) [some (.ref mk), some (.tup (ts.map D.int)), some (.int (c : Int)), some (oCh o), some (.int (ts.length : Int)), x5, x6, x7, none, none, none] A
      = .nx [some (.ref mk), some (.tup (ts.map D.int)), some (.int (c : Int)), some (oCh o'), some (.int (ts.length : Int)), y5, y6, y7, none, none, none] A ∧ Low ps now ts c (b + k) o'
  | 0, b, o, x5, x6, x7, _, lo => ⟨o, x5, x6, x7, for_nil hit, lo⟩
  | k + 1, b, o, x5, x6, x7, hk, lo => by
    obtain ⟨o1, u6, u7, e1, l1⟩ := b_turn (x6 := x6) (x7 := x7) hts up hm hM (by omega) lo
    obtain ⟨o', y5, y6, y7, e, l2⟩ := b_go hts up hm hM hit k (b + 1) o1 (some (.int (b : Int))) u6 u7 (by omega) l1
    refine ⟨o', y5, y6, y7, ?_, by rw [show b + (k + 1) = b + 1 + k by omega]; exact l2⟩
    unfold upL
    exact (for_nx (ρ1 := [some (.ref mk), some (.tup (ts.map D.int)), some (.int (c : Int)), some (oCh o), some (.int (ts.length : Int)), some (.int (b : Int)), x6, x7, none, none, none]) hit rfl e1).trans e
theorem best_ok {ps : List Spn} {mk c : Nat} (hts : ts.length ≤ 60) (up : (ts ++ [now]).Pairwise (· ≤ ·)) (hm : A[mk]? = some (.lst ((ps.map (mask · (ts ++ [now]))).map fun n : Nat => D.int (n : Int)))) (hM : ps.length ≤ 10000) (hc : c ≤ ts.length) :
    ∃ x, m__law_best [.ref mk, .tup (ts.map D.int), .int (c : Int)] A = .ok (chD x) A ∧ Best ps now none ts c x := by
  have hp : 2 ^ ts.length ≤ 2 ^ 60 := Nat.pow_le_pow_right (by decide) hts
  have hit : itemsOf A (.rng 0 ((2 ^ ts.length : Nat) : Int)) = some (upL (2 ^ ts.length) ((0 : Nat) : Int)) := up_items (by omega) A
  obtain ⟨o, y5, y6, y7, e, lo⟩ := b_go hts up hm hM hit (2 ^ ts.length) 0 none none none none (by omega) (Low.nil (c := c))
  rw [Nat.zero_add] at lo
  obtain ⟨x, rfl, B⟩ := lo.best hc
  refine ⟨x, ?_, B⟩
  unfold m__law_best
  refine fun_rt ?_
  refine (seq_nx (ρ1 := [some (.ref mk), some (.tup (ts.map D.int)), some (.int (c : Int)), some (oCh none), some (.int (ts.length : Int)), none, none, none, none, none, none]) (A1 := A) ?_).trans ?_
  · have z : mTup (mCons (mK .non) (mCons (mCall fLen (mCons (mVar 1) (mNil))) (mNil))) [some (.ref mk), some (.tup (ts.map D.int)), some (.int (c : Int)), none, none, none, none, none, none, none, none] A = .ok (.tup [.non, .int (ts.length : Int)]) A :=
      tup_at (cons_at rfl (cons_at (call_at (cons_at (var_at rfl) nil_at) tup_len) nil_at)) (by simp)
    show mAsg _ _ [some (.ref mk), some (.tup (ts.map D.int)), some (.int (c : Int)), none, none, none, none, none, none, none, none] A = _
    rw [ev_asg, z, lift_ok]
    rfl
  refine (seq_nx (ρ1 := [some (.ref mk), some (.tup (ts.map D.int)), some (.int (c : Int)), some (chD x), some (.int (ts.length : Int)), y5, y6, y7, none, none, none]) (A1 := A) ?_).trans (ret_at (var_at rfl))
  exact for_at (r1_at (cons_at (op_at rfl (var_at rfl) (shl_nat (by omega))) nil_at) ⟨Int.le_trans (by decide) (Int.natCast_nonneg _), Int.lt_of_le_of_lt (Int.ofNat_le.mpr hp) (by decide)⟩) hit e
end K67
end
section
set_option maxHeartbeats 1000000
namespace K67
open PySem PySem.Spec PyProof.Rows L2 DM TR ST
variable {A : AH} {ρ : DM.Env} {ws : List Rw} {ts : List Int} {now : Int} {h q : Nat}
/-! ### what is drawn -/
theorem any_at {k : Nat} (hs : HS h q A) (h0 : 0 < k) (h1 : k < 1000000) : ∃ (v : Nat) (A' : AH), anyN [.ref h, .int (k : Int)] A = .ok (.int (v : Int)) A' ∧ v < k ∧ Drawn h q A A' := any_nat hs h0 (by omega)
theorem keysN0_ok (hs : HS h q A) : ∃ A', keysN [.ref h, .int 0] A = .ok (.lst []) A' ∧ A'.length = A.length + 1 ∧ HS h q A' := by
  have hlt := hs_lt hs
  have hs0 : HS h q (A ++ [.lst (ksD [])]) := hs_push hs _
  obtain ⟨d, hd, A1, e1, d1⟩ := of_lst (xs := [.int 0, .int 0, .int 1, .int 2, .int 9, .int 13]) hs0 (by simp) (by simp)
  obtain ⟨n, rfl, n3⟩ : ∃ n : Nat, d = .int (n : Int) ∧ n ≤ 13 := by
    simp only [List.mem_cons, List.not_mem_nil, or_false] at hd
    rcases hd with rfl | rfl | rfl | rfl | rfl | rfl
    · exact ⟨0, rfl, by decide⟩
    · exact ⟨0, rfl, by decide⟩
    · exact ⟨1, rfl, by decide⟩
    · exact ⟨2, rfl, by decide⟩
    · exact ⟨9, rfl, by decide⟩
    · exact ⟨13, rfl, by decide⟩
  have me1 : mCallF 2 (pickM anyN) (mCons (mVar 0) (mCons (mLst (mCons (mK (.int 0)) (mCons (mK (.int 0)) (mCons (mK (.int 1)) (mCons (mK (.int 2)) (mCons (mK (.int 9)) (mCons (mK (.int 13)) (mNil)))))))) (mNil))) [some (.ref h), some (.int 0), some (.str AS), some (.ref A.length), none, none, none, none, none] (A ++ [.lst (ksD [])]) = .ok (.int (n : Int)) A1 := callF_at rfl rfl e1
  obtain ⟨stem, A2, e2, lc, mc, d2⟩ := signs_draw (i := 2) (j := 5) (ρ := [some (.ref h), some (.int 0), some (.str AS), some (.ref A.length), none, none, none, none, none]) (A0 := A ++ [.lst (ksD [])]) d1.2.1 me1 (by omega) rfl rfl (by simp) (by decide) (by decide)
  have dr := d1.trans d2
  have l2 : A2.length = A.length + 1 := by rw [dr.1]; simp
  have hA2 : A2[A.length]? = some (.lst (ksD [])) := by
    rw [dr.2.2 _ (by omega) (by omega)]
    simp
  have hit : itemsOf A2 (.rng 0 0) = some [] := rfl
  refine ⟨A2, ?_, l2, dr.2.1⟩
  have so : fSortS [.ref A.length] A2 = .ok (.lst []) A2 := by
    unfold fSortS
    have i0 : isTup (.ref A.length) = false := rfl
    have so2 : strsOf (ksD []) = some [] := rfl
    simp only [i0, Bool.false_eq_true, if_false, seqOf_ref hA2, so2]
    have e0 : srtS [] = [] := List.length_eq_zero_iff.mp (srtS_perm []).length_eq
    rw [if_pos (by decide), e0]
    rfl
  have mm : fMulA (.int 3) (.int 0) A2 = .ok (.int 0) A2 := rfl
  unfold keysN
  refine fun_rt ?_
  refine (seq_nx (ρ1 := [some (.ref h), some (.int 0), some (.str AS), some (.ref A.length), none, none, none, none, none]) (A1 := A ++ [.lst (ksD [])]) rfl).trans ?_
  refine (seq_nx (ρ1 := [some (.ref h), some (.int 0), some (.str AS), some (.ref A.length), some (.str (sT stem)), none, none, none, none]) (A1 := A2) ?_).trans ?_
  · rw [ev_set, e2]; rfl
  refine (seq_nx (ρ1 := [some (.ref h), some (.int 0), some (.str AS), some (.ref A.length), some (.str (sT stem)), none, none, none, none]) (A1 := A2) ?_).trans ?_
  · exact for_at (r1_at (cons_at (op_at rfl (var_at rfl) mm) nil_at) (by decide)) hit (for_nil hit)
  · exact ret_at (call_at (cons_at (var_at rfl) nil_at) so)
noncomputable abbrev valX := m__law_value anyN (pickM anyN)
theorem mulS_ok : ∃ y : Str, fMulS (.str "x") (.int 32) A = .ok (.str y) A := by
  unfold fMulS
  simp only
  rw [if_pos ⟨by decide, by decide, by decide +kernel, by decide +kernel⟩]
  exact ⟨_, rfl⟩
theorem val_ok (hs : HS h q A) : ∃ d A', valX [.ref h] A = .ok d A' ∧ Drawn h q A A' := by
  obtain ⟨n, A1, e1, hn, d1⟩ := any_at (k := 7) hs (by decide) (by decide)
  rw [show ((7 : Nat) : Int) = 7 from rfl] at e1
  have hl : (n : Int).natAbs.log2 < 1920 := by
    rw [Int.natAbs_natCast]
    by_cases h0 : n = 0
    · rw [h0]; decide
    · have : n.log2 < 10 := (Nat.log2_lt h0).mpr (by omega)
      omega
  have st : fStrI [.int (n : Int)] A1 = .ok (.str (toString (n : Int))) A1 := by
    unfold fStrI
    simp only [hl, if_true]
  have e0 := int_text_length_le10 (k := 3) (a := (n : Int)) (by decide) (by rw [Int.natAbs_natCast]; omega)
  have e1' : (Str.ofString (toString (n : Int))).length ≤ 4 := by rw [PySem.ofString_length]; omega
  obtain ⟨ax, ad⟩ : ∃ y : Str, fAdd (.str "A ") (.str (toString (n : Int))) A1 = .ok (.str y) A1 := by
    have h2 : ("A " : Str).length = 2 := by decide +kernel
    refine ⟨("A " : Str) ++ (toString (n : Int) : String), ?_⟩
    simp only [fAdd]
    rw [if_pos (by rw [h2]; omega)]
  obtain ⟨mx, mu⟩ := mulS_ok (A := A1)
  generalize (Str.ofString (toString (n : Int))) = tx at st ad
  obtain ⟨d, hd, A2, e2, d2⟩ := of_lst (xs := [.int (n : Int), .int (n : Int), .int (10 ^ 18 - (n : Int)), .str "", .str "a", .str ax, .str mx, .str tx, .int (0 - (n : Int))]) d1.2.1 (by simp) (by simp)
  refine ⟨d, A2, ?_, d1.trans d2⟩
  have pw : fPow (.int 10) (.int 18) A1 = .ok (.int (10 ^ 18)) A1 := rfl
  unfold valX m__law_value
  refine fun_rt ?_
  refine (seq_nx (ρ1 := [some (.ref h), some (.int (n : Int))]) (A1 := A1) (set_at (callF_at (cons_at (var_at rfl) (cons_at rfl nil_at)) rfl e1))).trans ?_
  refine ret_at (callF_at (cons_at (var_at rfl) (cons_at (d := .lst [.int (n : Int), .int (n : Int), .int (10 ^ 18 - (n : Int)), .str "", .str "a", .str ax, .str mx, .str tx, .int (0 - (n : Int))]) (A1 := A1) ?_ nil_at)) rfl e2)
  rw [ev_lst, cons_at (var_at rfl) (cons_at (var_at rfl) (cons_at (op_at (op_at rfl rfl pw) (var_at rfl) sub_ii) (cons_at rfl (cons_at rfl (cons_at (op_at rfl (call_at (cons_at (var_at rfl) nil_at) st) ad) (cons_at (op_at rfl rfl mu) (cons_at (call_at (cons_at (var_at rfl) nil_at) st) (cons_at (op_at rfl (var_at rfl) sub_ii) nil_at)))))))), bind_ok]
  exact if_pos (by simp)
noncomputable abbrev rowX := m__law_row anyN valX
def Ii (m : Int) (d : D) : Prop := ∃ i : Int, d = .int i ∧ 0 ≤ i ∧ i ≤ m
theorem ints_of {m : Int} : ∀ ys : List D, (∀ y ∈ ys, Ii m y) → ∃ ns : List Int, ys = ns.map D.int ∧ ∀ i ∈ ns, 0 ≤ i ∧ i ≤ m
  | [], _ => ⟨[], rfl, fun _ h => nomatch h⟩
  | y :: ys, h => by
    obtain ⟨i, rfl, h1, h2⟩ := h y List.mem_cons_self
    obtain ⟨ns, rfl, hn⟩ := ints_of ys fun z hz => h z (List.mem_cons_of_mem _ hz)
    refine ⟨i :: ns, rfl, fun j hj => ?_⟩
    rcases List.mem_cons.mp hj with rfl | hj
    · exact ⟨h1, h2⟩
    · exact hn j hj
theorem vns_of : ∀ ys : List D, (∀ y ∈ ys, ∃ v : Vn, y = vnD v) → ∃ r : List Vn, ys = vnsD r
  | [], _ => ⟨[], rfl⟩
  | y :: ys, h => by
    obtain ⟨v, rfl⟩ := h y List.mem_cons_self
    obtain ⟨r, rfl⟩ := vns_of ys fun z hz => h z (List.mem_cons_of_mem _ hz)
    exact ⟨v :: r, rfl⟩
theorem row_ok {n : Nat} (hs : HS h q A) (h0 : 0 < n) (h1 : n < 1000) : ∃ r A', rowX [.ref h, .int (n : Int)] A = .ok (.tup (vnsD r)) A' ∧ r.length ≤ 6 ∧ Drawn h q A A' := by
  obtain ⟨v, A1, e1, hv, d1⟩ := any_at (k := 6) hs (by decide) (by decide)
  rw [show ((6 : Nat) : Int) = 6 from rfl] at e1
  obtain ⟨ys, A2, w, l, ps, d2⟩ := comp_draw (iv := .rng 0 (1 + (v : Int))) (all := upL (1 + v) 0) (t := .nm 4) (tt := mYes) (me := mOp fAdd (mK (.int 1)) (mCallF 2 anyN (mCons (mVar 0) (mCons (mVar 1) (mNil))))) (ρ := [some (.ref h), some (.int (n : Int)), none, none, none]) (Pd := Ii 1000) (G := fun _ => True)
    (fun B => up_items (by omega) B) (fun _ _ _ _ => trivial) (upL (1 + v) 0) [] A1 d1.2.1 trivial fun x _ B hB _ => by
      obtain ⟨u, B1, f1, hu, f2⟩ := any_at (k := n) hB h0 (by omega)
      exact ⟨[some (.ref h), some (.int (n : Int)), none, none, some x], .int (1 + (u : Int)), B1, rfl, rfl, op_at rfl (callF_at (cons_at (var_at rfl) (cons_at (var_at rfl) nil_at)) rfl f1) add_ii, ⟨1 + (u : Int), rfl, by omega, by omega⟩, f2⟩
  rw [List.nil_append] at w
  obtain ⟨ns, rfl, _⟩ := ints_of ys ps
  have upl : ∀ (k : Nat) (i : Int), (upL k i).length = k := by
    intro k
    induction k with
    | zero => intro i; rfl
    | succ k ih => intro i; unfold upL; rw [List.length_cons, ih]
  rw [List.length_map, upl] at l
  have sl := sset_len ns
  generalize hS : sset ns = S at sl
  have so : fSortSet2 [.lst (ns.map D.int)] A2 = .ok (.lst (S.map D.int)) A2 := by
    simp only [fSortSet2, isTup, seqOf, intsOf_map, Bool.false_eq_true, if_false, hS]
    rw [if_pos (by omega)]
  obtain ⟨zs, A3, w3, l3, p3, d3⟩ := comp_draw (iv := .sq (.lst (S.map D.int))) (all := S.map D.int) (t := .nm 3) (tt := mYes) (me := mTup (mCons (mVar 3) (mCons (mIf (mTst (mOp (fEq false) (mCallF 2 anyN (mCons (mVar 0) (mCons (mK
    (.int 4)) (mNil)))) (mK (.int 0)))) (mK .non) (mCallF 1 valX (mCons (mVar 0) (mNil)))) (mNil)))) (ρ := [some (.ref h), some (.int (n : Int)), some (.lst (S.map D.int)), none, none]) (Pd := fun y => ∃ v : Vn, y = vnD v) (G := fun _ => True)
    (fun B => rfl) (fun _ _ _ _ => trivial) (S.map D.int) [] A2 d2.2.1 trivial fun x hx B hB _ => by
      obtain ⟨i, _, rfl⟩ := List.mem_map.mp hx
      obtain ⟨u, B1, f1, hu, f2⟩ := any_at (k := 4) hB (by decide) (by decide)
      rw [show ((4 : Nat) : Int) = 4 from rfl] at f1
      have t1 : mTst (mOp (fEq false) (mCallF 2 anyN (mCons (mVar 0) (mCons (mK (.int 4)) (mNil)))) (mK (.int 0))) [some (.ref h), some (.int (n : Int)), some (.lst (S.map D.int)), some (.int i), none] B = .ok (decide ((u : Int) = 0)) B1 :=
        tst_at (op_at (callF_at (cons_at (var_at rfl) (cons_at rfl nil_at)) rfl f1) rfl eq_ii)
      by_cases hu0 : (u : Int) = 0
      · refine ⟨[some (.ref h), some (.int (n : Int)), some (.lst (S.map D.int)), some (.int i), none], vnD (i, .non), B1, rfl, rfl, ?_, ⟨_, rfl⟩, f2⟩
        exact tup_at (cons_at (var_at rfl) (cons_at (if_at t1 (by rw [if_pos (decide_eq_true hu0)]; rfl)) nil_at)) (by simp)
      · obtain ⟨d, B2, g1, g2⟩ := val_ok f2.2.1
        refine ⟨[some (.ref h), some (.int (n : Int)), some (.lst (S.map D.int)), some (.int i), none], vnD (i, d), B2, rfl, rfl, ?_, ⟨_, rfl⟩, f2.trans g2⟩
        exact tup_at (cons_at (var_at rfl) (cons_at (if_at t1 (by rw [if_neg (by simpa using hu0)]; exact callF_at (cons_at (var_at rfl) nil_at) rfl g1)) nil_at)) (by simp)
  rw [List.nil_append] at w3
  obtain ⟨r, rfl⟩ := vns_of zs p3
  rw [vns_len, List.length_map] at l3
  refine ⟨r, A3, ?_, by omega, d1.trans (d2.trans d3)⟩
  unfold rowX m__law_row
  refine fun_rt ?_
  refine (seq_nx (ρ1 := [some (.ref h), some (.int (n : Int)), some (.lst (S.map D.int)), none, none]) (A1 := A2) (set_at (call_at (A1 := A2) (cons_at (lc_at (r1_at (cons_at (op_at rfl (callF_at (cons_at (var_at rfl) (cons_at rfl nil_at)) rfl e1) add_ii) nil_at) (by omega)) (up_items (k := 1 + v) (by omega) _) (by rw [upl]; omega) rfl w) nil_at) so))).trans ?_
  exact ret_at (call_at (cons_at (lc_at (sq_at (var_at rfl) rfl) rfl (by rw [List.length_map]; omega) rfl w3) nil_at) rfl)
theorem rows_of : ∀ ys : List D, (∀ y ∈ ys, ∃ w : Rw, y = rwD w ∧ w.2.length ≤ 6) → ∃ ws : List Rw, ys = ws.map rwD ∧ ∀ w ∈ ws, w.2.length ≤ 6
  | [], _ => ⟨[], rfl, fun _ h => nomatch h⟩
  | y :: ys, h => by
    obtain ⟨w, rfl, hw⟩ := h y List.mem_cons_self
    obtain ⟨ws, rfl, hn⟩ := rows_of ys fun z hz => h z (List.mem_cons_of_mem _ hz)
    refine ⟨w :: ws, rfl, fun j hj => ?_⟩
    rcases List.mem_cons.mp hj with rfl | hj
    · exact hw
    · exact hn j hj
/-- some of the stamps, as drawn -/
theorem some_go {iv : ItV} {all : List D} {mt : MT} {i : Nat} (hit : ∀ B, itemsOf B iv = some all) (hst : ∀ (t : Int) (B : AH), HS h q B → ∃ k B1, mt (ρ.set i (some (.int t))) B = .ok k B1 ∧ Drawn h q B B1) (hl : i < ρ.length) :
    ∀ (L : List Int) (acc : List D) (A : AH), HS h q A → ∃ (S : List Int) (A' : AH), S.Sublist L ∧ compGo iv all (.nm i) mt (mVar i) ρ (L.map D.int) acc A = .ok (acc ++ S.map D.int) A' ∧ Drawn h q A A'
  | [], acc, A, hs => ⟨[], A, List.Sublist.slnil, by rw [List.map_nil, List.append_nil]; exact comp_nil (hit A), Drawn.refl hs⟩
  | t :: L, acc, A, hs => by
    obtain ⟨k, A1, e1, d1⟩ := hst t A hs
    have v1 : mVar i (ρ.set i (some (.int t))) A1 = .ok (.int t) A1 := var_at (List.getElem?_set_self hl)
    cases k with
    | true =>
      obtain ⟨S, A', h1, h2, h3⟩ := some_go hit hst hl L (acc ++ [.int t]) A1 d1.2.1
      refine ⟨t :: S, A', h1.cons_cons t, ?_, d1.trans h3⟩
      rw [List.map_cons, comp_step (hit A) rfl e1 v1, h2, List.map_cons, List.append_assoc]
      rfl
    | false =>
      obtain ⟨S, A', h1, h2, h3⟩ := some_go hit hst hl L acc A1 d1.2.1
      refine ⟨S, A', h1.cons t, ?_, d1.trans h3⟩
      rw [List.map_cons, ← h2]
      conv => lhs; unfold compGo
      rw [if_pos (hit A), ev_nm]
      simp only [e1]
end K67
end
section
set_option maxHeartbeats 1000000
namespace K67
open PySem PySem.Spec PyProof.Rows L2 DM TR ST
variable {A : AH} {ρ : DM.Env} {ws : List Rw} {ts : List Int} {now : Int} {h q : Nat}
theorem rep_same {me me2 : ME} {A1 A2 : AH} {d : D} {k w : Nat} {p : PyData} (h1 : me ρ A = .ok d A1) (h2 : me2 ρ A1 = .ok d A2) (s : Shd k w d p) (hk : k ≤ 32) (hw : 22 * w + 20 ≤ 16777216) : mTst (mOp (fEq true) (mCall fRepr (mCons me (mNil))) (mCall fRepr (mCons me2 (mNil)))) ρ A = .ok false A2 := by
  have c1 : mCall fRepr (mCons me (mNil)) ρ A = .ok (.str p.shown) A1 := call_at (cons_at h1 nil_at) (repr_shd s hk hw)
  have c2 : mCall fRepr (mCons me2 (mNil)) ρ A1 = .ok (.str p.shown) A2 := call_at (cons_at h2 nil_at) (repr_shd s hk hw)
  refine tst_at (op_at c1 c2 ?_)
  rw [eq_ss, decide_eq_true rfl]
  rfl
theorem no_if {mt : MT} {A1 : AH} (h1 : mt ρ A = .ok false A1) : mIfS mt (mRet (mK (.bl false))) (mNext) ρ A = .nx ρ A1 := ifs_at h1 rfl
theorem or_nn {mt mu : MT} {A1 A2 : AH} (h1 : mt ρ A = .ok false A1) (h2 : mu ρ A1 = .ok false A2) : mOr mt mu ρ A = .ok false A2 := by
  rw [ev_or, h1, bind_ok, if_neg (by decide), h2]
theorem allSp_len (o : OkR ws) : (allSp ws).length ≤ 378 := by
  have key : ∀ L : List Rw, (∀ w ∈ L, w.2.length ≤ 6) → (allSp L).length ≤ 6 * L.length := by
    intro L
    induction L with
    | nil => intro _; exact Nat.le_refl _
    | cons w L ih =>
      intro hl
      have i := ih fun v hv => hl v (List.mem_cons_of_mem _ hv)
      have hw := hl w List.mem_cons_self
      have lr : (rowSp w.2).length ≤ w.2.length := by
        unfold rowSp rowZ
        rw [List.length_map]
        refine Nat.le_trans (List.length_filter_le _ _) ?_
        rw [List.length_zip, spO_len]
        omega
      unfold allSp at i ⊢
      rw [List.flatMap_cons, List.length_append, List.length_cons]
      omega
  have := key ws o.low
  have := o.few
  omega
theorem nat_shd {n : Nat} (hn : n ≤ 100000) : Shd 0 64 (.int (n : Int)) (.int (n : Int)) := shd_int (by omega)
theorem tup_shd : ∀ {S : List Int}, (∀ t ∈ S, 0 ≤ t ∧ t ≤ 100000) → ∃ ps, ShdL 0 64 (S.map D.int) ps ∧ ps.length = S.length
  | [], _ => ⟨[], shl_nil, rfl⟩
  | t :: S, hS => by
    obtain ⟨ps, e, l⟩ := tup_shd (S := S) fun u hu => hS u (List.mem_cons_of_mem _ hu)
    have ht := hS t List.mem_cons_self
    exact ⟨.int t :: ps, shl_cons (shd_int (by omega)) (by decide) (by decide) e, by rw [List.length_cons, List.length_cons, l]⟩
theorem kept_le (ps : List Spn) (S : List Int) (hS : Asc none S) : kept ps none S ≤ ps.length := by
  rw [kept_count ps S none hS]
  exact List.countP_le_length
/-- what a turn finds: many stamps told, and the law's own best choice -/
structure Fnd (ws : List Rw) (ts : List Int) (now : Int) (mk : Nat) (A : AH) : Prop where
  o : OkR ws
  len : ts.length ≤ 8
  up : (ts ++ [now]).Pairwise (· ≤ ·)
  pos : ∀ t ∈ ts, 0 ≤ t ∧ t ≤ 1000
  mks : A[mk]? = some (.lst (((allSp ws).map (mask · (ts ++ [now]))).map fun n : Nat => D.int (n : Int)))
theorem Fnd.gr {mk : Nat} {A B : AH} (f : Fnd ws ts now mk A) (g : Gr A B) : Fnd ws ts now mk B :=
  ⟨f.o, f.len, f.up, f.pos, (g.2 mk (List.getElem?_eq_some_iff.mp f.mks).1).trans f.mks⟩
noncomputable def tB : MS := (mSeq (mSet 11 (mCallF 3 m__law_best (mCons (mVar 5) (mCons
    (mVar 4) (mCons (mVar 10) (mNil)))))) (mSeq (mSet 12 (mIf (mTst (mOp fLt (mVar 10) (mVar 6))) (mCallF 4 thinX (mCons (mVar 3) (mCons (mVar 4) (mCons (mVar 2) (mCons (mVar 10) (mNil))))))
    (mCallK 0 4 4 [3, 2, 1, 0] thinX mNil (mCons (mVar 10) (mCons (mVar 2) (mCons (mVar 4) (mCons (mVar 3) (mNil)))))))) (mIfS (mOr (mTst (mOp (fEq true) (mCall fRepr (mCons (mVar 12) (mNil)))
    (mCall fRepr (mCons (mOp fIx (mVar 11) (mK (.int 1))) (mNil))))) (mTst (mOp (fEq true) (mCall fRepr (mCons (mCallF 3 keptX (mCons (mVar 3) (mCons (mVar 12) (mCons (mVar 2) (mNil)))))
    (mNil))) (mCall fRepr (mCons (mOp fIx (mVar 11) (mK (.int 0))) (mNil)))))) (mRet (mK (.bl false))) (mNext))))
theorem t_turn {x0 x1 x7 x8 x9 x11 x12 x13 x14 x15 x16 x17 : Option D} {mk m : Nat} (f : Fnd ws ts now mk A) (hm : m ≤ ts.length) : ∃ y11 y12 B,
    tB [x0, x1, some (.int now), some (rowsD ws), some (.tup (ts.map D.int)), some (.ref mk), some (.int (ts.length : Int)), x7, x8, x9, some (.int (m : Int)), x11, x12, x13, x14, x15, x16, x17] A
      = .nx [x0, x1, some (.int now), some (rowsD ws), some (.tup (ts.map D.int)), some (.ref mk), some (.int (ts.length : Int)), x7, x8, x9, some (.int (m : Int)), y11, y12, x13, x14, x15, x16, x17] B ∧ Gr A B := by
  have al := allSp_len f.o
  have fl := f.len
  obtain ⟨x, e1, B1⟩ := best_ok (A := A) (ps := allSp ws) (c := m) (by omega) f.up f.mks (by omega) hm
  obtain ⟨y, B, e2, g, B2⟩ := thin_ok (A := A) (now := now) (many := m) f.o (by omega) hm
  obtain rfl := B1.one B2
  have sS : ∀ t ∈ x.2, 0 ≤ t ∧ t ≤ 1000 := fun t ht => f.pos t (B1.sub.subset ht)
  have lS := B1.sub.length_le
  obtain ⟨ps, s1, l1⟩ := tup_shd (S := x.2) fun t ht => ⟨(sS t ht).1, by have := (sS t ht).2; omega⟩
  have v1 : x.1 ≤ 378 := by
    rw [B1.val]
    exact Nat.le_trans (kept_le _ _ ⟨f.up.sublist (B1.sub.append (List.Sublist.refl _)), fun _ e => nomatch e⟩) al
  refine ⟨some (chD x), some (.tup (x.2.map D.int)), B, ?_, g⟩
  unfold tB
  refine (seq_nx (ρ1 := [x0, x1, some (.int now), some (rowsD ws), some (.tup (ts.map D.int)), some (.ref mk), some (.int (ts.length : Int)), x7, x8, x9, some (.int (m : Int)), some (chD x), x12, x13, x14, x15, x16, x17]) (A1 := A) (set_at (callF_at (cons_at (var_at rfl) (cons_at (var_at rfl) (cons_at (var_at rfl) nil_at))) rfl e1))).trans ?_
  refine (seq_nx (ρ1 := [x0, x1, some (.int now), some (rowsD ws), some (.tup (ts.map D.int)), some (.ref mk), some (.int (ts.length : Int)), x7, x8, x9, some (.int (m : Int)), some (chD x), some (.tup (x.2.map D.int)), x13, x14, x15, x16, x17]) (A1 := B) (set_at ?_)).trans ?_
  · refine if_at (tst_at (op_at (var_at rfl) (var_at rfl) lt_ii)) ?_
    split
    · exact callF_at (cons_at (var_at rfl) (cons_at (var_at rfl) (cons_at (var_at rfl) (cons_at (var_at rfl) nil_at)))) rfl e2
    · exact callK_at nil_at (cons_at (var_at rfl) (cons_at (var_at rfl) (cons_at (var_at rfl) (cons_at (var_at rfl) nil_at)))) rfl rfl rfl rfl e2
  · have k1 : keptX [rowsD ws, .tup (x.2.map D.int), .int now] B = .ok (.int (x.1 : Int)) B := by
      rw [kept_ok f.o (by omega), ← B1.val]
    refine no_if (or_nn (rep_same (d := .tup (x.2.map D.int)) (A1 := B) (A2 := B) (var_at rfl) (op_at (var_at rfl) rfl (DM.ix_tup rfl)) (shd_tup s1) (by decide) (by omega)) (rep_same (d := .int (x.1 : Int)) (A1 := B) (callF_at (cons_at (var_at rfl) (cons_at (var_at rfl) (cons_at (var_at rfl) nil_at))) rfl k1) (op_at (var_at rfl) rfl (DM.ix_tup rfl)) (nat_shd (by omega)) (by decide) (by decide)))
theorem Gr.refl : Gr A A := ⟨Nat.le_refl _, fun _ _ => rfl⟩
theorem Gr.trans {B C : AH} (a : Gr A B) (b : Gr B C) : Gr A C := ⟨Nat.le_trans a.1 b.1, fun n hn => (b.2 n (Nat.lt_of_lt_of_le hn a.1)).trans (a.2 n hn)⟩
theorem t_go {iv : ItV} {all : List D} {x0 x1 x7 x8 x9 x13 x14 x15 x16 x17 : Option D} {mk : Nat} (hit : ∀ B, itemsOf B iv = some all) : ∀ (L : List Nat) (A : AH) (x10 x11 x12 : Option D), Fnd ws ts now mk A → (∀ m ∈ L, m ≤ ts.length) → ∃ y10 y11 y12 B,
    forGo iv all (.nm 10) tB (L.map fun m : Nat => D.int (m : Int)) [x0, x1, some (.int now), some (rowsD ws), some (.tup (ts.map D.int)), some (.ref mk), some (.int (ts.length : Int)), x7, x8, x9, x10, x11, x12, x13, x14, x15, x16, x17] A
      = .nx [x0, x1, some (.int now), some (rowsD ws), some (.tup (ts.map D.int)), some (.ref mk), some (.int (ts.length : Int)), x7, x8, x9, y10, y11, y12, x13, x14, x15, x16, x17] B ∧ Gr A B
  | [], A, x10, x11, x12, f, _ => ⟨x10, x11, x12, A, for_nil (hit A), Gr.refl⟩
  | m :: L, A, x10, x11, x12, f, hl => by
    obtain ⟨u11, u12, B1, e1, g1⟩ := t_turn (x0 := x0) (x1 := x1) (x7 := x7) (x8 := x8) (x9 := x9) (x11 := x11) (x12 := x12) (x13 := x13) (x14 := x14) (x15 := x15) (x16 := x16) (x17 := x17) (m := m) f (hl m List.mem_cons_self)
    obtain ⟨y10, y11, y12, B, e, g⟩ := t_go (x0 := x0) (x1 := x1) (x7 := x7) (x8 := x8) (x9 := x9) (x13 := x13) (x14 := x14) (x15 := x15) (x16 := x16) (x17 := x17) hit L B1 (some (.int (m : Int))) u11 u12 (f.gr g1) fun k hk => hl k (List.mem_cons_of_mem _ hk)
    refine ⟨y10, y11, y12, B, ?_, g1.trans g⟩
    rw [List.map_cons]
    exact (for_nx (ρ1 := [x0, x1, some (.int now), some (rowsD ws), some (.tup (ts.map D.int)), some (.ref mk), some (.int (ts.length : Int)), x7, x8, x9, some (.int (m : Int)), x11, x12, x13, x14, x15, x16, x17]) (hit A) rfl e1).trans e
/-! ### bits of some stamps -/
theorem in_ints {t : Int} {S : List Int} : fIn false (.int t) (.tup (S.map D.int)) A = .ok (.bl (decide (t ∈ S))) A := by
  have fl : (S.map D.int).all flatD = true := by
    rw [List.all_eq_true]
    intro d hd
    obtain ⟨i, _, rfl⟩ := List.mem_map.mp hd
    rfl
  have an : ((S.map D.int).any fun z => eqD z (.int t)) = decide (t ∈ S) := by
    rw [Bool.eq_iff_iff, List.any_eq_true, decide_eq_true_iff]
    constructor
    · rintro ⟨d, hd, e⟩
      obtain ⟨i, hi, rfl⟩ := List.mem_map.mp hd
      have : i = t := by
        have e : (i == t) = true := e
        exact beq_iff_eq.mp e
      exact this ▸ hi
    · intro ht
      exact ⟨.int t, List.mem_map_of_mem ht, by show (t == t) = true; exact beq_self_eq_true t⟩
  unfold fIn
  show (if flatD (.int t) = true ∧ (S.map D.int).all flatD = true then _ else _) = _
  rw [if_pos ⟨rfl, fl⟩, an]
  rfl
theorem sumq_code (S : List Int) : ∀ T : List Int, sumq (fun t => decide (t ∈ S)) T = code S T
  | [] => rfl
  | t :: r => by
    unfold sumq ST.code
    rw [sumq_code S r]
    congr 1
    by_cases ht : t ∈ S
    · simp [ht]
    · simp [ht]
theorem bits_at {S : List Int} (hts : ts.length ≤ 8) (h4 : ρ[4]? = some (some (.tup (ts.map D.int)))) (h6 : ρ[6]? = some (some (.int (ts.length : Int)))) (h7 : ρ[7]? = some (some (.tup (S.map D.int)))) (hl : ρ.length = 18) :
    mOp fOr (mCall fSum (mCons (mLc false (mEnT (mCons (mVar 4) (mNil))) (.tp [.nm 16,
    .nm 14]) (mTst (mOp (fIn false) (mVar 14) (mVar 7))) (mOp fShl (mK (.int 1)) (mVar 16)) [16, 14]) (mNil))) (mOp fShl (mK (.int 1)) (mVar 6)) ρ A = .ok (.int ((code S ts ||| 2 ^ ts.length : Nat) : Int)) A := by
  have hw : wipeD ρ [16, 14] = (ρ.set 14 none).set 16 none := rfl
  have c1 : compGo (.en (.tup (ts.map D.int))) (enumD 0 (ts.map D.int)) (.tp [.nm 16, .nm 14]) (mTst (mOp (fIn false) (mVar 14) (mVar 7))) (mOp fShl (mK (.int 1)) (mVar 16)) ((ρ.set 14 none).set 16 none) (enumD 0 (ts.map D.int)) [] A
      = .ok (((places (fun t => decide (t ∈ S)) 0 ts).map fun n : Nat => (1 : Int) * 2 ^ n).map D.int) A := by
    rw [comp_pure (p := enP fun t => decide (t ∈ S)) (f := fun d => match enI d with | .int i => D.int (1 * 2 ^ i.toNat) | d => d) rfl _ _ fun x hx => ?_]
    · have pe := places_en (fun t => decide (t ∈ S)) ts 0
      rw [List.nil_append, List.map_map]
      have : (List.map (fun d => match enI d with | .int i => D.int (1 * 2 ^ i.toNat) | d => d) ((enumD 0 (ts.map D.int)).filter (enP fun t => decide (t ∈ S)))) = List.map (fun d => match d with | .int i => D.int (1 * 2 ^ i.toNat) | d => d) (((enumD 0 (ts.map D.int)).filter (enP fun t => decide (t ∈ S))).map enI) := by
        rw [List.map_map]
        rfl
      rw [this, pe, List.map_map]
      rfl
    · obtain ⟨j, t, rfl, _, _, hj⟩ := en_mem hx
      have g16 : ((((ρ.set 14 none).set 16 none).set 16 (some (.int (j : Int)))).set 14 (some (.int t)))[16]? = some (some (.int (j : Int))) := by
        rw [List.getElem?_set_ne (by decide), List.getElem?_set_self (by rw [List.length_set, List.length_set, hl]; decide)]
      have g14 : ((((ρ.set 14 none).set 16 none).set 16 (some (.int (j : Int)))).set 14 (some (.int t)))[14]? = some (some (.int t)) := List.getElem?_set_self (by rw [List.length_set, List.length_set, List.length_set, hl]; decide)
      have g7 : ((((ρ.set 14 none).set 16 none).set 16 (some (.int (j : Int)))).set 14 (some (.int t)))[7]? = some (some (.tup (S.map D.int))) := by
        rw [List.getElem?_set_ne (by decide), List.getElem?_set_ne (by decide), List.getElem?_set_ne (by decide), List.getElem?_set_ne (by decide), h7]
      refine ⟨_, rfl, tst_at (op_at (var_at g14) (var_at g7) in_ints), fun _ => ?_⟩
      refine op_at rfl (var_at g16) ?_
      rw [shl_one (by omega)]
      show Res.ok (D.int (1 * 2 ^ j)) A = Res.ok (D.int (1 * 2 ^ ((j : Nat) : Int).toNat)) A
      rw [Int.toNat_natCast]
  have sm : ((places (fun t => decide (t ∈ S)) 0 ts).map fun n : Nat => (1 : Int) * 2 ^ n).sum = ((code S ts : Nat) : Int) := by
    rw [sum_places, sumq_code]
    simp
  have is := ints_sum (A := A) (ns := (places (fun t => decide (t ∈ S)) 0 ts).map fun n : Nat => (1 : Int) * 2 ^ n)
  rw [sm] at is
  exact op_at (call_at (cons_at (lc_at (enT_at (cons_at (var_at h4) nil_at)) rfl (by rw [enum_length, List.length_map]; omega) hw c1) nil_at) is) (op_at rfl (var_at h6) (shl_nat (by omega))) or_nat
end K67
end
section
set_option maxHeartbeats 2000000
namespace K67
open PySem PySem.Spec PyProof.Rows L2 DM TR ST
theorem lst_at {ρ : DM.Env} {A : AH} {ms : MA} {A1 : AH} {ds : List D} (h1 : ms ρ A = .ok ds A1) (h2 : ds.length ≤ 1000) : mLst ms ρ A = .ok (.lst ds) A1 := by
  rw [ev_lst, h1, bind_ok, if_pos h2]
noncomputable abbrev lawM := m_law dealN anyN m__law_masks m__law_best (m__law_heard thinX) thinX (pickM anyN) rowX keysN keptX
theorem law_holds (ns : List Int) (A : AH) : ∃ AE, lawM [.lst (ns.map D.int)] A = .ok (.bl true) AE := by
  obtain ⟨h, q, A1, e1, hs1, _, _, _, _⟩ := dealN_ok (A := A) (ns := ns) (b := 67) (by decide) (by decide)
  obtain ⟨nv, A2, e2, hnv, d2⟩ := any_at (k := 12) hs1 (by decide) (by decide)
  rw [show ((12 : Nat) : Int) = 12 from rfl] at e2
  obtain ⟨now, hnow⟩ : ∃ now : Nat, now = 3 + nv := ⟨_, rfl⟩
  have en : (3 : Int) + (nv : Int) = (now : Int) := by omega
  -- keys
  obtain ⟨v, A3, e3, hv, d3⟩ := any_at (k := 8) d2.2.1 (by decide) (by decide)
  rw [show ((8 : Nat) : Int) = 8 from rfl] at e3
  obtain ⟨ks, A4, e4, l4, hs4⟩ : ∃ ks A4, keysN [.ref h, .int (v : Int)] A3 = .ok (.lst (ksD ks)) A4 ∧ ks.length ≤ 8 ∧ HS h q A4 := by
    by_cases h0 : v = 0
    · subst h0
      obtain ⟨A4, e, _, hs⟩ := keysN0_ok d3.2.1
      exact ⟨[], A4, e, by decide, hs⟩
    · obtain ⟨ks, A4, e, _, hs, _, K⟩ := keysN_ok (many := v) d3.2.1 (by omega) (by omega)
      exact ⟨ks, A4, e, Nat.le_trans K.ln (by omega), hs⟩
  -- rows
  obtain ⟨zs, A5, w5, l5, p5, d5⟩ := comp_draw (iv := .sq (.lst (ksD ks))) (all := ksD ks) (t := .nm 13) (tt := mYes) (me := mTup (mCons (mVar 13) (mCons (mCallF 2 rowX (mCons (mVar 1) (mCons (mVar 2) (mNil)))) (mNil)))) (ρ := [some (.lst (ns.map D.int)), some (.ref h), some (.int (now : Int)), none, none, none, none, none, none, none, none, none, none, none, none, none, none, none]) (Pd := fun y => ∃ w : Rw, y = rwD w ∧ w.2.length ≤ 6) (G := fun _ => True)
    (fun B => rfl) (fun _ _ _ _ => trivial) (ksD ks) [] A4 hs4 trivial fun x hx B hB _ => by
      obtain ⟨k, _, rfl⟩ := List.mem_map.mp hx
      obtain ⟨r, B1, f1, f2, f3⟩ := row_ok (n := now) hB (by omega) (by omega)
      exact ⟨[some (.lst (ns.map D.int)), some (.ref h), some (.int (now : Int)), none, none, none, none, none, none, none, none, none, none, some (.str k), none, none, none, none], rwD (k, r), B1, rfl, rfl, tup_at (cons_at (var_at rfl) (cons_at (callF_at (cons_at (var_at rfl) (cons_at (var_at rfl) nil_at)) rfl f1) nil_at)) (by simp), ⟨(k, r), rfl, f2⟩, f3⟩
  rw [List.nil_append] at w5
  obtain ⟨ws, rfl, hlow⟩ := rows_of zs p5
  have lk : (ksD ks).length = ks.length := by unfold ksD; rw [List.length_map]
  rw [List.length_map, lk] at l5
  have o : OkR ws := ⟨by omega, hlow⟩
  -- stamps
  obtain ⟨d6, hd6, A6, e6, dr6⟩ := of_lst (xs := [.int 0, .int 2, .int 4, .int 8, .int 8]) d5.2.1 (by simp) (by simp)
  obtain ⟨sn, rfl, sn8⟩ : ∃ n : Nat, d6 = .int (n : Int) ∧ n ≤ 8 := by
    simp only [List.mem_cons, List.not_mem_nil, or_false] at hd6
    rcases hd6 with rfl | rfl | rfl | rfl | rfl
    · exact ⟨0, rfl, by decide⟩
    · exact ⟨2, rfl, by decide⟩
    · exact ⟨4, rfl, by decide⟩
    · exact ⟨8, rfl, by decide⟩
    · exact ⟨8, rfl, by decide⟩
  have upl : ∀ (k : Nat) (i : Int), (upL k i).length = k := by
    intro k
    induction k with
    | zero => intro i; rfl
    | succ k ih => intro i; unfold upL; rw [List.length_cons, ih]
  obtain ⟨ys, A7, w7, l7, p7, d7⟩ := comp_draw (iv := .rng 0 (sn : Int)) (all := upL sn 0) (t := .nm 17) (tt := mYes) (me := mCallF 2 anyN (mCons (mVar 1) (mCons (mOp fAdd (mVar 2) (mK (.int 1))) (mNil)))) (ρ := [some (.lst (ns.map D.int)), some (.ref h), some (.int (now : Int)), some (rowsD ws), none, none, none, none, none, none, none, none, none, none, none, none, none, none]) (Pd := Ii (now : Int)) (G := fun _ => True)
    (fun B => up_items (by omega) B) (fun _ _ _ _ => trivial) (upL sn 0) [] A6 dr6.2.1 trivial fun x _ B hB _ => by
      obtain ⟨u, B1, f1, hu, f2⟩ := any_at (k := now + 1) hB (by omega) (by omega)
      have a1 : fAdd (.int (now : Int)) (.int 1) B = .ok (.int ((now + 1 : Nat) : Int)) B := by rw [add_ii]; rfl
      exact ⟨[some (.lst (ns.map D.int)), some (.ref h), some (.int (now : Int)), some (rowsD ws), none, none, none, none, none, none, none, none, none, none, none, none, none, some x], .int (u : Int), B1, rfl, rfl, callF_at (cons_at (var_at rfl) (cons_at (op_at (var_at rfl) rfl a1) nil_at)) rfl f1, ⟨(u : Int), rfl, by omega, by omega⟩, f2⟩
  rw [List.nil_append] at w7
  obtain ⟨ss, rfl, hss⟩ := ints_of ys p7
  rw [List.length_map, upl] at l7
  have sl := sset_len ss
  have su := sset_up ss
  have sm : ∀ t ∈ sset ss, 0 ≤ t ∧ t ≤ (now : Int) := fun t ht => hss t (mem_sset.mp ht)
  have so : fSortSet2 [.lst (ss.map D.int)] A7 = .ok (.lst ((sset ss).map D.int)) A7 := by
    simp only [fSortSet2, isTup, seqOf, intsOf_map, Bool.false_eq_true, if_false]
    rw [if_pos (by omega)]
  generalize sset ss = ts at sl su sm so
  have tl : ts.length ≤ 8 := by omega
  have up : (ts ++ [(now : Int)]).Pairwise (· ≤ ·) := by
    rw [List.pairwise_append]
    refine ⟨su.imp Int.le_of_lt, List.pairwise_singleton _ _, fun a ha b hb => ?_⟩
    rw [List.mem_singleton.mp hb]
    exact (sm a ha).2
  -- masks
  obtain ⟨A8, e8, l8, k8, m8⟩ := masks_ok (A := A7) (now := (now : Int)) o (show ts.length ≤ 60 by omega) fun t ht => (sm t ht).2
  have hs7 := d7.2.1
  have lt7 := hs_lt hs7
  have hs8 : HS h q A8 := hs_keep hs7 (k8 h lt7.1) (k8 q lt7.2)
  -- some
  obtain ⟨S, A9, sub, w9, d9⟩ := some_go (iv := .sq (.tup (ts.map D.int))) (all := ts.map D.int) (mt := mTst (mOp (fEq false) (mCallF 2 anyN (mCons (mVar 1) (mCons (mK (.int 2)) (mNil)))) (mK (.int 0)))) (i := 14)
    (ρ := [some (.lst (ns.map D.int)), some (.ref h), some (.int (now : Int)), some (rowsD ws), some (.tup (ts.map D.int)), some (.ref A7.length), some (.int (ts.length : Int)), none, none, none, none, none, none, none, none, none, none, none])
    (fun _ => rfl) (fun t B hB => by
      obtain ⟨u, B1, f1, hu, f2⟩ := any_at (k := 2) hB (by decide) (by decide)
      rw [show ((2 : Nat) : Int) = 2 from rfl] at f1
      exact ⟨decide ((u : Int) = 0), B1, tst_at (op_at (callF_at (cons_at (var_at rfl) (cons_at rfl nil_at)) rfl f1) rfl eq_ii), f2⟩) (by simp) ts [] A8 hs8
  rw [List.nil_append] at w9
  have m9 : A9[A7.length]? = some (.lst (((allSp ws).map (mask · (ts ++ [(now : Int)]))).map fun n : Nat => D.int (n : Int))) := by
    rw [d9.2.2 A7.length (by omega) (by omega)]
    exact m8
  have f9 : Fnd ws ts (now : Int) A7.length A9 := ⟨o, tl, up, fun t ht => ⟨(sm t ht).1, by have := (sm t ht).2; omega⟩, m9⟩
  have nd : ts.Nodup := su.imp fun h => Int.ne_of_lt h
  have pk : ST.pick (ST.code S ts) ts = S := by rw [pick_code, filter_self sub nd]
  have due : List.countP (fun x => decide (x &&& (ST.code S ts ||| 2 ^ ts.length) ≠ 0)) ((allSp ws).map (mask · (ts ++ [(now : Int)]))) = kept (allSp ws) none (S ++ [(now : Int)]) := by
    rw [masks_kept (code_lt S ts) up, pk]
  have al := allSp_len o
  have kl : kept (allSp ws) none (S ++ [(now : Int)]) ≤ 378 := Nat.le_trans (kept_le _ _ ⟨up.sublist (sub.append (List.Sublist.refl _)), fun _ e => nomatch e⟩) al
  have Sl := sub.length_le
  have kk : keptX [rowsD ws, .tup (S.map D.int), .int (now : Int)] A9 = .ok (.int ((kept (allSp ws) none (S ++ [(now : Int)]) : Nat) : Int)) A9 := kept_ok o (by omega)
  have wo := worth_at (ρ := [some (.lst (ns.map D.int)), some (.ref h), some (.int (now : Int)), some (rowsD ws), some (.tup (ts.map D.int)), some (.ref A7.length), some (.int (ts.length : Int)), some (.tup (S.map D.int)), some (.int ((ST.code S ts ||| 2 ^ ts.length : Nat) : Int)), none, none, none, none, none, none, none, none, none]) (i := 5) (j := 15) (m := ST.code S ts ||| 2 ^ ts.length) (mt := mVar 8) m9 (by rw [List.length_map]; omega) rfl (by simp) (by decide) fun d => var_at rfl
  rw [due] at wo
  generalize kept (allSp ws) none (S ++ [(now : Int)]) = K at due kl kk wo
  -- the three numbers
  obtain ⟨m1, A10, e10, hm1, d10⟩ := any_at (k := ts.length + 1) d9.2.1 (by omega) (by omega)
  have f10 : Fnd ws ts (now : Int) A7.length A10 := ⟨o, tl, up, f9.pos, (d10.2.2 A7.length (by omega) (by omega)).trans m9⟩
  have hitL : ∀ B, itemsOf B (.sq (.lst ([m1, ts.length, ts.length / 2].map fun m : Nat => D.int (m : Int)))) = some ([m1, ts.length, ts.length / 2].map fun m : Nat => D.int (m : Int)) := fun _ => rfl
  obtain ⟨y10, y11, y12, A11, e11, g11⟩ := t_go (x0 := some (.lst (ns.map D.int))) (x1 := some (.ref h)) (x7 := some (.tup (S.map D.int))) (x8 := some (.int ((ST.code S ts ||| 2 ^ ts.length : Nat) : Int))) (x9 := some (.int (K : Int))) (x13 := none) (x14 := none) (x15 := none) (x16 := none) (x17 := none) hitL [m1, ts.length, ts.length / 2] A10 none none none f10 (by
    intro m hm
    simp only [List.mem_cons, List.not_mem_nil, or_false] at hm
    rcases hm with rfl | rfl | rfl <;> omega)
  have lt10 := hs_lt d10.2.1
  have hs11 : HS h q A11 := hs_keep d10.2.1 (g11.2 h lt10.1) (g11.2 q lt10.2)
  obtain ⟨d12, hd12, A12, e12, dr12⟩ := of_lst (xs := [.int (-1), .int ((ts.length : Int) + 1), .non, .str "1", .bl true, .tup [.int 1]]) hs11 (by simp) (by simp)
  have hb : m_is_integer [d12] A12 = .ok (.bl false) A12 ∨ ∃ j : Int, d12 = .int j ∧ (j < 0 ∨ (ts.length : Int) < j) := by
    simp only [List.mem_cons, List.not_mem_nil, or_false] at hd12
    rcases hd12 with rfl | rfl | rfl | rfl | rfl | rfl
    · exact .inr ⟨_, rfl, .inl (by decide)⟩
    · exact .inr ⟨_, rfl, .inr (by omega)⟩
    · exact .inl rfl
    · exact .inl rfl
    · exact .inl rfl
    · exact .inl rfl
  have hd := heard_bad (A := A12) (ws := ws) (ts := ts) (now := (now : Int)) hb
  refine ⟨A12, ?_⟩
  unfold lawM m_law
  refine fun_rt ?_
  -- 1
  refine (seq_nx (ρ1 := [some (.lst (ns.map D.int)), some (.ref h), none, none, none, none, none, none, none, none, none, none, none, none, none, none, none, none]) (A1 := A1) (set_at (callF_at (cons_at (var_at rfl) (cons_at rfl nil_at)) rfl e1))).trans ?_
  -- 2
  refine (seq_nx (ρ1 := [some (.lst (ns.map D.int)), some (.ref h), some (.int (now : Int)), none, none, none, none, none, none, none, none, none, none, none, none, none, none, none]) (A1 := A2) (set_at (op_at rfl (callF_at (cons_at (var_at rfl) (cons_at rfl nil_at)) rfl e2) (add_ii.trans (by rw [en]))))).trans ?_
  -- 3
  refine (seq_nx (ρ1 := [some (.lst (ns.map D.int)), some (.ref h), some (.int (now : Int)), some (rowsD ws), none, none, none, none, none, none, none, none, none, none, none, none, none, none]) (A1 := A5) (set_at (call_at (cons_at (lc_at (sq_at (callF_at (cons_at (var_at rfl) (cons_at (callF_at (cons_at (var_at rfl) (cons_at rfl nil_at)) rfl e3) nil_at)) rfl e4) rfl) rfl (by omega) rfl w5) nil_at) rfl))).trans ?_
  -- 4
  refine (seq_nx (ρ1 := [some (.lst (ns.map D.int)), some (.ref h), some (.int (now : Int)), some (rowsD ws), some (.tup (ts.map D.int)), none, none, none, none, none, none, none, none, none, none, none, none, none]) (A1 := A7) (set_at (call_at (A1 := A7) (cons_at (call_at (A1 := A7) (cons_at (lc_at (r1_at (cons_at (callF_at (cons_at (var_at rfl) (cons_at (d := .lst [.int 0, .int 2, .int 4, .int 8, .int 8]) rfl nil_at)) rfl e6) nil_at) (by omega)) (up_items (k := sn) (by omega) _) (by rw [upl]; omega) rfl w7) nil_at) so) nil_at) rfl))).trans ?_
  -- 5
  refine (seq_nx (ρ1 := [some (.lst (ns.map D.int)), some (.ref h), some (.int (now : Int)), some (rowsD ws), some (.tup (ts.map D.int)), some (.ref A7.length), some (.int (ts.length : Int)), none, none, none, none, none, none, none, none, none, none, none]) (A1 := A8) ?_).trans ?_
  · have z : mCons (mCallF 3 m__law_masks (mCons (mVar 3) (mCons (mVar 4) (mCons (mVar 2) (mNil))))) (mCons (mCall fLen (mCons (mVar 4) (mNil))) (mNil)) [some (.lst (ns.map D.int)), some (.ref h), some (.int (now : Int)), some (rowsD ws), some (.tup (ts.map D.int)), none, none, none, none, none, none, none, none, none, none, none, none, none] A7 = .ok [.ref A7.length, .int (ts.length : Int)] A8 :=
      cons_at (callF_at (cons_at (var_at rfl) (cons_at (var_at rfl) (cons_at (var_at rfl) nil_at))) rfl e8) (cons_at (call_at (cons_at (var_at rfl) nil_at) tup_len) nil_at)
    rw [ev_par2, z, lift_ok]
    rfl
  -- 6
  refine (seq_nx (ρ1 := [some (.lst (ns.map D.int)), some (.ref h), some (.int (now : Int)), some (rowsD ws), some (.tup (ts.map D.int)), some (.ref A7.length), some (.int (ts.length : Int)), some (.tup (S.map D.int)), none, none, none, none, none, none, none, none, none, none]) (A1 := A9) (set_at (call_at (cons_at (lc_at (sq_at (var_at rfl) rfl) rfl (by rw [List.length_map]; omega) rfl w9) nil_at) rfl))).trans ?_
  -- 7
  refine (seq_nx (ρ1 := [some (.lst (ns.map D.int)), some (.ref h), some (.int (now : Int)), some (rowsD ws), some (.tup (ts.map D.int)), some (.ref A7.length), some (.int (ts.length : Int)), some (.tup (S.map D.int)), some (.int ((ST.code S ts ||| 2 ^ ts.length : Nat) : Int)), none, none, none, none, none, none, none, none, none]) (A1 := A9) (set_at (bits_at tl rfl rfl rfl rfl))).trans ?_
  -- 8
  refine (seq_nx (ρ1 := [some (.lst (ns.map D.int)), some (.ref h), some (.int (now : Int)), some (rowsD ws), some (.tup (ts.map D.int)), some (.ref A7.length), some (.int (ts.length : Int)), some (.tup (S.map D.int)), some (.int ((ST.code S ts ||| 2 ^ ts.length : Nat) : Int)), some (.int (K : Int)), none, none, none, none, none, none, none, none]) (A1 := A9) (set_at wo)).trans ?_
  -- 9
  refine (seq_nx (ρ1 := [some (.lst (ns.map D.int)), some (.ref h), some (.int (now : Int)), some (rowsD ws), some (.tup (ts.map D.int)), some (.ref A7.length), some (.int (ts.length : Int)), some (.tup (S.map D.int)), some (.int ((ST.code S ts ||| 2 ^ ts.length : Nat) : Int)), some (.int (K : Int)), none, none, none, none, none, none, none, none]) (A1 := A9) (no_if (or_nn (rep_same (d := .int (K : Int)) (A1 := A9) (A2 := A9) (callF_at (cons_at (var_at rfl) (cons_at (var_at rfl) (cons_at (var_at rfl) nil_at))) rfl kk) (var_at rfl) (nat_shd (by omega)) (by decide) (by decide)) (rep_same (d := .int (K : Int)) (A1 := A9) (callK_at nil_at (cons_at (var_at rfl) (cons_at (var_at rfl) (cons_at (var_at rfl) nil_at))) rfl rfl rfl rfl kk) (var_at rfl) (nat_shd (by omega)) (by decide) (by decide))))).trans ?_
  -- 10
  refine (seq_nx (ρ1 := [some (.lst (ns.map D.int)), some (.ref h), some (.int (now : Int)), some (rowsD ws), some (.tup (ts.map D.int)), some (.ref A7.length), some (.int (ts.length : Int)), some (.tup (S.map D.int)), some (.int ((ST.code S ts ||| 2 ^ ts.length : Nat) : Int)), some (.int (K : Int)), y10, y11, y12, none, none, none, none, none]) (A1 := A11) ?_).trans ?_
  · have dv : fDiv (.int (ts.length : Int)) (.int 2) A10 = .ok (.int ((ts.length / 2 : Nat) : Int)) A10 := by
      simp only [fDiv, fI, cdw_big (i := (ts.length : Int)) (j := 2) (by decide) (by decide), if_true]
      rw [Int.natCast_ediv]
      rfl
    have a1 : fAdd (.int (ts.length : Int)) (.int 1) A9 = .ok (.int ((ts.length + 1 : Nat) : Int)) A9 := by rw [add_ii]; rfl
    refine for_at (sq_at (d := .lst ([m1, ts.length, ts.length / 2].map fun m : Nat => D.int (m : Int))) (A1 := A10) ?_ rfl) (hitL _) e11
    exact lst_at (cons_at (callF_at (cons_at (var_at rfl) (cons_at (op_at (var_at rfl) rfl a1) nil_at)) rfl e10) (cons_at (var_at rfl) (cons_at (op_at (var_at rfl) rfl dv) nil_at))) (by simp)
  -- 11
  have eqm : fEq false (.str "many") (.str "many") A12 = .ok (.bl true) A12 := by rw [eq_ss]; rfl
  refine ret_at (op_at (callF_at (cons_at (var_at rfl) (cons_at (var_at rfl) (cons_at (var_at rfl) (cons_at (callF_at (cons_at (var_at rfl) (cons_at (d := .lst [.int (-1), .int ((ts.length : Int) + 1), .non, .str "1", .bl true, .tup [.int 1]]) (A1 := A11) ?_ nil_at)) rfl e12) nil_at)))) rfl hd) rfl eqm)
  exact lst_at (cons_at (d := .int (-1)) rfl (cons_at (op_at (var_at rfl) rfl add_ii) (cons_at rfl (cons_at rfl (cons_at rfl (cons_at (d := .tup [.int 1]) rfl nil_at)))))) (by simp)
end K67
end
section
set_option maxHeartbeats 4000000
namespace K67
open PySem PySem.Spec PyProof.Rows L2 DM
theorem law_true {P : Program} {w : World} {K : PySem.W.Frag} {mg : Str → Option Value} {base : Heap} {ad : Nat → Addr} {fd : Nat → FuncData} {tb : Nat → Addr × Addr} (T : Tx P w K mg ad fd tb) (ns : List Int) (hl : ns.length ≤ 63) (hb : ∀ z ∈ ns, Builtin.Int.intBits z ≤ 1048576) :
    ∃ (mf : List D → AH → Res D) (AE : AH), mf [.lst (ns.map D.int)] (tabs0 []) = .ok (.bl true) AE ∧ FnD P w K mg base 5 (ad 15) (fd 15) ["_law_script"] mf := by
  obtain ⟨AE, e⟩ := law_holds ns (tabs0 [])
  have gis_integer : FnD P w K mg base 1 (ad 0) (fd 0) ["value"] (m_is_integer) := w_is_integer T 
  have gspans : FnD P w K mg base 1 (ad 1) (fd 1) ["row"] (m_spans) := w_spans T 
  have gsees : FnD P w K mg base 1 (ad 2) (fd 2) ["stamp", "span"] (m_sees) := w_sees T 
  have gnew_values : FnD P w K mg base 2 (ad 4) (fd 4) ["rows", "before", "stamp"] (m_new_values (m_spans) (m_sees)) := w_new_values T gspans gsees
  have gvalues_kept : FnD P w K mg base 3 (ad 3) (fd 3) ["rows", "stamps", "now"] (m_values_kept (m_new_values (m_spans) (m_sees))) := w_values_kept T gnew_values
  have gthinned : FnD P w K mg base 3 (ad 5) (fd 5) ["rows", "stamps", "now", "many"] (m_thinned (m_is_integer) (m_new_values (m_spans) (m_sees))) := w_thinned T gis_integer gnew_values
  have g_law_deal : FnD P w K mg base 1 (ad 6) (fd 6) ["_law_script", "_law_base"] (m__law_deal) := w__law_deal T 
  have g_law_any : FnD P w K mg base 1 (ad 7) (fd 7) ["_law_deal_here", "_law_bound"] (m__law_any) := w__law_any T 
  have g_law_of : FnD P w K mg base 2 (ad 8) (fd 8) ["_law_deal_here", "_law_some"] (m__law_of (m__law_any)) := w__law_of T g_law_any
  have g_law_keys : FnD P w K mg base 3 (ad 9) (fd 9) ["_law_deal_here", "_law_many"] (m__law_keys (m__law_of (m__law_any)) (m__law_any)) := w__law_keys T g_law_of g_law_any
  have g_law_value : FnD P w K mg base 3 (ad 10) (fd 10) ["_law_deal_here"] (m__law_value (m__law_any) (m__law_of (m__law_any))) := w__law_value T g_law_any g_law_of
  have g_law_row : FnD P w K mg base 4 (ad 11) (fd 11) ["_law_deal_here", "_law_now"] (m__law_row (m__law_any) (m__law_value (m__law_any) (m__law_of (m__law_any)))) := w__law_row T g_law_any g_law_value
  have g_law_masks : FnD P w K mg base 1 (ad 12) (fd 12) ["_law_rows", "_law_stamps", "_law_now"] (m__law_masks) := w__law_masks T 
  have g_law_best : FnD P w K mg base 1 (ad 13) (fd 13) ["_law_masks_here", "_law_stamps", "_law_many"] (m__law_best) := w__law_best T 
  have g_law_heard : FnD P w K mg base 4 (ad 14) (fd 14) ["_law_rows", "_law_stamps", "_law_now", "_law_many"] (m__law_heard (m_thinned (m_is_integer) (m_new_values (m_spans) (m_sees)))) := w__law_heard T gthinned
  have glaw : FnD P w K mg base 5 (ad 15) (fd 15) ["_law_script"] (m_law (m__law_deal) (m__law_any) (m__law_masks) (m__law_best) (m__law_heard (m_thinned (m_is_integer) (m_new_values (m_spans) (m_sees)))) (m_thinned (m_is_integer) (m_new_values (m_spans) (m_sees))) (m__law_of (m__law_any)) (m__law_row (m__law_any) (m__law_value (m__law_any) (m__law_of (m__law_any)))) (m__law_keys (m__law_of (m__law_any)) (m__law_any)) (m_values_kept (m_new_values (m_spans) (m_sees)))) := w_law T g_law_deal g_law_any g_law_masks g_law_best g_law_heard gthinned g_law_of g_law_row g_law_keys gvalues_kept
  exact ⟨lawM, AE, e, glaw⟩
end K67
end
set_option maxHeartbeats 4000000
namespace K67
open PySem PySem.Spec PyProof.Rows L2 DM
theorem law_end {l : PySem.W.OpenLaw} {q : Program} {w : World} {K : PySem.W.Frag} {h : Heap} {mg : Str → Option Value} {fa : Addr} (X : K.In h) (G : h.Ns mainGlobals mg) (hfa : mg "law" = some (.ref fa)) {f0 f1 f2 f3 f4 f5 f6 f7 f8 f9 f10 f11 f12 f13 f14 f15 f16 f17 f19 : Addr}
    {oc0 kV0 dc0 pm0 cd0 ct0 : Value} {od0 an0 : Option Addr} {sl0 : Array (Option Value)}
    (a0 : PySem.W.nsIn K mainGlobals "is_integer" = some (some (.ref f0)))
    (l0 : K.lookup f0 = some ⟨oc0, od0, .func (PySem.W.fnOf "is_integer" "is_integer" (defArgs x_is_integer) (defBody x_is_integer) (defScope x_is_integer) .none kV0 dc0 pm0 an0 cd0 ct0), sl0⟩)
    (c0 : PySem.W.codeIn K cd0 "is_integer" = true)
    (k0 : PySem.W.keepIn K (.ref f0) = true)
    {oc1 kV1 dc1 pm1 cd1 ct1 : Value} {od1 an1 : Option Addr} {sl1 : Array (Option Value)}
    (a1 : PySem.W.nsIn K mainGlobals "spans" = some (some (.ref f1)))
    (l1 : K.lookup f1 = some ⟨oc1, od1, .func (PySem.W.fnOf "spans" "spans" (defArgs x_spans) (defBody x_spans) (defScope x_spans) .none kV1 dc1 pm1 an1 cd1 ct1), sl1⟩)
    (c1 : PySem.W.codeIn K cd1 "spans" = true)
    (k1 : PySem.W.keepIn K (.ref f1) = true)
    {oc2 kV2 dc2 pm2 cd2 ct2 : Value} {od2 an2 : Option Addr} {sl2 : Array (Option Value)}
    (a2 : PySem.W.nsIn K mainGlobals "sees" = some (some (.ref f2)))
    (l2 : K.lookup f2 = some ⟨oc2, od2, .func (PySem.W.fnOf "sees" "sees" (defArgs x_sees) (defBody x_sees) (defScope x_sees) .none kV2 dc2 pm2 an2 cd2 ct2), sl2⟩)
    (c2 : PySem.W.codeIn K cd2 "sees" = true)
    (k2 : PySem.W.keepIn K (.ref f2) = true)
    {oc3 kV3 dc3 pm3 cd3 ct3 : Value} {od3 an3 : Option Addr} {sl3 : Array (Option Value)}
    (a3 : PySem.W.nsIn K mainGlobals "values_kept" = some (some (.ref f3)))
    (l3 : K.lookup f3 = some ⟨oc3, od3, .func (PySem.W.fnOf "values_kept" "values_kept" (defArgs x_values_kept) (defBody x_values_kept) (defScope x_values_kept) .none kV3 dc3 pm3 an3 cd3 ct3), sl3⟩)
    (c3 : PySem.W.codeIn K cd3 "values_kept" = true)
    (k3 : PySem.W.keepIn K (.ref f3) = true)
    {oc4 kV4 dc4 pm4 cd4 ct4 : Value} {od4 an4 : Option Addr} {sl4 : Array (Option Value)}
    (a4 : PySem.W.nsIn K mainGlobals "new_values" = some (some (.ref f4)))
    (l4 : K.lookup f4 = some ⟨oc4, od4, .func (PySem.W.fnOf "new_values" "new_values" (defArgs x_new_values) (defBody x_new_values) (defScope x_new_values) .none kV4 dc4 pm4 an4 cd4 ct4), sl4⟩)
    (c4 : PySem.W.codeIn K cd4 "new_values" = true)
    (k4 : PySem.W.keepIn K (.ref f4) = true)
    {oc5 kV5 dc5 pm5 cd5 ct5 : Value} {od5 an5 : Option Addr} {sl5 : Array (Option Value)}
    (a5 : PySem.W.nsIn K mainGlobals "thinned" = some (some (.ref f5)))
    (l5 : K.lookup f5 = some ⟨oc5, od5, .func (PySem.W.fnOf "thinned" "thinned" (defArgs x_thinned) (defBody x_thinned) (defScope x_thinned) .none kV5 dc5 pm5 an5 cd5 ct5), sl5⟩)
    (c5 : PySem.W.codeIn K cd5 "thinned" = true)
    (k5 : PySem.W.keepIn K (.ref f5) = true)
    {oc6 kV6 dc6 pm6 cd6 ct6 : Value} {od6 an6 : Option Addr} {sl6 : Array (Option Value)}
    (a6 : PySem.W.nsIn K mainGlobals "_law_deal" = some (some (.ref f6)))
    (l6 : K.lookup f6 = some ⟨oc6, od6, .func (PySem.W.fnOf "_law_deal" "_law_deal" (defArgs x__law_deal) (defBody x__law_deal) (defScope x__law_deal) .none kV6 dc6 pm6 an6 cd6 ct6), sl6⟩)
    (c6 : PySem.W.codeIn K cd6 "_law_deal" = true)
    (k6 : PySem.W.keepIn K (.ref f6) = true)
    {oc7 kV7 dc7 pm7 cd7 ct7 : Value} {od7 an7 : Option Addr} {sl7 : Array (Option Value)}
    (a7 : PySem.W.nsIn K mainGlobals "_law_any" = some (some (.ref f7)))
    (l7 : K.lookup f7 = some ⟨oc7, od7, .func (PySem.W.fnOf "_law_any" "_law_any" (defArgs x__law_any) (defBody x__law_any) (defScope x__law_any) .none kV7 dc7 pm7 an7 cd7 ct7), sl7⟩)
    (c7 : PySem.W.codeIn K cd7 "_law_any" = true)
    (k7 : PySem.W.keepIn K (.ref f7) = true)
    {oc8 kV8 dc8 pm8 cd8 ct8 : Value} {od8 an8 : Option Addr} {sl8 : Array (Option Value)}
    (a8 : PySem.W.nsIn K mainGlobals "_law_of" = some (some (.ref f8)))
    (l8 : K.lookup f8 = some ⟨oc8, od8, .func (PySem.W.fnOf "_law_of" "_law_of" (defArgs x__law_of) (defBody x__law_of) (defScope x__law_of) .none kV8 dc8 pm8 an8 cd8 ct8), sl8⟩)
    (c8 : PySem.W.codeIn K cd8 "_law_of" = true)
    (k8 : PySem.W.keepIn K (.ref f8) = true)
    {oc9 kV9 dc9 pm9 cd9 ct9 : Value} {od9 an9 : Option Addr} {sl9 : Array (Option Value)}
    (a9 : PySem.W.nsIn K mainGlobals "_law_keys" = some (some (.ref f9)))
    (l9 : K.lookup f9 = some ⟨oc9, od9, .func (PySem.W.fnOf "_law_keys" "_law_keys" (defArgs x__law_keys) (defBody x__law_keys) (defScope x__law_keys) .none kV9 dc9 pm9 an9 cd9 ct9), sl9⟩)
    (c9 : PySem.W.codeIn K cd9 "_law_keys" = true)
    (k9 : PySem.W.keepIn K (.ref f9) = true)
    {oc10 kV10 dc10 pm10 cd10 ct10 : Value} {od10 an10 : Option Addr} {sl10 : Array (Option Value)}
    (a10 : PySem.W.nsIn K mainGlobals "_law_value" = some (some (.ref f10)))
    (l10 : K.lookup f10 = some ⟨oc10, od10, .func (PySem.W.fnOf "_law_value" "_law_value" (defArgs x__law_value) (defBody x__law_value) (defScope x__law_value) .none kV10 dc10 pm10 an10 cd10 ct10), sl10⟩)
    (c10 : PySem.W.codeIn K cd10 "_law_value" = true)
    (k10 : PySem.W.keepIn K (.ref f10) = true)
    {oc11 kV11 dc11 pm11 cd11 ct11 : Value} {od11 an11 : Option Addr} {sl11 : Array (Option Value)}
    (a11 : PySem.W.nsIn K mainGlobals "_law_row" = some (some (.ref f11)))
    (l11 : K.lookup f11 = some ⟨oc11, od11, .func (PySem.W.fnOf "_law_row" "_law_row" (defArgs x__law_row) (defBody x__law_row) (defScope x__law_row) .none kV11 dc11 pm11 an11 cd11 ct11), sl11⟩)
    (c11 : PySem.W.codeIn K cd11 "_law_row" = true)
    (k11 : PySem.W.keepIn K (.ref f11) = true)
    {oc12 kV12 dc12 pm12 cd12 ct12 : Value} {od12 an12 : Option Addr} {sl12 : Array (Option Value)}
    (a12 : PySem.W.nsIn K mainGlobals "_law_masks" = some (some (.ref f12)))
    (l12 : K.lookup f12 = some ⟨oc12, od12, .func (PySem.W.fnOf "_law_masks" "_law_masks" (defArgs x__law_masks) (defBody x__law_masks) (defScope x__law_masks) .none kV12 dc12 pm12 an12 cd12 ct12), sl12⟩)
    (c12 : PySem.W.codeIn K cd12 "_law_masks" = true)
    (k12 : PySem.W.keepIn K (.ref f12) = true)
    {oc13 kV13 dc13 pm13 cd13 ct13 : Value} {od13 an13 : Option Addr} {sl13 : Array (Option Value)}
    (a13 : PySem.W.nsIn K mainGlobals "_law_best" = some (some (.ref f13)))
    (l13 : K.lookup f13 = some ⟨oc13, od13, .func (PySem.W.fnOf "_law_best" "_law_best" (defArgs x__law_best) (defBody x__law_best) (defScope x__law_best) .none kV13 dc13 pm13 an13 cd13 ct13), sl13⟩)
    (c13 : PySem.W.codeIn K cd13 "_law_best" = true)
    (k13 : PySem.W.keepIn K (.ref f13) = true)
    {oc14 kV14 dc14 pm14 cd14 ct14 : Value} {od14 an14 : Option Addr} {sl14 : Array (Option Value)}
    (a14 : PySem.W.nsIn K mainGlobals "_law_heard" = some (some (.ref f14)))
    (l14 : K.lookup f14 = some ⟨oc14, od14, .func (PySem.W.fnOf "_law_heard" "_law_heard" (defArgs x__law_heard) (defBody x__law_heard) (defScope x__law_heard) .none kV14 dc14 pm14 an14 cd14 ct14), sl14⟩)
    (c14 : PySem.W.codeIn K cd14 "_law_heard" = true)
    (k14 : PySem.W.keepIn K (.ref f14) = true)
    {oc15 kV15 dc15 pm15 cd15 ct15 : Value} {od15 an15 : Option Addr} {sl15 : Array (Option Value)}
    (a15 : PySem.W.nsIn K mainGlobals "law" = some (some (.ref f15)))
    (l15 : K.lookup f15 = some ⟨oc15, od15, .func (PySem.W.fnOf "law" "law" (defArgs x_law) (defBody x_law) (defScope x_law) .none kV15 dc15 pm15 an15 cd15 ct15), sl15⟩)
    (c15 : PySem.W.codeIn K cd15 "law" = true)
    (k15 : PySem.W.keepIn K (.ref f15) = true)
    (sp : PySem.W.specialIn K (.builtin "object.__class__") "__get__" = some (some (.builtin "getset_descriptor.__get__")))
    (tp : PySem.W.takesIn K (.builtin "object.__class__") = some true)
    (tq : PySem.W.nsIn K cStatics "thirdparty.any" = some none)
    (tr : (l.prog.main.scope.names.lookup ("super" : Str)).isSome = false)
    (ea16 : PySem.W.nsIn K mainGlobals "StoreError" = some (some (.ref f16)))
    (eb16 : PySem.W.findIn K (.ref f16) "__getattribute__" = some (some (.builtin "BaseException.__getattribute__")))
    (ec16 : PySem.W.findIn K (.ref f16) "__getattr__" = some none)
    (ed16 : PySem.W.subIn K (.ref f16) (.type "BaseException") = some true)
    (ee16 : PySem.W.hasDictIn K f16 = true)
    (ef16 : PySem.W.findIn K (.ref f16) "__class__" = some (some (.builtin "object.__class__")))
    (eg16 : PySem.W.mroIn K f16 (.type "object") = some true)
    (eh16 : PySem.W.typeIn K (.ref f16) = some (.type "type"))
    (ei16 : PySem.W.keepIn K (.ref f16) = true)
    (ej16 : PySem.W.subIn K (.ref f16) (.ref f16) = some true)
    (ea17 : PySem.W.nsIn K mainGlobals "InvalidSize" = some (some (.ref f17)))
    (eb17 : PySem.W.findIn K (.ref f17) "__getattribute__" = some (some (.builtin "BaseException.__getattribute__")))
    (ec17 : PySem.W.findIn K (.ref f17) "__getattr__" = some none)
    (ed17 : PySem.W.subIn K (.ref f17) (.type "BaseException") = some true)
    (ee17 : PySem.W.hasDictIn K f17 = true)
    (ef17 : PySem.W.findIn K (.ref f17) "__class__" = some (some (.builtin "object.__class__")))
    (eg17 : PySem.W.mroIn K f17 (.type "object") = some true)
    (eh17 : PySem.W.typeIn K (.ref f17) = some (.type "type"))
    (ei17 : PySem.W.keepIn K (.ref f17) = true)
    (ej17 : PySem.W.subIn K (.ref f17) (.ref f17) = some true)
    (en17_word : PySem.W.findIn K (.ref f17) "word" = some none)
    (eu17_17 : PySem.W.subIn K (.ref f17) (.ref f17) = some true)
    {nm17 qn17 : Str} {N17 : Addr} {bs17 bm17 : List Value} {sn17 : List Str} {sb17 : List Value} {ab17 : Bool} {cl17 : Option Bool} {dd17 : Option Addr} {ka17 kb17 kc17 kd17 ke17 : Option Value}
    {oc17 kV17 dc17 pm17 ct17 ccl17 cel17 : Value} {od17 an17 cdd17 cld17 : Option Addr} {sl17 ccs17 csl17 : Array (Option Value)} {qual17 file17 : Str} {cda17 cc17 : Addr} {vs17 : Array Value} {tf17 : Tok}
    (xa17 : K.lookup f17 = some (excClassObj nm17 qn17 f17 N17 bs17 bm17 true sn17 sb17 ab17 cl17 dd17 ka17 kb17 kc17 kd17 ke17 "Exception.__new__"))
    (xb17 : ErE.Line [.type "Exception", .type "BaseException", .type "object"] bm17)
    (xc17 : PySem.W.findIn K (.ref f17) "__setattr__" = some (some (.builtin "object.__setattr__")))
    (xd17 : PySem.W.findIn K (.ref f17) "__init__" = some (some (.ref f19)))
    (xe17 : PySem.W.typeIn K (.ref f19) = some (.type "function"))
    (xf17 : PySem.W.ks_superIn K f17 f17 "__init__" = some (some (.builtin "Exception.__init__")))
    (xg17 : PySem.W.subIn K (.ref f17) (.type "Exception") = some true)
    (xh17 : K.lookup f19 = some ⟨oc17, od17, .func (PySem.W.ksFn "__init__" qual17 (defArgs (methAt x_InvalidSize 0)) (defBody (methAt x_InvalidSize 0)) (defScope (methAt x_InvalidSize 0)) .none kV17 dc17 pm17 an17 (.ref cda17) ct17 cc17), sl17⟩)
    (xi17 : PySem.W.codeIn K (.ref cda17) qual17 = true)
    (xj17 : K.lookup cda17 = some ⟨ccl17, cdd17, .fields vs17, ccs17⟩)
    (xk17 : vs17[2]? = some (.str file17 tf17))
    (xl17 : ((l.prog.main.file : Str) == file17) = true)
    (xm17 : K.lookup cc17 = some ⟨cel17, cld17, .cell (some (.ref f17)), csl17⟩)
    (z0 : PySem.W.nsIn K mainGlobals "abs" = some none)
    (z1 : PySem.W.nsIn K mainGlobals "bool" = some none)
    (z2 : PySem.W.nsIn K mainGlobals "enumerate" = some none)
    (z3 : PySem.W.nsIn K mainGlobals "int" = some none)
    (z4 : PySem.W.nsIn K mainGlobals "isinstance" = some none)
    (z5 : PySem.W.nsIn K mainGlobals "len" = some none)
    (z6 : PySem.W.nsIn K mainGlobals "min" = some none)
    (z7 : PySem.W.nsIn K mainGlobals "range" = some none)
    (z8 : PySem.W.nsIn K mainGlobals "repr" = some none)
    (z9 : PySem.W.nsIn K mainGlobals "set" = some none)
    (z10 : PySem.W.nsIn K mainGlobals "sorted" = some none)
    (z11 : PySem.W.nsIn K mainGlobals "str" = some none)
    (z12 : PySem.W.nsIn K mainGlobals "sum" = some none)
    (z13 : PySem.W.nsIn K mainGlobals "super" = some none)
    (z14 : PySem.W.nsIn K mainGlobals "tuple" = some none)
    (z15 : PySem.W.nsIn K mainGlobals "zip" = some none)
    : ∃ (fd : FuncData) (cs : Tabs0), (∀ p ∈ cs, ∃ (y : Str) (e : DefRec), (recsOf q).find? (fun e => e.name == y) = some e ∧ PySem.W.tabIn K y = some (p.1, p.2.1)) ∧ (∀ p ∈ cs, K.lookup p.2.1 = none) ∧ (cs.map (·.2.1)).Nodup ∧
        (∀ (s : Shared) (u : Value), BindsTo s fd ⟨[u], []⟩ [("_law_script", u)]) ∧ ∀ base : Heap, K.In base → base.Ns mainGlobals mg → (∀ p ∈ cs, LamX.TabB base mg p.1 p.2.1) → ∀ ns : List Int, ns.length ≤ 63 → (∀ z ∈ ns, Builtin.Int.intBits z ≤ 1048576) →
        ∃ (mf : List D → AH → Res D) (AE : AH), mf [.lst (ns.map D.int)] (tabs0 cs) = .ok (.bl true) AE ∧ FnD l.prog w K mg base 5 fa fd ["_law_script"] mf := by
  have e := hfa.symm.trans (PySem.W.mg_of X G a15)
  cases e
  have T := tx_mk (P := l.prog) (w := w) X G a0 l0 c0 k0 a1 l1 c1 k1 a2 l2 c2 k2 a3 l3 c3 k3 a4 l4 c4 k4 a5 l5 c5 k5 a6 l6 c6 k6 a7 l7 c7 k7 a8 l8 c8 k8 a9 l9 c9 k9 a10 l10 c10 k10 a11 l11 c11 k11 a12 l12 c12 k12 a13 l13 c13 k13 a14 l14 c14 k14 a15 l15 c15 k15 sp tp tq tr ea16 eb16 ec16 ed16 ee16 ef16 eg16 eh16 ei16 ej16 ea17 eb17 ec17 ed17 ee17 ef17 eg17 eh17 ei17 ej17 en17_word eu17_17 xa17 xb17 xc17 xd17 xe17 xf17 xg17 xh17 xi17 xj17 xk17 xl17 xm17 z0 z1 z2 z3 z4 z5 z6 z7 z8 z9 z10 z11 z12 z13 z14 z15
  exact ⟨_, [], fun p hp => (nomatch hp), fun p hp => (nomatch hp), List.nodup_nil, fun s u => .of_eq rfl, fun base _ _ _ ns hl hb => law_true T ns hl hb⟩
end K67
open PySem PySem.W PyProof.Rows
set_option maxHeartbeats 0 in
theorem PySem.Challenge.cw_spelledways_k67_whole_which_stamps_to_ke_holds : PySem.Challenge.rw_spelledways_k67_whole_which_stamps_to_ke.Holds := by
  w_on; o_law; k_head; (case hw => w_witness2)
  k_fill
  refine DM.law_walk (l := PySem.Challenge.rw_spelledways_k67_whole_which_stamps_to_ke) (n := 63) (k := 5) (x := "_law_script") rfl (by decide) rfl ⟨rfl, by decide, by decide⟩ (fun w h Y => by first | exact PySem.W.kIn_of Y | exact PySem.W.km_in_of Y) ?F
  case F =>
    intro w mg fa h KX G hmg
    refine' K67.law_end KX G hmg ?a0 ?l0 ?c0 ?k0 ?a1 ?l1 ?c1 ?k1 ?a2 ?l2 ?c2 ?k2 ?a3 ?l3 ?c3 ?k3 ?a4 ?l4 ?c4 ?k4 ?a5 ?l5 ?c5 ?k5 ?a6 ?l6 ?c6 ?k6 ?a7 ?l7 ?c7 ?k7 ?a8 ?l8 ?c8 ?k8 ?a9 ?l9 ?c9 ?k9 ?a10 ?l10 ?c10 ?k10 ?a11 ?l11 ?c11 ?k11 ?a12 ?l12 ?c12 ?k12 ?a13 ?l13 ?c13 ?k13 ?a14 ?l14 ?c14 ?k14 ?a15 ?l15 ?c15 ?k15 ?sp ?tp ?tq ?tr ?ea16 ?eb16 ?ec16 ?ed16 ?ee16 ?ef16 ?eg16 ?eh16 ?ei16 ?ej16 ?ea17 ?eb17 ?ec17 ?ed17 ?ee17 ?ef17 ?eg17 ?eh17 ?ei17 ?ej17 ?en17_word ?eu17_17 ?xa17 ?xb17 ?xc17 ?xd17 ?xe17 ?xf17 ?xg17 ?xh17 ?xi17 ?xj17 ?xk17 ?xl17 ?xm17 ?z0 ?z1 ?z2 ?z3 ?z4 ?z5 ?z6 ?z7 ?z8 ?z9 ?z10 ?z11 ?z12 ?z13 ?z14 ?z15
    (case a0 => k_is); (case l0 => k_is); (case c0 => k_is); (case k0 => k_is); (case a1 => k_is); (case l1 => k_is); (case c1 => k_is); (case k1 => k_is); (case a2 => k_is); (case l2 => k_is); (case c2 => k_is); (case k2 => k_is); (case a3 => k_is); (case l3 => k_is); (case c3 => k_is); (case k3 => k_is); (case a4 => k_is); (case l4 => k_is); (case c4 => k_is); (case k4 => k_is); (case a5 => k_is); (case l5 => k_is); (case c5 => k_is); (case k5 => k_is); (case a6 => k_is); (case l6 => k_is); (case c6 => k_is); (case k6 => k_is); (case a7 => k_is); (case l7 => k_is); (case c7 => k_is); (case k7 => k_is); (case a8 => k_is); (case l8 => k_is); (case c8 => k_is); (case k8 => k_is); (case a9 => k_is); (case l9 => k_is); (case c9 => k_is); (case k9 => k_is); (case a10 => k_is); (case l10 => k_is); (case c10 => k_is); (case k10 => k_is); (case a11 => k_is); (case l11 => k_is); (case c11 => k_is); (case k11 => k_is); (case a12 => k_is); (case l12 => k_is); (case c12 => k_is); (case k12 => k_is); (case a13 => k_is); (case l13 => k_is); (case c13 => k_is); (case k13 => k_is); (case a14 => k_is); (case l14 => k_is); (case c14 => k_is); (case k14 => k_is); (case a15 => k_is); (case l15 => k_is); (case c15 => k_is); (case k15 => k_is); (case sp => k_is); (case tp => k_is); (case tq => k_is); (case tr => rfl); (case ea16 => k_is); (case eb16 => k_is); (case ec16 => k_is); (case ed16 => k_is); (case ee16 => k_is); (case ef16 => k_is); (case eg16 => k_is); (case eh16 => k_is); (case ei16 => k_is); (case ej16 => k_is); (case ea17 => k_is); (case eb17 => k_is); (case ec17 => k_is); (case ed17 => k_is); (case ee17 => k_is); (case ef17 => k_is); (case eg17 => k_is); (case eh17 => k_is); (case ei17 => k_is); (case ej17 => k_is); (case en17_word => k_is); (case eu17_17 => k_is); (case xa17 => k_is); (case xb17 => first | exact .tail | exact .own .tail | exact .own (.own .tail)); (case xc17 => k_is); (case xd17 => k_is); (case xe17 => k_is); (case xf17 => ks_is); (case xg17 => k_is); (case xh17 => k_is); (case xi17 => k_is); (case xj17 => k_is); (case xk17 => rfl); (case xl17 => first | rfl | decide +kernel); (case xm17 => k_is); (case z0 => k_is); (case z1 => k_is); (case z2 => k_is); (case z3 => k_is); (case z4 => k_is); (case z5 => k_is); (case z6 => k_is); (case z7 => k_is); (case z8 => k_is); (case z9 => k_is); (case z10 => k_is); (case z11 => k_is); (case z12 => k_is); (case z13 => k_is); (case z14 => k_is); (case z15 => k_is)
